/- Part 4 of the proof: own library, plain forms and walks. -/
import Derived.Test.YtcbgfmalillplaaQHolds3
set_option linter.all false
set_option linter.deprecated false
namespace Go.Ab
open Go Go.RowKit Go.Proofs Go.Sh Go.En
abbrev q108_1 (w:WayS) (m:Nat) (p:Nat) (C:Prop):Prop:=wb w/\m < 3/\1<=p/\p<=3->C
abbrev q108_2 (w:WayS) (m:Nat) (p:Nat) (C:Nat->Prop):Prop:=q108_1 w m p (∀ (x0:Nat),x0<=p->decide ((x0:Int) < p)=true->C x0)
abbrev q108_3 (w:WayS) (m:Nat) (p:Nat) (C:Nat->Nat->Prop):Prop:=q108_2 w m p fun x0 => ∀ (x2:Nat),x2<=p->decide ((x2:Int) < p)=true->C x0 x2
abbrev q108_4 (w:WayS) (m:Nat) (p:Nat) (C:Nat->Nat->Prop):Prop:=q108_3 w m p fun x0 x2=>(!decide ((x0:Int)=x2))->C x0 x2
abbrev q108_5 (w:WayS) (m:Nat) (p:Nat) (C:Nat->Nat->Prop):Prop:=q108_3 w m p fun x0 x2=>(!decide ((x0:Int)=x2))=false->C x0 x2
abbrev q108_6 (w:WayS) (m:Nat) (p:Nat) (C:Nat->Nat->Prop):Prop:=q108_2 w m p fun x0 => ∀ (x2:Nat),x2<=p->decide ((x2:Int) < p)=false->C x0 x2
abbrev q108_7 (w:WayS) (m:Nat) (p:Nat) (C:Nat->Prop):Prop:=q108_1 w m p (∀ (x0:Nat),x0<=p->decide ((x0:Int) < p)=false->C x0)
theorem w108 (w:WayS) (m:Nat) (p:Nat)
 (o0:q108_1 w m p (0<=(↑m:Int)))
 (o1:q108_1 w m p ((m:Int) < (↑3:Int)))
 (o2:q108_1 w m p (0<=(↑p:Int)))
 (o3:q108_1 w m p ((p:Int)<=(↑3:Int)))
 (o4:q108_1 w m p (0 < (↑p:Int)))
 (o5:q108_1 w m p (m < 3))
 (o6:q108_1 w m p (0 < (↑p:Int)))
 (o7:q108_1 w m p (m < 3))
 (o8:q108_1 w m p ((w.whn m 0).hi=(sprTo (w.whn m) p 0).first))
 (o9:q108_1 w m p ((w.whn m 0).lo=(sprTo (w.whn m) p 0).last))
 (o10:q108_1 w m p (0=(sprTo (w.whn m) p 0).high))
 (o11:q108_1 w m p (0=(↑0:Int)))
 (o12:q108_1 w m p (0<=p))
 (o13:q108_2 w m p fun x0=>0<=(x0:Int))
 (o14:q108_2 w m p fun x0=>(x0:Int) < p)
 (o15:q108_2 w m p fun x0=>m < 3)
 (o16:q108_2 w m p fun x0=>x0 < 3)
 (o17:q108_2 w m p fun x0=>(sprTo (w.whn m) p x0).high=sprIn (w.whn m) x0 (sprTo (w.whn m) p x0).high 0)
 (o18:q108_2 w m p fun x0=>0=(↑0:Int))
 (o19:q108_2 w m p fun x0=>0<=p)
 (o20:q108_3 w m p fun x0 x2=>0<=(x2:Int))
 (o21:q108_3 w m p fun x0 x2=>(x2:Int) < p)
 (o22:q108_3 w m p fun x0 x2=>m < 3)
 (o23:q108_3 w m p fun x0 x2=>x2 < 3)
 (o24:q108_4 w m p fun x0 x2=>inI ((w.whn m x0).hi - (w.whn m x2).lo))
 (o25:q108_4 w m p fun x0 x2=>inI ((x2:Int) + 1))
 (o26:q108_4 w m p fun x0 x2=>max (sprIn (w.whn m) x0 (sprTo (w.whn m) p x0).high x2) ((w.whn m x0).hi - (w.whn m x2).lo)=sprIn (w.whn m) x0 (sprTo (w.whn m) p x0).high (x2 + 1))
 (o27:q108_4 w m p fun x0 x2=>(x2:Int) + 1=(↑(x2 + 1):Int))
 (o28:q108_4 w m p fun x0 x2=>x2 + 1<=p)
 (o29:q108_4 w m p fun x0 x2=>p - (x2 + 1) < p - x2)
 (o30:q108_5 w m p fun x0 x2=>inI ((x2:Int) + 1))
 (o31:q108_5 w m p fun x0 x2=>sprIn (w.whn m) x0 (sprTo (w.whn m) p x0).high x2=sprIn (w.whn m) x0 (sprTo (w.whn m) p x0).high (x2 + 1))
 (o32:q108_5 w m p fun x0 x2=>(x2:Int) + 1=(↑(x2 + 1):Int))
 (o33:q108_5 w m p fun x0 x2=>x2 + 1<=p)
 (o34:q108_5 w m p fun x0 x2=>p - (x2 + 1) < p - x2)
 (o35:q108_6 w m p fun x0 x2=>inI ((x0:Int) + 1))
 (o36:q108_6 w m p fun x0 x2=>min (sprTo (w.whn m) p x0).first (w.whn m x0).hi=(sprTo (w.whn m) p (x0 + 1)).first)
 (o37:q108_6 w m p fun x0 x2=>max (sprTo (w.whn m) p x0).last (w.whn m x0).lo=(sprTo (w.whn m) p (x0 + 1)).last)
 (o38:q108_6 w m p fun x0 x2=>sprIn (w.whn m) x0 (sprTo (w.whn m) p x0).high x2=(sprTo (w.whn m) p (x0 + 1)).high)
 (o39:q108_6 w m p fun x0 x2=>(x0:Int) + 1=(↑(x0 + 1):Int))
 (o40:q108_6 w m p fun x0 x2=>x0 + 1<=p)
 (o41:q108_6 w m p fun x0 x2=>p - (x0 + 1) < p - x0)
 (o42:q108_7 w m p fun x0=>inI ((sprTo (w.whn m) p x0).last - (sprTo (w.whn m) p x0).first))
 (o43:q108_7 w m p fun x0=>max 0 ((sprTo (w.whn m) p x0).last - (sprTo (w.whn m) p x0).first)=(spread (w.whn m) p).lo)
 (o44:q108_7 w m p fun x0=>(sprTo (w.whn m) p x0).high=(spread (w.whn m) p).hi) :
  Triple Try.prog 108 (s108 w m p):=by
 refine triple_of Try.func108 rfl Try.call108 T0_ok _ rfl rfl rfl rfl (Nat.le_of_ble_eq_true (by kernel_rfl)) (fun _ _ _ _ h=>h) ?_
 intro hp C hC _ hE
 obtain ⟨P,w0,E0,av,hA⟩:=C
 subst hC
 refine swp_seq ?_
 refine sR (kt:=[1,2,3,6]) (kh:=[0,8]) (q:=True/\True/\True) (st':=ASt.mk [(1,iv (m:Int)),(2,iv (p:Int)),(3,.ptr 0 []),(6,.ptr 8 [])] [(0,.cells 107 (cWay w)),(8,.cells 37 [iv 0,iv 0])] 16) (by kernel_rfl) ⟨tv,tv,tv⟩ ?_
 refine swp_seq ?_
 refine sR (kt:=[6,7]) (kh:=[8,0]) (q:=True/\True/\(0<=(m:Int)/\(m:Int) < (↑3:Int))/\True/\(0<=(p:Int)/\(p:Int)<=(↑3:Int))/\True/\True) (st':=ASt.mk [(6,.ptr 8 []),(7,.win 0 [PS.fld 1,PS.idx m 6] 2 p)] [(8,.cells 37 [iv 0,iv 0]),(0,.cells 107 (cWay w))] 64) (by kernel_rfl) ⟨tv,tv,⟨(o0 hp),(o1 hp)⟩,tv,⟨(o2 hp),(o3 hp)⟩,tv,tv⟩ ?_
 refine swp_seq ?_
 refine sR (kt:=[6,7,8,9,10]) (kh:=[8,0]) (q:=True/\(Int.ofNat 0<=Int.ofNat 0/\0 < (p:Int))/\True/\(m < 3/\0 < 3/\True)/\True/\(Int.ofNat 0<=Int.ofNat 0/\0 < (p:Int))/\True/\(m < 3/\0 < 3/\True)/\True/\True/\True/\True) (st':=ASt.mk [(6,.ptr 8 []),(7,.win 0 [PS.fld 1,PS.idx m 6] 2 p),(8,iv (w.whn m 0).hi),(9,iv (w.whn m 0).lo),(10,iv 0)] [(8,.cells 37 [iv 0,iv 0]),(0,.cells 107 (cWay w))] 152) (by kernel_rfl) ⟨tv,⟨(by decide),(o4 hp)⟩,tv,⟨(o5 hp),(by decide),tv⟩,tv,⟨(by decide),(o6 hp)⟩,tv,⟨(o7 hp),(by decide),tv⟩,tv,tv,tv,tv⟩ ?_
 refine swp_seq (swp_seq ?_)
 refine sR (kt:=[6,7,8,9,10,28,29,30]) (kh:=[8,0]) (q:=True/\True/\True/\True) (st':=ASt.mk [(6,.ptr 8 []),(7,.win 0 [PS.fld 1,PS.idx m 6] 2 p),(8,iv (w.whn m 0).hi),(9,iv (w.whn m 0).lo),(10,iv 0),(28,.win 0 [PS.fld 1,PS.idx m 6] 2 p),(29,iv (p:Int)),(30,iv 0)] [(8,.cells 37 [iv 0,iv 0]),(0,.cells 107 (cWay w))] 176) (by kernel_rfl) ⟨tv,tv,tv,tv⟩ ?_
 refine swp_block ?_
 refine swp_loopA (Hint.ann (h108a w m p) [(6,AV.ptr 8 []),(7,AV.win 0 [PS.fld 1,PS.idx m 6] 2 p),(28,AV.win 0 [PS.fld 1,PS.idx m 6] 2 p),(29,iv (p:Int))] [(8,OB.cells 37 [iv 0,iv 0]),(0,OB.cells 107 (cWay w))] 10176) (ent_q hE [] [(8,.same 8),(0,.same 0)] [29] [8,0] (((some (Src.same 8)=some (Src.same 8)/\nilP = [])/\(some (Src.same 0)=some (Src.same 0) /\ [PS.fld 1,PS.idx m 6] = [PS.fld 1,PS.idx m 6]/\2=2/\p=p)/\(some (Src.same 0)=some (Src.same 0) /\ [PS.fld 1,PS.idx m 6] = [PS.fld 1,PS.idx m 6]/\2=2/\p=p)/\(iv (p:Int)=iv (p:Int)/\true=true)/\(iv (w.whn m 0).hi=iv (sprTo (w.whn m) p 0).first/\nilN = [])/\(iv (w.whn m 0).lo=iv (sprTo (w.whn m) p 0).last/\nilN = [])/\(iv 0=iv (sprTo (w.whn m) p 0).high/\nilN = [])/\(iv 0=iv (↑0:Int)/\nilN = [])/\True)/\((OB.cells 37 [iv 0,iv 0]=OB.cells 37 [iv 0,iv 0]/\true=true)/\(OB.cells 107 (cWay w)=OB.cells 107 (cWay w)/\true=true)/\True)/\T2) (by kernel_rfl) (by kernel_rfl) ⟨⟨⟨rfl,rfl⟩,⟨rfl,rfl,rfl,rfl⟩,⟨rfl,rfl,rfl,rfl⟩,⟨rfl,rfl⟩,⟨(congrArg iv (o8 hp)),rfl⟩,⟨(congrArg iv (o9 hp)),rfl⟩,⟨(congrArg iv (o10 hp)),rfl⟩,⟨(congrArg iv (o11 hp)),rfl⟩,tv⟩,⟨⟨rfl,rfl⟩,⟨rfl,rfl⟩,tv⟩,rfl,rfl⟩) (o12 hp) (fun (x0:Nat) hx0 => ?_)
 refine swp_seq ?_
 refine sR (kt:=[6,7,28,29,8,9,10,30,31]) (kh:=[8,0]) (q:=True/\True) (st':=ASt.mk [(6,.ptr 8 []),(7,.win 0 [PS.fld 1,PS.idx m 6] 2 p),(28,.win 0 [PS.fld 1,PS.idx m 6] 2 p),(29,iv (p:Int)),(8,iv (sprTo (w.whn m) p x0).first),(9,iv (sprTo (w.whn m) p x0).last),(10,iv (sprTo (w.whn m) p x0).high),(30,iv (x0:Int)),(31,bv (decide ((x0:Int) < p)))] [(8,.cells 37 [iv 0,iv 0]),(0,.cells 107 (cWay w))] 10184) (by kernel_rfl) ⟨tv,tv⟩ ?_
 refine swp_seq ?_
 refine swp_cond (decide ((x0:Int) < p)) (by kernel_rfl) (fun h1 => ?_) (fun h1 => ?_)
 ·refine swp_skip (swp_seq (swp_block (swp_seq ?_)))
  refine sR (kt:=[6,7,28,29,8,9,10,30,12,11]) (kh:=[8,0,10208]) (q:=True/\(0<=(x0:Int)/\(x0:Int) < p)/\(m < 3/\x0 < 3/\True)/\True/\True/\True/\True) (st':=ASt.mk [(6,.ptr 8 []),(7,.win 0 [PS.fld 1,PS.idx m 6] 2 p),(28,.win 0 [PS.fld 1,PS.idx m 6] 2 p),(29,iv (p:Int)),(8,iv (sprTo (w.whn m) p x0).first),(9,iv (sprTo (w.whn m) p x0).last),(10,iv (sprTo (w.whn m) p x0).high),(30,iv (x0:Int)),(12,.ptr 10208 []),(11,iv (x0:Int))] [(8,.cells 37 [iv 0,iv 0]),(0,.cells 107 (cWay w)),(10208,.cells 37 (cSpan (w.whn m x0)))] 10232) (by kernel_rfl) ⟨tv,⟨(o13 hp x0 hx0 h1),(o14 hp x0 hx0 h1)⟩,⟨(o15 hp x0 hx0 h1),(o16 hp x0 hx0 h1),tv⟩,tv,tv,tv,tv⟩ ?_
  refine swp_seq ?_
  refine sR (kt:=[6,7,28,29,8,9,10,30,12,11]) (kh:=[8,0,10208]) (q:=True/\True/\True/\True/\True/\True/\True/\True/\True/\True/\True) (st':=ASt.mk [(6,.ptr 8 []),(7,.win 0 [PS.fld 1,PS.idx m 6] 2 p),(28,.win 0 [PS.fld 1,PS.idx m 6] 2 p),(29,iv (p:Int)),(8,iv (min (sprTo (w.whn m) p x0).first (w.whn m x0).hi)),(9,iv (max (sprTo (w.whn m) p x0).last (w.whn m x0).lo)),(10,iv (sprTo (w.whn m) p x0).high),(30,iv (x0:Int)),(12,.ptr 10208 []),(11,iv (x0:Int))] [(8,.cells 37 [iv 0,iv 0]),(0,.cells 107 (cWay w)),(10208,.cells 37 (cSpan (w.whn m x0)))] 10312) (by kernel_rfl) ⟨tv,tv,tv,tv,tv,tv,tv,tv,tv,tv,tv⟩ ?_
  refine swp_seq ?_
  refine sR (kt:=[6,7,28,29,8,9,10,30,12,11,43,44,45]) (kh:=[8,0,10208]) (q:=True/\True/\True/\True) (st':=ASt.mk [(6,.ptr 8 []),(7,.win 0 [PS.fld 1,PS.idx m 6] 2 p),(28,.win 0 [PS.fld 1,PS.idx m 6] 2 p),(29,iv (p:Int)),(8,iv (min (sprTo (w.whn m) p x0).first (w.whn m x0).hi)),(9,iv (max (sprTo (w.whn m) p x0).last (w.whn m x0).lo)),(10,iv (sprTo (w.whn m) p x0).high),(30,iv (x0:Int)),(12,.ptr 10208 []),(11,iv (x0:Int)),(43,.win 0 [PS.fld 1,PS.idx m 6] 2 p),(44,iv (p:Int)),(45,iv 0)] [(8,.cells 37 [iv 0,iv 0]),(0,.cells 107 (cWay w)),(10208,.cells 37 (cSpan (w.whn m x0)))] 10336) (by kernel_rfl) ⟨tv,tv,tv,tv⟩ ?_
  refine swp_block ?_
  refine swp_loopA (Hint.ann (h108b w m p x0) [(6,AV.ptr 8 []),(7,AV.win 0 [PS.fld 1,PS.idx m 6] 2 p),(28,AV.win 0 [PS.fld 1,PS.idx m 6] 2 p),(29,iv (p:Int)),(8,iv (min (sprTo (w.whn m) p x0).first (w.whn m x0).hi)),(9,iv (max (sprTo (w.whn m) p x0).last (w.whn m x0).lo)),(30,iv (x0:Int)),(12,AV.ptr 10208 []),(11,iv (x0:Int)),(43,AV.win 0 [PS.fld 1,PS.idx m 6] 2 p),(44,iv (p:Int))] [(8,OB.cells 37 [iv 0,iv 0]),(0,OB.cells 107 (cWay w)),(10208,OB.cells 37 (cSpan (w.whn m x0)))] 20336) (ent_q hE [] [(8,.same 8),(0,.same 0),(10208,.same 10208)] [29,8,9,30,11,44] [8,0,10208] (((some (Src.same 8)=some (Src.same 8)/\nilP = [])/\(some (Src.same 0)=some (Src.same 0) /\ [PS.fld 1,PS.idx m 6] = [PS.fld 1,PS.idx m 6]/\2=2/\p=p)/\(some (Src.same 0)=some (Src.same 0) /\ [PS.fld 1,PS.idx m 6] = [PS.fld 1,PS.idx m 6]/\2=2/\p=p)/\(iv (p:Int)=iv (p:Int)/\true=true)/\(iv (min (sprTo (w.whn m) p x0).first (w.whn m x0).hi)=iv (min (sprTo (w.whn m) p x0).first (w.whn m x0).hi)/\true=true)/\(iv (max (sprTo (w.whn m) p x0).last (w.whn m x0).lo)=iv (max (sprTo (w.whn m) p x0).last (w.whn m x0).lo)/\true=true)/\(iv (x0:Int)=iv (x0:Int)/\true=true)/\(some (Src.same 10208)=some (Src.same 10208)/\nilP = [])/\(iv (x0:Int)=iv (x0:Int)/\true=true)/\(some (Src.same 0)=some (Src.same 0) /\ [PS.fld 1,PS.idx m 6] = [PS.fld 1,PS.idx m 6]/\2=2/\p=p)/\(iv (p:Int)=iv (p:Int)/\true=true)/\(iv (sprTo (w.whn m) p x0).high=iv (sprIn (w.whn m) x0 (sprTo (w.whn m) p x0).high 0)/\nilN = [])/\(iv 0=iv (↑0:Int)/\nilN = [])/\True)/\((OB.cells 37 [iv 0,iv 0]=OB.cells 37 [iv 0,iv 0]/\true=true)/\(OB.cells 107 (cWay w)=OB.cells 107 (cWay w)/\true=true)/\(OB.cells 37 (cSpan (w.whn m x0))=OB.cells 37 (cSpan (w.whn m x0))/\true=true)/\True)/\T2) (by kernel_rfl) (by kernel_rfl) ⟨⟨⟨rfl,rfl⟩,⟨rfl,rfl,rfl,rfl⟩,⟨rfl,rfl,rfl,rfl⟩,⟨rfl,rfl⟩,⟨rfl,rfl⟩,⟨rfl,rfl⟩,⟨rfl,rfl⟩,⟨rfl,rfl⟩,⟨rfl,rfl⟩,⟨rfl,rfl,rfl,rfl⟩,⟨rfl,rfl⟩,⟨(congrArg iv (o17 hp x0 hx0 h1)),rfl⟩,⟨(congrArg iv (o18 hp x0 hx0 h1)),rfl⟩,tv⟩,⟨⟨rfl,rfl⟩,⟨rfl,rfl⟩,⟨rfl,rfl⟩,tv⟩,rfl,rfl⟩) (o19 hp x0 hx0 h1) (fun (x2:Nat) hx2 => ?_)
  refine swp_seq ?_
  refine sR (kt:=[6,7,28,29,8,9,30,12,11,43,44,10,45,46]) (kh:=[8,0,10208]) (q:=True/\True) (st':=ASt.mk [(6,.ptr 8 []),(7,.win 0 [PS.fld 1,PS.idx m 6] 2 p),(28,.win 0 [PS.fld 1,PS.idx m 6] 2 p),(29,iv (p:Int)),(8,iv (min (sprTo (w.whn m) p x0).first (w.whn m x0).hi)),(9,iv (max (sprTo (w.whn m) p x0).last (w.whn m x0).lo)),(30,iv (x0:Int)),(12,.ptr 10208 []),(11,iv (x0:Int)),(43,.win 0 [PS.fld 1,PS.idx m 6] 2 p),(44,iv (p:Int)),(10,iv (sprIn (w.whn m) x0 (sprTo (w.whn m) p x0).high x2)),(45,iv (x2:Int)),(46,bv (decide ((x2:Int) < p)))] [(8,.cells 37 [iv 0,iv 0]),(0,.cells 107 (cWay w)),(10208,.cells 37 (cSpan (w.whn m x0)))] 20344) (by kernel_rfl) ⟨tv,tv⟩ ?_
  refine swp_seq ?_
  refine swp_cond (decide ((x2:Int) < p)) (by kernel_rfl) (fun h3 => ?_) (fun h3 => ?_)
  ·refine swp_skip (swp_seq (swp_block (swp_seq ?_)))
   refine sR (kt:=[6,7,28,29,8,9,30,12,11,43,44,10,45,14,13]) (kh:=[8,0,10208,20368]) (q:=True/\(0<=(x2:Int)/\(x2:Int) < p)/\(m < 3/\x2 < 3/\True)/\True/\True/\True/\True) (st':=ASt.mk [(6,.ptr 8 []),(7,.win 0 [PS.fld 1,PS.idx m 6] 2 p),(28,.win 0 [PS.fld 1,PS.idx m 6] 2 p),(29,iv (p:Int)),(8,iv (min (sprTo (w.whn m) p x0).first (w.whn m x0).hi)),(9,iv (max (sprTo (w.whn m) p x0).last (w.whn m x0).lo)),(30,iv (x0:Int)),(12,.ptr 10208 []),(11,iv (x0:Int)),(43,.win 0 [PS.fld 1,PS.idx m 6] 2 p),(44,iv (p:Int)),(10,iv (sprIn (w.whn m) x0 (sprTo (w.whn m) p x0).high x2)),(45,iv (x2:Int)),(14,.ptr 20368 []),(13,iv (x2:Int))] [(8,.cells 37 [iv 0,iv 0]),(0,.cells 107 (cWay w)),(10208,.cells 37 (cSpan (w.whn m x0))),(20368,.cells 37 (cSpan (w.whn m x2)))] 20392) (by kernel_rfl) ⟨tv,⟨(o20 hp x0 hx0 h1 x2 hx2 h3),(o21 hp x0 hx0 h1 x2 hx2 h3)⟩,⟨(o22 hp x0 hx0 h1 x2 hx2 h3),(o23 hp x0 hx0 h1 x2 hx2 h3),tv⟩,tv,tv,tv,tv⟩ ?_
   refine swp_seq ?_
   refine sR (kt:=[6,7,28,29,8,9,30,12,11,43,44,10,45,14,52]) (kh:=[8,0,10208,20368]) (q:=True/\True/\True/\True) (st':=ASt.mk [(6,.ptr 8 []),(7,.win 0 [PS.fld 1,PS.idx m 6] 2 p),(28,.win 0 [PS.fld 1,PS.idx m 6] 2 p),(29,iv (p:Int)),(8,iv (min (sprTo (w.whn m) p x0).first (w.whn m x0).hi)),(9,iv (max (sprTo (w.whn m) p x0).last (w.whn m x0).lo)),(30,iv (x0:Int)),(12,.ptr 10208 []),(11,iv (x0:Int)),(43,.win 0 [PS.fld 1,PS.idx m 6] 2 p),(44,iv (p:Int)),(10,iv (sprIn (w.whn m) x0 (sprTo (w.whn m) p x0).high x2)),(45,iv (x2:Int)),(14,.ptr 20368 []),(52,bv !decide ((x0:Int)=x2))] [(8,.cells 37 [iv 0,iv 0]),(0,.cells 107 (cWay w)),(10208,.cells 37 (cSpan (w.whn m x0))),(20368,.cells 37 (cSpan (w.whn m x2)))] 20416) (by kernel_rfl) ⟨tv,tv,tv,tv⟩ ?_
   refine swp_cond (!decide ((x0:Int)=x2)) (by kernel_rfl) (fun h4 => ?_) (fun h4 => ?_)
   ·refine sR (kt:=[6,7,28,29,8,9,30,12,11,43,44,10,45]) (kh:=[8,0,10208]) (q:=True/\True/\True/\True/\True/\inI ((w.whn m x0).hi - (w.whn m x2).lo)/\True/\True/\True) (st':=ASt.mk [(6,.ptr 8 []),(7,.win 0 [PS.fld 1,PS.idx m 6] 2 p),(28,.win 0 [PS.fld 1,PS.idx m 6] 2 p),(29,iv (p:Int)),(8,iv (min (sprTo (w.whn m) p x0).first (w.whn m x0).hi)),(9,iv (max (sprTo (w.whn m) p x0).last (w.whn m x0).lo)),(30,iv (x0:Int)),(12,.ptr 10208 []),(11,iv (x0:Int)),(43,.win 0 [PS.fld 1,PS.idx m 6] 2 p),(44,iv (p:Int)),(10,iv (max (sprIn (w.whn m) x0 (sprTo (w.whn m) p x0).high x2) ((w.whn m x0).hi - (w.whn m x2).lo))),(45,iv (x2:Int))] [(8,.cells 37 [iv 0,iv 0]),(0,.cells 107 (cWay w)),(10208,.cells 37 (cSpan (w.whn m x0)))] 20480) (by kernel_rfl) ⟨tv,tv,tv,tv,tv,(o24 hp x0 hx0 h1 x2 hx2 h3 h4),tv,tv,tv⟩ ?_
    refine sR (kt:=[6,7,28,29,8,9,30,12,11,43,44,10,45]) (kh:=[8,0,10208]) (q:=inI ((x2:Int) + 1)/\True/\True) (st':=ASt.mk [(6,.ptr 8 []),(7,.win 0 [PS.fld 1,PS.idx m 6] 2 p),(28,.win 0 [PS.fld 1,PS.idx m 6] 2 p),(29,iv (p:Int)),(8,iv (min (sprTo (w.whn m) p x0).first (w.whn m x0).hi)),(9,iv (max (sprTo (w.whn m) p x0).last (w.whn m x0).lo)),(30,iv (x0:Int)),(12,.ptr 10208 []),(11,iv (x0:Int)),(43,.win 0 [PS.fld 1,PS.idx m 6] 2 p),(44,iv (p:Int)),(10,iv (max (sprIn (w.whn m) x0 (sprTo (w.whn m) p x0).high x2) ((w.whn m x0).hi - (w.whn m x2).lo))),(45,iv ((x2:Int) + 1))] [(8,.cells 37 [iv 0,iv 0]),(0,.cells 107 (cWay w)),(10208,.cells 37 (cSpan (w.whn m x0)))] 20496) (by kernel_rfl) ⟨(o25 hp x0 hx0 h1 x2 hx2 h3 h4),tv,tv⟩ ?_
    exact loop_next (Hint.ann (h108b w m p x0) [(6,AV.ptr 8 []),(7,AV.win 0 [PS.fld 1,PS.idx m 6] 2 p),(28,AV.win 0 [PS.fld 1,PS.idx m 6] 2 p),(29,iv (p:Int)),(8,iv (min (sprTo (w.whn m) p x0).first (w.whn m x0).hi)),(9,iv (max (sprTo (w.whn m) p x0).last (w.whn m x0).lo)),(30,iv (x0:Int)),(12,AV.ptr 10208 []),(11,iv (x0:Int)),(43,AV.win 0 [PS.fld 1,PS.idx m 6] 2 p),(44,iv (p:Int))] [(8,OB.cells 37 [iv 0,iv 0]),(0,OB.cells 107 (cWay w)),(10208,OB.cells 37 (cSpan (w.whn m x0)))] 20336) x2 (ent_q hE [] [(8,.same 8),(0,.same 0),(10208,.same 10208)] [29,8,9,30,11,44] [8,0,10208] (((some (Src.same 8)=some (Src.same 8)/\nilP = [])/\(some (Src.same 0)=some (Src.same 0) /\ [PS.fld 1,PS.idx m 6] = [PS.fld 1,PS.idx m 6]/\2=2/\p=p)/\(some (Src.same 0)=some (Src.same 0) /\ [PS.fld 1,PS.idx m 6] = [PS.fld 1,PS.idx m 6]/\2=2/\p=p)/\(iv (p:Int)=iv (p:Int)/\true=true)/\(iv (min (sprTo (w.whn m) p x0).first (w.whn m x0).hi)=iv (min (sprTo (w.whn m) p x0).first (w.whn m x0).hi)/\true=true)/\(iv (max (sprTo (w.whn m) p x0).last (w.whn m x0).lo)=iv (max (sprTo (w.whn m) p x0).last (w.whn m x0).lo)/\true=true)/\(iv (x0:Int)=iv (x0:Int)/\true=true)/\(some (Src.same 10208)=some (Src.same 10208)/\nilP = [])/\(iv (x0:Int)=iv (x0:Int)/\true=true)/\(some (Src.same 0)=some (Src.same 0) /\ [PS.fld 1,PS.idx m 6] = [PS.fld 1,PS.idx m 6]/\2=2/\p=p)/\(iv (p:Int)=iv (p:Int)/\true=true)/\(iv (max (sprIn (w.whn m) x0 (sprTo (w.whn m) p x0).high x2) ((w.whn m x0).hi - (w.whn m x2).lo))=iv (sprIn (w.whn m) x0 (sprTo (w.whn m) p x0).high (x2 + 1))/\nilN = [])/\(iv ((x2:Int) + 1)=iv (↑(x2 + 1):Int)/\nilN = [])/\True)/\((OB.cells 37 [iv 0,iv 0]=OB.cells 37 [iv 0,iv 0]/\true=true)/\(OB.cells 107 (cWay w)=OB.cells 107 (cWay w)/\true=true)/\(OB.cells 37 (cSpan (w.whn m x0))=OB.cells 37 (cSpan (w.whn m x0))/\true=true)/\True)/\T2) (by kernel_rfl) (by kernel_rfl) ⟨⟨⟨rfl,rfl⟩,⟨rfl,rfl,rfl,rfl⟩,⟨rfl,rfl,rfl,rfl⟩,⟨rfl,rfl⟩,⟨rfl,rfl⟩,⟨rfl,rfl⟩,⟨rfl,rfl⟩,⟨rfl,rfl⟩,⟨rfl,rfl⟩,⟨rfl,rfl,rfl,rfl⟩,⟨rfl,rfl⟩,⟨(congrArg iv (o26 hp x0 hx0 h1 x2 hx2 h3 h4)),rfl⟩,⟨(congrArg iv (o27 hp x0 hx0 h1 x2 hx2 h3 h4)),rfl⟩,tv⟩,⟨⟨rfl,rfl⟩,⟨rfl,rfl⟩,⟨rfl,rfl⟩,tv⟩,rfl,rfl⟩) (o28 hp x0 hx0 h1 x2 hx2 h3 h4) (o29 hp x0 hx0 h1 x2 hx2 h3 h4)
   ·refine swp_skip ?_
    refine sR (kt:=[6,7,28,29,8,9,30,12,11,43,44,10,45]) (kh:=[8,0,10208]) (q:=inI ((x2:Int) + 1)/\True/\True) (st':=ASt.mk [(6,.ptr 8 []),(7,.win 0 [PS.fld 1,PS.idx m 6] 2 p),(28,.win 0 [PS.fld 1,PS.idx m 6] 2 p),(29,iv (p:Int)),(8,iv (min (sprTo (w.whn m) p x0).first (w.whn m x0).hi)),(9,iv (max (sprTo (w.whn m) p x0).last (w.whn m x0).lo)),(30,iv (x0:Int)),(12,.ptr 10208 []),(11,iv (x0:Int)),(43,.win 0 [PS.fld 1,PS.idx m 6] 2 p),(44,iv (p:Int)),(10,iv (sprIn (w.whn m) x0 (sprTo (w.whn m) p x0).high x2)),(45,iv ((x2:Int) + 1))] [(8,.cells 37 [iv 0,iv 0]),(0,.cells 107 (cWay w)),(10208,.cells 37 (cSpan (w.whn m x0)))] 20432) (by kernel_rfl) ⟨(o30 hp x0 hx0 h1 x2 hx2 h3 h4),tv,tv⟩ ?_
    exact loop_next (Hint.ann (h108b w m p x0) [(6,AV.ptr 8 []),(7,AV.win 0 [PS.fld 1,PS.idx m 6] 2 p),(28,AV.win 0 [PS.fld 1,PS.idx m 6] 2 p),(29,iv (p:Int)),(8,iv (min (sprTo (w.whn m) p x0).first (w.whn m x0).hi)),(9,iv (max (sprTo (w.whn m) p x0).last (w.whn m x0).lo)),(30,iv (x0:Int)),(12,AV.ptr 10208 []),(11,iv (x0:Int)),(43,AV.win 0 [PS.fld 1,PS.idx m 6] 2 p),(44,iv (p:Int))] [(8,OB.cells 37 [iv 0,iv 0]),(0,OB.cells 107 (cWay w)),(10208,OB.cells 37 (cSpan (w.whn m x0)))] 20336) x2 (ent_q hE [] [(8,.same 8),(0,.same 0),(10208,.same 10208)] [29,8,9,30,11,44] [8,0,10208] (((some (Src.same 8)=some (Src.same 8)/\nilP = [])/\(some (Src.same 0)=some (Src.same 0) /\ [PS.fld 1,PS.idx m 6] = [PS.fld 1,PS.idx m 6]/\2=2/\p=p)/\(some (Src.same 0)=some (Src.same 0) /\ [PS.fld 1,PS.idx m 6] = [PS.fld 1,PS.idx m 6]/\2=2/\p=p)/\(iv (p:Int)=iv (p:Int)/\true=true)/\(iv (min (sprTo (w.whn m) p x0).first (w.whn m x0).hi)=iv (min (sprTo (w.whn m) p x0).first (w.whn m x0).hi)/\true=true)/\(iv (max (sprTo (w.whn m) p x0).last (w.whn m x0).lo)=iv (max (sprTo (w.whn m) p x0).last (w.whn m x0).lo)/\true=true)/\(iv (x0:Int)=iv (x0:Int)/\true=true)/\(some (Src.same 10208)=some (Src.same 10208)/\nilP = [])/\(iv (x0:Int)=iv (x0:Int)/\true=true)/\(some (Src.same 0)=some (Src.same 0) /\ [PS.fld 1,PS.idx m 6] = [PS.fld 1,PS.idx m 6]/\2=2/\p=p)/\(iv (p:Int)=iv (p:Int)/\true=true)/\(iv (sprIn (w.whn m) x0 (sprTo (w.whn m) p x0).high x2)=iv (sprIn (w.whn m) x0 (sprTo (w.whn m) p x0).high (x2 + 1))/\nilN = [])/\(iv ((x2:Int) + 1)=iv (↑(x2 + 1):Int)/\nilN = [])/\True)/\((OB.cells 37 [iv 0,iv 0]=OB.cells 37 [iv 0,iv 0]/\true=true)/\(OB.cells 107 (cWay w)=OB.cells 107 (cWay w)/\true=true)/\(OB.cells 37 (cSpan (w.whn m x0))=OB.cells 37 (cSpan (w.whn m x0))/\true=true)/\True)/\T2) (by kernel_rfl) (by kernel_rfl) ⟨⟨⟨rfl,rfl⟩,⟨rfl,rfl,rfl,rfl⟩,⟨rfl,rfl,rfl,rfl⟩,⟨rfl,rfl⟩,⟨rfl,rfl⟩,⟨rfl,rfl⟩,⟨rfl,rfl⟩,⟨rfl,rfl⟩,⟨rfl,rfl⟩,⟨rfl,rfl,rfl,rfl⟩,⟨rfl,rfl⟩,⟨(congrArg iv (o31 hp x0 hx0 h1 x2 hx2 h3 h4)),rfl⟩,⟨(congrArg iv (o32 hp x0 hx0 h1 x2 hx2 h3 h4)),rfl⟩,tv⟩,⟨⟨rfl,rfl⟩,⟨rfl,rfl⟩,⟨rfl,rfl⟩,tv⟩,rfl,rfl⟩) (o33 hp x0 hx0 h1 x2 hx2 h3 h4) (o34 hp x0 hx0 h1 x2 hx2 h3 h4)
  ·refine swp_exit ?_
   refine sR (kt:=[6,7,28,29,8,9,30,10]) (kh:=[8,0]) (q:=inI ((x0:Int) + 1)/\True/\True) (st':=ASt.mk [(6,.ptr 8 []),(7,.win 0 [PS.fld 1,PS.idx m 6] 2 p),(28,.win 0 [PS.fld 1,PS.idx m 6] 2 p),(29,iv (p:Int)),(8,iv (min (sprTo (w.whn m) p x0).first (w.whn m x0).hi)),(9,iv (max (sprTo (w.whn m) p x0).last (w.whn m x0).lo)),(30,iv ((x0:Int) + 1)),(10,iv (sprIn (w.whn m) x0 (sprTo (w.whn m) p x0).high x2))] [(8,.cells 37 [iv 0,iv 0]),(0,.cells 107 (cWay w))] 20360) (by kernel_rfl) ⟨(o35 hp x0 hx0 h1 x2 hx2 h3),tv,tv⟩ ?_
   exact loop_next (Hint.ann (h108a w m p) [(6,AV.ptr 8 []),(7,AV.win 0 [PS.fld 1,PS.idx m 6] 2 p),(28,AV.win 0 [PS.fld 1,PS.idx m 6] 2 p),(29,iv (p:Int))] [(8,OB.cells 37 [iv 0,iv 0]),(0,OB.cells 107 (cWay w))] 10176) x0 (ent_q hE [] [(8,.same 8),(0,.same 0)] [29] [8,0] (((some (Src.same 8)=some (Src.same 8)/\nilP = [])/\(some (Src.same 0)=some (Src.same 0) /\ [PS.fld 1,PS.idx m 6] = [PS.fld 1,PS.idx m 6]/\2=2/\p=p)/\(some (Src.same 0)=some (Src.same 0) /\ [PS.fld 1,PS.idx m 6] = [PS.fld 1,PS.idx m 6]/\2=2/\p=p)/\(iv (p:Int)=iv (p:Int)/\true=true)/\(iv (min (sprTo (w.whn m) p x0).first (w.whn m x0).hi)=iv (sprTo (w.whn m) p (x0 + 1)).first/\nilN = [])/\(iv (max (sprTo (w.whn m) p x0).last (w.whn m x0).lo)=iv (sprTo (w.whn m) p (x0 + 1)).last/\nilN = [])/\(iv (sprIn (w.whn m) x0 (sprTo (w.whn m) p x0).high x2)=iv (sprTo (w.whn m) p (x0 + 1)).high/\nilN = [])/\(iv ((x0:Int) + 1)=iv (↑(x0 + 1):Int)/\nilN = [])/\True)/\((OB.cells 37 [iv 0,iv 0]=OB.cells 37 [iv 0,iv 0]/\true=true)/\(OB.cells 107 (cWay w)=OB.cells 107 (cWay w)/\true=true)/\True)/\T2) (by kernel_rfl) (by kernel_rfl) ⟨⟨⟨rfl,rfl⟩,⟨rfl,rfl,rfl,rfl⟩,⟨rfl,rfl,rfl,rfl⟩,⟨rfl,rfl⟩,⟨(congrArg iv (o36 hp x0 hx0 h1 x2 hx2 h3)),rfl⟩,⟨(congrArg iv (o37 hp x0 hx0 h1 x2 hx2 h3)),rfl⟩,⟨(congrArg iv (o38 hp x0 hx0 h1 x2 hx2 h3)),rfl⟩,⟨(congrArg iv (o39 hp x0 hx0 h1 x2 hx2 h3)),rfl⟩,tv⟩,⟨⟨rfl,rfl⟩,⟨rfl,rfl⟩,tv⟩,rfl,rfl⟩) (o40 hp x0 hx0 h1 x2 hx2 h3) (o41 hp x0 hx0 h1 x2 hx2 h3)
 ·refine swp_exit (swp_seq ?_)
  refine sR (kt:=[6]) (kh:=[8]) (q:=True/\True/\inI ((sprTo (w.whn m) p x0).last - (sprTo (w.whn m) p x0).first)/\True/\True/\True/\True/\True) (st':=ASt.mk [(6,.ptr 8 [])] [(8,.cells 37 [iv (max 0 ((sprTo (w.whn m) p x0).last - (sprTo (w.whn m) p x0).first)),iv (sprTo (w.whn m) p x0).high])] 10240) (by kernel_rfl) ⟨tv,tv,(o42 hp x0 hx0 h1),tv,tv,tv,tv,tv⟩ ?_
  refine swp_ret ?_
  exact ret_q [] ((True/\True)/\((iv (max 0 ((sprTo (w.whn m) p x0).last - (sprTo (w.whn m) p x0).first))=iv (spread (w.whn m) p).lo/\nilN = [])/\(iv (sprTo (w.whn m) p x0).high=iv (spread (w.whn m) p).hi/\nilN = [])/\True)/\T3) (by kernel_rfl) ⟨⟨tv,tv⟩,⟨⟨(congrArg iv (o43 hp x0 hx0 h1)),rfl⟩,⟨(congrArg iv (o44 hp x0 hx0 h1)),rfl⟩,tv⟩,rfl,rfl,rfl⟩
theorem t108 (w:WayS) (m p:Nat):Triple Try.prog 108 (s108 w m p):=by
 have gbw:wb w->gb (w.whn m):=fun h p=>h m p
 apply w108
 all_goals (first
  | ((repeat intro _) <;> (try simp only [v0,v1,v2,v3,v4,v5,v6,v7,v8,v9,inI,fits,Go.Sh.small] at *) <;> first | (exact rfl) | omega | exact vz | (simp_all; done) | (simp_all; omega))
  | (intro hp x hx hl; have h1:=hp.1 m x; have h2:=sprTo_b (gbw hp.1) p x; simp only [sb] at h1; simp only [decide_eq_true_eq,decide_eq_false_iff_not,inI] at *; omega)
  | (intro hp x hx hl k hk hkl h; have h1:=hp.1 m x; have h2:=hp.1 m k; simp only [sb] at h1 h2; simp only [inI]; omega)
  | (intro hp x hx hl k hk hkl h; rw [sprIn_succ,if_neg (show ¬ x=k from fun e=>by simp [e] at h)]; done)
  | (intro hp x hx hl k hk hkl h; rw [sprIn_succ,if_pos (show x=k from by simp only [Bool.not_eq_false',decide_eq_true_eq] at h; omega)]; done)
  | (intro hp x hx hl k hk hkl; rw [sprTo_succ,show k=p by simp only [decide_eq_false_iff_not] at hkl; omega]; done)
  | (intro hp x hx hl k hk hkl; rw [sprTo_succ]; done)
  | (intro hp x hx hl; rw [show x=p by simp only [decide_eq_false_iff_not] at hl; omega] <;> rfl))
abbrev q83_1 (w:WayS) (r:Run) (p:Nat) (C:Prop):Prop:=rb r/\wb w/\p < 3->C
abbrev q83_2 (w:WayS) (r:Run) (p:Nat) (C:Nat->Prop):Prop:=q83_1 w r p (∀ (x0:Nat),x0<=r.machines.length->decide ((x0:Int) < (↑(r.machines.length):Int))=true->C x0)
theorem w83 (w:WayS) (r:Run) (p:Nat)
 (o0:q83_1 w r p (0=(↑0:Int)))
 (o1:q83_1 w r p (0=(sumTo r (fun (m:Nat)=>w.whn m p) 0).lo))
 (o2:q83_1 w r p (0=(sumTo r (fun (m:Nat)=>w.whn m p) 0).hi))
 (o3:q83_1 w r p (0<=r.machines.length))
 (o4:q83_2 w r p fun x0=>0<=(x0:Int))
 (o5:q83_2 w r p fun x0=>(x0:Int) < (↑(r.machines.length):Int))
 (o6:q83_2 w r p fun x0=>0<=(x0:Int))
 (o7:q83_2 w r p fun x0=>(x0:Int) < (↑3:Int))
 (o8:q83_2 w r p fun x0=>0<=(p:Int))
 (o9:q83_2 w r p fun x0=>(p:Int) < (↑3:Int))
 (o10:q83_2 w r p fun x0=>x0 < 3)
 (o11:q83_2 w r p fun x0=>p < 3)
 (o12:q83_2 w r p fun x0=>inI ((mach r x0).rate * (w.whn x0 p).lo))
 (o13:q83_2 w r p fun x0=>inI ((sumTo r (fun (m:Nat)=>w.whn m p) x0).lo + (mach r x0).rate * (w.whn x0 p).lo))
 (o14:q83_2 w r p fun x0=>0<=(x0:Int))
 (o15:q83_2 w r p fun x0=>(x0:Int) < (↑3:Int))
 (o16:q83_2 w r p fun x0=>0<=(p:Int))
 (o17:q83_2 w r p fun x0=>(p:Int) < (↑3:Int))
 (o18:q83_2 w r p fun x0=>x0 < 3)
 (o19:q83_2 w r p fun x0=>p < 3)
 (o20:q83_2 w r p fun x0=>inI ((mach r x0).rate * (w.whn x0 p).hi))
 (o21:q83_2 w r p fun x0=>inI ((sumTo r (fun (m:Nat)=>w.whn m p) x0).hi + (mach r x0).rate * (w.whn x0 p).hi))
 (o22:q83_2 w r p fun x0=>inI ((x0:Int) + 1))
 (o23:q83_2 w r p fun x0=>(x0:Int) + 1=(↑(x0 + 1):Int))
 (o24:q83_2 w r p fun x0=>(sumTo r (fun (m:Nat)=>w.whn m p) x0).lo + (mach r x0).rate * (w.whn x0 p).lo=(sumTo r (fun (m:Nat)=>w.whn m p) (x0 + 1)).lo)
 (o25:q83_2 w r p fun x0=>(sumTo r (fun (m:Nat)=>w.whn m p) x0).hi + (mach r x0).rate * (w.whn x0 p).hi=(sumTo r (fun (m:Nat)=>w.whn m p) (x0 + 1)).hi)
 (o26:q83_2 w r p fun x0=>x0 + 1<=r.machines.length)
 (o27:q83_2 w r p fun x0=>r.machines.length - (x0 + 1) < r.machines.length - x0)
 (o28:q83_1 w r p (∀ (x0:Nat),x0<=r.machines.length->decide ((x0:Int) < (↑(r.machines.length):Int))=false->(sumTo r (fun (m:Nat)=>w.whn m p) x0).lo=(oldF r p w).lo))
 (o29:q83_1 w r p (∀ (x0:Nat),x0<=r.machines.length->decide ((x0:Int) < (↑(r.machines.length):Int))=false->(sumTo r (fun (m:Nat)=>w.whn m p) x0).hi=(oldF r p w).hi)) :
  Triple Try.prog 83 (s83 w r p):=by
 refine triple_of Try.func83 rfl Try.call83 T0_ok _ rfl rfl rfl rfl (Nat.le_of_ble_eq_true (by kernel_rfl)) (fun _ _ _ _ h=>h) ?_
 intro hp C hC _ hE
 obtain ⟨P,w0,E0,av,hA⟩:=C
 subst hC
 refine swp_seq ?_
 refine sR (kt:=[1,2,3,4]) (kh:=[0,8]) (q:=True/\True/\True) (st':=ASt.mk [(1,.rp (cRun r)),(2,.rp [iv (p:Int)]),(3,.ptr 0 []),(4,.ptr 8 [])] [(0,.cells 107 (cWay w)),(8,.cells 37 [iv 0,iv 0])] 16) (by kernel_rfl) ⟨tv,tv,tv⟩ ?_
 refine swp_seq (swp_seq ?_)
 refine sR (kt:=[2,3,4,8,9,10]) (kh:=[0,8]) (q:=True/\True/\True/\True/\True) (st':=ASt.mk [(2,.rp [iv (p:Int)]),(3,.ptr 0 []),(4,.ptr 8 []),(8,.sl 2 r.machines.length fun (i:Nat)=>cMach (mach r i)),(9,iv (↑(r.machines.length):Int)),(10,iv 0)] [(0,.cells 107 (cWay w)),(8,.cells 37 [iv 0,iv 0])] 48) (by kernel_rfl) ⟨tv,tv,tv,tv,tv⟩ ?_
 refine swp_block ?_
 refine swp_loopA (Hint.ann (h83 w r p) [(2,AV.rp [iv (p:Int)]),(3,AV.ptr 0 []),(8,AV.sl 2 r.machines.length fun (i:Nat)=>cMach (mach r i)),(9,iv (↑(r.machines.length):Int))] [(0,OB.cells 107 (cWay w))] 10048) (ent_q hE [] [(0,.same 0),(5000,.same 8)] [2,8,9] [0] (((AV.rp [iv (p:Int)]=AV.rp [iv (p:Int)]/\true=true)/\(some (Src.same 0)=some (Src.same 0)/\nilP = [])/\(((AV.sl 2 r.machines.length fun (i:Nat)=>cMach (mach r i))=AV.sl 2 r.machines.length fun (i:Nat)=>cMach (mach r i))/\true=true)/\(iv (↑(r.machines.length):Int)=iv (↑(r.machines.length):Int)/\true=true)/\(iv 0=iv (↑0:Int)/\nilN = [])/\(some (Src.same 8)=some (Src.same 8)/\nilP = [])/\True)/\((OB.cells 107 (cWay w)=OB.cells 107 (cWay w)/\true=true)/\(37=37/\((iv 0=iv (sumTo r (fun (m:Nat)=>w.whn m p) 0).lo/\nilN = [])/\(iv 0=iv (sumTo r (fun (m:Nat)=>w.whn m p) 0).hi/\nilN = [])/\True)/\true=true)/\True)/\T2) (by kernel_rfl) (by kernel_rfl) ⟨⟨⟨rfl,rfl⟩,⟨rfl,rfl⟩,⟨rfl,rfl⟩,⟨rfl,rfl⟩,⟨(congrArg iv (o0 hp)),rfl⟩,⟨rfl,rfl⟩,tv⟩,⟨⟨rfl,rfl⟩,⟨rfl,⟨⟨(congrArg iv (o1 hp)),rfl⟩,⟨(congrArg iv (o2 hp)),rfl⟩,tv⟩,rfl⟩,tv⟩,rfl,rfl⟩) (o3 hp) (fun (x0:Nat) hx0 => ?_)
 refine swp_seq ?_
 refine sR (kt:=[2,3,8,9,10,4,11]) (kh:=[0,5000]) (q:=True/\True) (st':=ASt.mk [(2,.rp [iv (p:Int)]),(3,.ptr 0 []),(8,.sl 2 r.machines.length fun (i:Nat)=>cMach (mach r i)),(9,iv (↑(r.machines.length):Int)),(10,iv (x0:Int)),(4,.ptr 5000 []),(11,bv (decide ((x0:Int) < (↑(r.machines.length):Int))))] [(0,.cells 107 (cWay w)),(5000,.cells 37 (cSpan (sumTo r (fun (m:Nat)=>w.whn m p) x0)))] 10056) (by kernel_rfl) ⟨tv,tv⟩ ?_
 refine swp_seq ?_
 refine swp_cond (decide ((x0:Int) < (↑(r.machines.length):Int))) (by kernel_rfl) (fun h1 => ?_) (fun h1 => ?_)
 ·refine swp_skip (swp_seq (swp_block (swp_seq ?_)))
  refine sR (kt:=[2,3,8,9,10,4,6,5]) (kh:=[0,5000,10080]) (q:=True/\(0<=(x0:Int)/\(x0:Int) < (↑(r.machines.length):Int))/\True/\True/\True/\True/\True) (st':=ASt.mk [(2,.rp [iv (p:Int)]),(3,.ptr 0 []),(8,.sl 2 r.machines.length fun (i:Nat)=>cMach (mach r i)),(9,iv (↑(r.machines.length):Int)),(10,iv (x0:Int)),(4,.ptr 5000 []),(6,.ptr 10080 []),(5,iv (x0:Int))] [(0,.cells 107 (cWay w)),(5000,.cells 37 (cSpan (sumTo r (fun (m:Nat)=>w.whn m p) x0))),(10080,.cells 42 (cMach (mach r x0)))] 10104) (by kernel_rfl) ⟨tv,⟨(o4 hp x0 hx0 h1),(o5 hp x0 hx0 h1)⟩,tv,tv,tv,tv,tv⟩ ?_
  refine swp_seq ?_
  refine sR (kt:=[2,3,8,9,10,4,6,5]) (kh:=[0,5000,10080]) (q:=True/\True/\True/\True/\True/\True/\True/\(0<=(x0:Int)/\(x0:Int) < (↑3:Int))/\(0<=(p:Int)/\(p:Int) < (↑3:Int))/\True/\(x0 < 3/\p < 3/\True)/\inI ((mach r x0).rate * (w.whn x0 p).lo)/\inI ((sumTo r (fun (m:Nat)=>w.whn m p) x0).lo + (mach r x0).rate * (w.whn x0 p).lo)/\True/\True/\True) (st':=ASt.mk [(2,.rp [iv (p:Int)]),(3,.ptr 0 []),(8,.sl 2 r.machines.length fun (i:Nat)=>cMach (mach r i)),(9,iv (↑(r.machines.length):Int)),(10,iv (x0:Int)),(4,.ptr 5000 []),(6,.ptr 10080 []),(5,iv (x0:Int))] [(0,.cells 107 (cWay w)),(5000,.cells 37 [iv ((sumTo r (fun (m:Nat)=>w.whn m p) x0).lo + (mach r x0).rate * (w.whn x0 p).lo),iv (sumTo r (fun (m:Nat)=>w.whn m p) x0).hi]),(10080,.cells 42 (cMach (mach r x0)))] 10224) (by kernel_rfl) ⟨tv,tv,tv,tv,tv,tv,tv,⟨(o6 hp x0 hx0 h1),(o7 hp x0 hx0 h1)⟩,⟨(o8 hp x0 hx0 h1),(o9 hp x0 hx0 h1)⟩,tv,⟨(o10 hp x0 hx0 h1),(o11 hp x0 hx0 h1),tv⟩,(o12 hp x0 hx0 h1),(o13 hp x0 hx0 h1),tv,tv,tv⟩ ?_
  refine sR (kt:=[2,3,8,9,10,4]) (kh:=[0,5000]) (q:=True/\True/\True/\True/\True/\True/\True/\(0<=(x0:Int)/\(x0:Int) < (↑3:Int))/\(0<=(p:Int)/\(p:Int) < (↑3:Int))/\True/\(x0 < 3/\p < 3/\True)/\inI ((mach r x0).rate * (w.whn x0 p).hi)/\inI ((sumTo r (fun (m:Nat)=>w.whn m p) x0).hi + (mach r x0).rate * (w.whn x0 p).hi)/\True/\True/\True) (st':=ASt.mk [(2,.rp [iv (p:Int)]),(3,.ptr 0 []),(8,.sl 2 r.machines.length fun (i:Nat)=>cMach (mach r i)),(9,iv (↑(r.machines.length):Int)),(10,iv (x0:Int)),(4,.ptr 5000 [])] [(0,.cells 107 (cWay w)),(5000,.cells 37 [iv ((sumTo r (fun (m:Nat)=>w.whn m p) x0).lo + (mach r x0).rate * (w.whn x0 p).lo),iv ((sumTo r (fun (m:Nat)=>w.whn m p) x0).hi + (mach r x0).rate * (w.whn x0 p).hi)])] 10344) (by kernel_rfl) ⟨tv,tv,tv,tv,tv,tv,tv,⟨(o14 hp x0 hx0 h1),(o15 hp x0 hx0 h1)⟩,⟨(o16 hp x0 hx0 h1),(o17 hp x0 hx0 h1)⟩,tv,⟨(o18 hp x0 hx0 h1),(o19 hp x0 hx0 h1),tv⟩,(o20 hp x0 hx0 h1),(o21 hp x0 hx0 h1),tv,tv,tv⟩ ?_
  refine sR (kt:=[2,3,8,9,10,4]) (kh:=[0,5000]) (q:=inI ((x0:Int) + 1)/\True/\True) (st':=ASt.mk [(2,.rp [iv (p:Int)]),(3,.ptr 0 []),(8,.sl 2 r.machines.length fun (i:Nat)=>cMach (mach r i)),(9,iv (↑(r.machines.length):Int)),(10,iv ((x0:Int) + 1)),(4,.ptr 5000 [])] [(0,.cells 107 (cWay w)),(5000,.cells 37 [iv ((sumTo r (fun (m:Nat)=>w.whn m p) x0).lo + (mach r x0).rate * (w.whn x0 p).lo),iv ((sumTo r (fun (m:Nat)=>w.whn m p) x0).hi + (mach r x0).rate * (w.whn x0 p).hi)])] 10360) (by kernel_rfl) ⟨(o22 hp x0 hx0 h1),tv,tv⟩ ?_
  exact loop_next (Hint.ann (h83 w r p) [(2,AV.rp [iv (p:Int)]),(3,AV.ptr 0 []),(8,AV.sl 2 r.machines.length fun (i:Nat)=>cMach (mach r i)),(9,iv (↑(r.machines.length):Int))] [(0,OB.cells 107 (cWay w))] 10048) x0 (ent_q hE [] [(0,.same 0),(5000,.same 5000)] [2,8,9] [0] (((AV.rp [iv (p:Int)]=AV.rp [iv (p:Int)]/\true=true)/\(some (Src.same 0)=some (Src.same 0)/\nilP = [])/\(((AV.sl 2 r.machines.length fun (i:Nat)=>cMach (mach r i))=AV.sl 2 r.machines.length fun (i:Nat)=>cMach (mach r i))/\true=true)/\(iv (↑(r.machines.length):Int)=iv (↑(r.machines.length):Int)/\true=true)/\(iv ((x0:Int) + 1)=iv (↑(x0 + 1):Int)/\nilN = [])/\(some (Src.same 5000)=some (Src.same 5000)/\nilP = [])/\True)/\((OB.cells 107 (cWay w)=OB.cells 107 (cWay w)/\true=true)/\(37=37/\((iv ((sumTo r (fun (m:Nat)=>w.whn m p) x0).lo + (mach r x0).rate * (w.whn x0 p).lo)=iv (sumTo r (fun (m:Nat)=>w.whn m p) (x0 + 1)).lo/\nilN = [])/\(iv ((sumTo r (fun (m:Nat)=>w.whn m p) x0).hi + (mach r x0).rate * (w.whn x0 p).hi)=iv (sumTo r (fun (m:Nat)=>w.whn m p) (x0 + 1)).hi/\nilN = [])/\True)/\true=true)/\True)/\T2) (by kernel_rfl) (by kernel_rfl) ⟨⟨⟨rfl,rfl⟩,⟨rfl,rfl⟩,⟨rfl,rfl⟩,⟨rfl,rfl⟩,⟨(congrArg iv (o23 hp x0 hx0 h1)),rfl⟩,⟨rfl,rfl⟩,tv⟩,⟨⟨rfl,rfl⟩,⟨rfl,⟨⟨(congrArg iv (o24 hp x0 hx0 h1)),rfl⟩,⟨(congrArg iv (o25 hp x0 hx0 h1)),rfl⟩,tv⟩,rfl⟩,tv⟩,rfl,rfl⟩) (o26 hp x0 hx0 h1) (o27 hp x0 hx0 h1)
 ·refine swp_exit (swp_seq ?_)
  refine sR (kt:=[4]) (kh:=[5000]) (q:=True/\True/\True) (st':=ASt.mk [(4,.ptr 5000 [])] [(5000,.cells 37 (cSpan (sumTo r (fun (m:Nat)=>w.whn m p) x0)))] 10072) (by kernel_rfl) ⟨tv,tv,tv⟩ ?_
  refine swp_ret ?_
  exact ret_q [] ((True/\True)/\((iv (sumTo r (fun (m:Nat)=>w.whn m p) x0).lo=iv (oldF r p w).lo/\nilN = [])/\(iv (sumTo r (fun (m:Nat)=>w.whn m p) x0).hi=iv (oldF r p w).hi/\nilN = [])/\True)/\T3) (by kernel_rfl) ⟨⟨tv,tv⟩,⟨⟨(congrArg iv (o28 hp x0 hx0 h1)),rfl⟩,⟨(congrArg iv (o29 hp x0 hx0 h1)),rfl⟩,tv⟩,rfl,rfl,rfl⟩
theorem t83 (w:WayS) (r:Run) (p:Nat):Triple Try.prog 83 (s83 w r p):=by
 apply w83
 all_goals (try (first | (((repeat intro _) <;> (try simp only [v0,v1,v2,v3,v4,v5,v6,v7,v8,v9,inI,fits,Go.Sh.small] at *) <;> first | (exact rfl) | omega | exact vz | (simp_all; done) | (simp_all; omega))) | ((repeat intro _); rw [sumTo_succ]; done) | (intro hp x hx hl; rw [show x=r.machines.length by simp only [decide_eq_false_iff_not] at hl; omega] <;> rfl) | (
  intro hp x hx hl
  simp only [decide_eq_true_eq] at hl
  have h1:=hp.2.1 x p
  have h2:=sumTo_b hp.1 (f:=fun m=>w.whn m p) (fun m=>hp.2.1 m p) x (by omega)
  have h3:=hp.1.2 x (by omega)
  have h4:=rate_mul h3 ⟨h1.1,h1.2.1⟩
  have h5:=rate_mul h3 ⟨h1.2.2.1,h1.2.2.2⟩
  have h6:=hp.1.1
  try simp only [inI]
  omega)))
abbrev q117_1 (w:WayS) (r:Run) (C:Prop):Prop:=rb r/\wb w/\1<=r.plates/\r.plates<=3->C
abbrev q117_2 (w:WayS) (r:Run) (C:Nat->Prop):Prop:=q117_1 w r (∀ (x0:Nat),x0<=r.machines.length->decide ((x0:Int) < (↑(r.machines.length):Int))=true->C x0)
theorem w117 (w:WayS) (r:Run)
 (o0:q117_1 w r (0=(↑0:Int)))
 (o1:q117_1 w r (0=(sumTo r (fun (m:Nat)=>spread (w.whn m) r.plates.toNat) 0).lo))
 (o2:q117_1 w r (0=(sumTo r (fun (m:Nat)=>spread (w.whn m) r.plates.toNat) 0).hi))
 (o3:q117_1 w r (0<=r.machines.length))
 (o4:q117_2 w r fun x0=>0<=(x0:Int))
 (o5:q117_2 w r fun x0=>(x0:Int) < (↑(r.machines.length):Int))
 (o6:q117_2 w r fun x0=>r.plates=(↑(r.plates.toNat):Int))
 (o7:q117_2 w r fun x0=>wb w)
 (o8:q117_2 w r fun x0=>x0 < 3)
 (o9:q117_2 w r fun x0=>1<=r.plates.toNat)
 (o10:q117_2 w r fun x0=>r.plates.toNat<=3)
 (o11:q117_2 w r fun x0=>inI ((mach r x0).rate * (spread (w.whn x0) r.plates.toNat).lo))
 (o12:q117_2 w r fun x0=>inI ((sumTo r (fun (m:Nat)=>spread (w.whn m) r.plates.toNat) x0).lo + (mach r x0).rate * (spread (w.whn x0) r.plates.toNat).lo))
 (o13:q117_2 w r fun x0=>inI ((mach r x0).rate * (spread (w.whn x0) r.plates.toNat).hi))
 (o14:q117_2 w r fun x0=>inI ((sumTo r (fun (m:Nat)=>spread (w.whn m) r.plates.toNat) x0).hi + (mach r x0).rate * (spread (w.whn x0) r.plates.toNat).hi))
 (o15:q117_2 w r fun x0=>inI ((x0:Int) + 1))
 (o16:q117_2 w r fun x0=>(x0:Int) + 1=(↑(x0 + 1):Int))
 (o17:q117_2 w r fun x0=>(sumTo r (fun (m:Nat)=>spread (w.whn m) r.plates.toNat) x0).lo + (mach r x0).rate * (spread (w.whn x0) r.plates.toNat).lo=(sumTo r (fun (m:Nat)=>spread (w.whn m) r.plates.toNat) (x0 + 1)).lo)
 (o18:q117_2 w r fun x0=>(sumTo r (fun (m:Nat)=>spread (w.whn m) r.plates.toNat) x0).hi + (mach r x0).rate * (spread (w.whn x0) r.plates.toNat).hi=(sumTo r (fun (m:Nat)=>spread (w.whn m) r.plates.toNat) (x0 + 1)).hi)
 (o19:q117_2 w r fun x0=>x0 + 1<=r.machines.length)
 (o20:q117_2 w r fun x0=>r.machines.length - (x0 + 1) < r.machines.length - x0)
 (o21:q117_1 w r (∀ (x0:Nat),x0<=r.machines.length->decide ((x0:Int) < (↑(r.machines.length):Int))=false->(sumTo r (fun (m:Nat)=>spread (w.whn m) r.plates.toNat) x0).lo=(mixF r w).lo))
 (o22:q117_1 w r (∀ (x0:Nat),x0<=r.machines.length->decide ((x0:Int) < (↑(r.machines.length):Int))=false->(sumTo r (fun (m:Nat)=>spread (w.whn m) r.plates.toNat) x0).hi=(mixF r w).hi)) :
  Triple Try.prog 117 (s117 w r):=by
 refine triple_of Try.func117 rfl Try.call117 T0_ok _ rfl rfl rfl rfl (Nat.le_of_ble_eq_true (by kernel_rfl)) (fun _ _ _ _ h=>h) ?_
 intro hp C hC _ hE
 obtain ⟨P,w0,E0,av,hA⟩:=C
 subst hC
 refine swp_seq ?_
 refine sR (kt:=[1,2,3]) (kh:=[0,8]) (q:=True/\True/\True) (st':=ASt.mk [(1,.rp (cRun r)),(2,.ptr 0 []),(3,.ptr 8 [])] [(0,.cells 107 (cWay w)),(8,.cells 37 [iv 0,iv 0])] 16) (by kernel_rfl) ⟨tv,tv,tv⟩ ?_
 refine swp_seq (swp_seq ?_)
 refine sR (kt:=[1,2,3,8,9,10]) (kh:=[0,8]) (q:=True/\True/\True/\True/\True) (st':=ASt.mk [(1,.rp (cRun r)),(2,.ptr 0 []),(3,.ptr 8 []),(8,.sl 2 r.machines.length fun (i:Nat)=>cMach (mach r i)),(9,iv (↑(r.machines.length):Int)),(10,iv 0)] [(0,.cells 107 (cWay w)),(8,.cells 37 [iv 0,iv 0])] 48) (by kernel_rfl) ⟨tv,tv,tv,tv,tv⟩ ?_
 refine swp_block ?_
 refine swp_loopA (Hint.ann (h117 w r) [(1,AV.rp (cRun r)),(2,AV.ptr 0 []),(8,AV.sl 2 r.machines.length fun (i:Nat)=>cMach (mach r i)),(9,iv (↑(r.machines.length):Int))] [(0,OB.cells 107 (cWay w))] 10048) (ent_q hE [] [(0,.same 0),(5000,.same 8)] [1,8,9] [0] (((AV.rp (cRun r)=AV.rp (cRun r)/\true=true)/\(some (Src.same 0)=some (Src.same 0)/\nilP = [])/\(((AV.sl 2 r.machines.length fun (i:Nat)=>cMach (mach r i))=AV.sl 2 r.machines.length fun (i:Nat)=>cMach (mach r i))/\true=true)/\(iv (↑(r.machines.length):Int)=iv (↑(r.machines.length):Int)/\true=true)/\(iv 0=iv (↑0:Int)/\nilN = [])/\(some (Src.same 8)=some (Src.same 8)/\nilP = [])/\True)/\((OB.cells 107 (cWay w)=OB.cells 107 (cWay w)/\true=true)/\(37=37/\((iv 0=iv (sumTo r (fun (m:Nat)=>spread (w.whn m) r.plates.toNat) 0).lo/\nilN = [])/\(iv 0=iv (sumTo r (fun (m:Nat)=>spread (w.whn m) r.plates.toNat) 0).hi/\nilN = [])/\True)/\true=true)/\True)/\T2) (by kernel_rfl) (by kernel_rfl) ⟨⟨⟨rfl,rfl⟩,⟨rfl,rfl⟩,⟨rfl,rfl⟩,⟨rfl,rfl⟩,⟨(congrArg iv (o0 hp)),rfl⟩,⟨rfl,rfl⟩,tv⟩,⟨⟨rfl,rfl⟩,⟨rfl,⟨⟨(congrArg iv (o1 hp)),rfl⟩,⟨(congrArg iv (o2 hp)),rfl⟩,tv⟩,rfl⟩,tv⟩,rfl,rfl⟩) (o3 hp) (fun (x0:Nat) hx0 => ?_)
 refine swp_seq ?_
 refine sR (kt:=[1,2,8,9,10,3,11]) (kh:=[0,5000]) (q:=True/\True) (st':=ASt.mk [(1,.rp (cRun r)),(2,.ptr 0 []),(8,.sl 2 r.machines.length fun (i:Nat)=>cMach (mach r i)),(9,iv (↑(r.machines.length):Int)),(10,iv (x0:Int)),(3,.ptr 5000 []),(11,bv (decide ((x0:Int) < (↑(r.machines.length):Int))))] [(0,.cells 107 (cWay w)),(5000,.cells 37 (cSpan (sumTo r (fun (m:Nat)=>spread (w.whn m) r.plates.toNat) x0)))] 10056) (by kernel_rfl) ⟨tv,tv⟩ ?_
 refine swp_seq ?_
 refine swp_cond (decide ((x0:Int) < (↑(r.machines.length):Int))) (by kernel_rfl) (fun h1 => ?_) (fun h1 => ?_)
 ·refine swp_skip (swp_seq (swp_block (swp_seq ?_)))
  refine sR (kt:=[1,2,8,9,10,3,5,4]) (kh:=[0,5000,10080]) (q:=True/\(0<=(x0:Int)/\(x0:Int) < (↑(r.machines.length):Int))/\True/\True/\True/\True/\True) (st':=ASt.mk [(1,.rp (cRun r)),(2,.ptr 0 []),(8,.sl 2 r.machines.length fun (i:Nat)=>cMach (mach r i)),(9,iv (↑(r.machines.length):Int)),(10,iv (x0:Int)),(3,.ptr 5000 []),(5,.ptr 10080 []),(4,iv (x0:Int))] [(0,.cells 107 (cWay w)),(5000,.cells 37 (cSpan (sumTo r (fun (m:Nat)=>spread (w.whn m) r.plates.toNat) x0))),(10080,.cells 42 (cMach (mach r x0)))] 10104) (by kernel_rfl) ⟨tv,⟨(o4 hp x0 hx0 h1),(o5 hp x0 hx0 h1)⟩,tv,tv,tv,tv,tv⟩ ?_
  refine swp_seq ?_
  refine swp_region T0_ok mixed (cs:=[(4,CallSpec.eq (c117 w r x0) [true,true,false])]) (kt:=[1,2,8,9,10,3,5,6]) (kh:=[0,5000,10080,10144]) (q:=True/\True/\True/\True/\((AV.agg (cWay w)=AV.agg (cWay w)/\iv (x0:Int)=iv (x0:Int)/\iv r.plates=iv (↑(r.plates.toNat):Int)/\True)/\Triple Try.prog 108 (c117 w r x0)/\(wb w/\x0 < 3/\1<=r.plates.toNat/\r.plates.toNat<=3)/\True /\ ∀ (i2:Env),True)/\True/\True/\True) (st':=ASt.mk [(1,.rp (cRun r)),(2,.ptr 0 []),(8,.sl 2 r.machines.length fun (i:Nat)=>cMach (mach r i)),(9,iv (↑(r.machines.length):Int)),(10,iv (x0:Int)),(3,.ptr 5000 []),(5,.ptr 10080 []),(6,.ptr 10144 [])] [(0,.cells 107 (cWay w)),(5000,.cells 37 (cSpan (sumTo r (fun (m:Nat)=>spread (w.whn m) r.plates.toNat) x0))),(10080,.cells 42 (cMach (mach r x0))),(10144,.cells 37 (cSpan (spread (w.whn x0) r.plates.toNat)))] 10160) (by kernel_rfl) ⟨tv,tv,tv,tv,⟨⟨rfl,rfl,(congrArg iv (o6 hp x0 hx0 h1)),tv⟩,(t108 _ _ _),⟨(o7 hp x0 hx0 h1),(o8 hp x0 hx0 h1),(o9 hp x0 hx0 h1),(o10 hp x0 hx0 h1)⟩,tv,(fun i2=>tv)⟩,tv,tv,tv⟩ ?_
  refine swp_seq ?_
  refine sR (kt:=[1,2,8,9,10,3,5,6]) (kh:=[0,5000,10080,10144]) (q:=True/\True/\True/\True/\True/\True/\inI ((mach r x0).rate * (spread (w.whn x0) r.plates.toNat).lo)/\inI ((sumTo r (fun (m:Nat)=>spread (w.whn m) r.plates.toNat) x0).lo + (mach r x0).rate * (spread (w.whn x0) r.plates.toNat).lo)/\True/\True/\True) (st':=ASt.mk [(1,.rp (cRun r)),(2,.ptr 0 []),(8,.sl 2 r.machines.length fun (i:Nat)=>cMach (mach r i)),(9,iv (↑(r.machines.length):Int)),(10,iv (x0:Int)),(3,.ptr 5000 []),(5,.ptr 10080 []),(6,.ptr 10144 [])] [(0,.cells 107 (cWay w)),(5000,.cells 37 [iv ((sumTo r (fun (m:Nat)=>spread (w.whn m) r.plates.toNat) x0).lo + (mach r x0).rate * (spread (w.whn x0) r.plates.toNat).lo),iv (sumTo r (fun (m:Nat)=>spread (w.whn m) r.plates.toNat) x0).hi]),(10080,.cells 42 (cMach (mach r x0))),(10144,.cells 37 (cSpan (spread (w.whn x0) r.plates.toNat)))] 10240) (by kernel_rfl) ⟨tv,tv,tv,tv,tv,tv,(o11 hp x0 hx0 h1),(o12 hp x0 hx0 h1),tv,tv,tv⟩ ?_
  refine sR (kt:=[1,2,8,9,10,3]) (kh:=[0,5000]) (q:=True/\True/\True/\True/\True/\True/\inI ((mach r x0).rate * (spread (w.whn x0) r.plates.toNat).hi)/\inI ((sumTo r (fun (m:Nat)=>spread (w.whn m) r.plates.toNat) x0).hi + (mach r x0).rate * (spread (w.whn x0) r.plates.toNat).hi)/\True/\True/\True) (st':=ASt.mk [(1,.rp (cRun r)),(2,.ptr 0 []),(8,.sl 2 r.machines.length fun (i:Nat)=>cMach (mach r i)),(9,iv (↑(r.machines.length):Int)),(10,iv (x0:Int)),(3,.ptr 5000 [])] [(0,.cells 107 (cWay w)),(5000,.cells 37 [iv ((sumTo r (fun (m:Nat)=>spread (w.whn m) r.plates.toNat) x0).lo + (mach r x0).rate * (spread (w.whn x0) r.plates.toNat).lo),iv ((sumTo r (fun (m:Nat)=>spread (w.whn m) r.plates.toNat) x0).hi + (mach r x0).rate * (spread (w.whn x0) r.plates.toNat).hi)])] 10320) (by kernel_rfl) ⟨tv,tv,tv,tv,tv,tv,(o13 hp x0 hx0 h1),(o14 hp x0 hx0 h1),tv,tv,tv⟩ ?_
  refine sR (kt:=[1,2,8,9,10,3]) (kh:=[0,5000]) (q:=inI ((x0:Int) + 1)/\True/\True) (st':=ASt.mk [(1,.rp (cRun r)),(2,.ptr 0 []),(8,.sl 2 r.machines.length fun (i:Nat)=>cMach (mach r i)),(9,iv (↑(r.machines.length):Int)),(10,iv ((x0:Int) + 1)),(3,.ptr 5000 [])] [(0,.cells 107 (cWay w)),(5000,.cells 37 [iv ((sumTo r (fun (m:Nat)=>spread (w.whn m) r.plates.toNat) x0).lo + (mach r x0).rate * (spread (w.whn x0) r.plates.toNat).lo),iv ((sumTo r (fun (m:Nat)=>spread (w.whn m) r.plates.toNat) x0).hi + (mach r x0).rate * (spread (w.whn x0) r.plates.toNat).hi)])] 10336) (by kernel_rfl) ⟨(o15 hp x0 hx0 h1),tv,tv⟩ ?_
  exact loop_next (Hint.ann (h117 w r) [(1,AV.rp (cRun r)),(2,AV.ptr 0 []),(8,AV.sl 2 r.machines.length fun (i:Nat)=>cMach (mach r i)),(9,iv (↑(r.machines.length):Int))] [(0,OB.cells 107 (cWay w))] 10048) x0 (ent_q hE [] [(0,.same 0),(5000,.same 5000)] [1,8,9] [0] (((AV.rp (cRun r)=AV.rp (cRun r)/\true=true)/\(some (Src.same 0)=some (Src.same 0)/\nilP = [])/\(((AV.sl 2 r.machines.length fun (i:Nat)=>cMach (mach r i))=AV.sl 2 r.machines.length fun (i:Nat)=>cMach (mach r i))/\true=true)/\(iv (↑(r.machines.length):Int)=iv (↑(r.machines.length):Int)/\true=true)/\(iv ((x0:Int) + 1)=iv (↑(x0 + 1):Int)/\nilN = [])/\(some (Src.same 5000)=some (Src.same 5000)/\nilP = [])/\True)/\((OB.cells 107 (cWay w)=OB.cells 107 (cWay w)/\true=true)/\(37=37/\((iv ((sumTo r (fun (m:Nat)=>spread (w.whn m) r.plates.toNat) x0).lo + (mach r x0).rate * (spread (w.whn x0) r.plates.toNat).lo)=iv (sumTo r (fun (m:Nat)=>spread (w.whn m) r.plates.toNat) (x0 + 1)).lo/\nilN = [])/\(iv ((sumTo r (fun (m:Nat)=>spread (w.whn m) r.plates.toNat) x0).hi + (mach r x0).rate * (spread (w.whn x0) r.plates.toNat).hi)=iv (sumTo r (fun (m:Nat)=>spread (w.whn m) r.plates.toNat) (x0 + 1)).hi/\nilN = [])/\True)/\true=true)/\True)/\T2) (by kernel_rfl) (by kernel_rfl) ⟨⟨⟨rfl,rfl⟩,⟨rfl,rfl⟩,⟨rfl,rfl⟩,⟨rfl,rfl⟩,⟨(congrArg iv (o16 hp x0 hx0 h1)),rfl⟩,⟨rfl,rfl⟩,tv⟩,⟨⟨rfl,rfl⟩,⟨rfl,⟨⟨(congrArg iv (o17 hp x0 hx0 h1)),rfl⟩,⟨(congrArg iv (o18 hp x0 hx0 h1)),rfl⟩,tv⟩,rfl⟩,tv⟩,rfl,rfl⟩) (o19 hp x0 hx0 h1) (o20 hp x0 hx0 h1)
 ·refine swp_exit (swp_seq ?_)
  refine sR (kt:=[3]) (kh:=[5000]) (q:=True/\True/\True) (st':=ASt.mk [(3,.ptr 5000 [])] [(5000,.cells 37 (cSpan (sumTo r (fun (m:Nat)=>spread (w.whn m) r.plates.toNat) x0)))] 10072) (by kernel_rfl) ⟨tv,tv,tv⟩ ?_
  refine swp_ret ?_
  exact ret_q [] ((True/\True)/\((iv (sumTo r (fun (m:Nat)=>spread (w.whn m) r.plates.toNat) x0).lo=iv (mixF r w).lo/\nilN = [])/\(iv (sumTo r (fun (m:Nat)=>spread (w.whn m) r.plates.toNat) x0).hi=iv (mixF r w).hi/\nilN = [])/\True)/\T3) (by kernel_rfl) ⟨⟨tv,tv⟩,⟨⟨(congrArg iv (o21 hp x0 hx0 h1)),rfl⟩,⟨(congrArg iv (o22 hp x0 hx0 h1)),rfl⟩,tv⟩,rfl,rfl,rfl⟩
theorem t117 (w:WayS) (r:Run):Triple Try.prog 117 (s117 w r):=by
 apply w117
 all_goals (try (first | (((repeat intro _) <;> (try simp only [v0,v1,v2,v3,v4,v5,v6,v7,v8,v9,inI,fits,Go.Sh.small] at *) <;> first | (exact rfl) | omega | exact vz | (simp_all; done) | (simp_all; omega))) | (intro hp _ _ _; exact hp.2.1) | ((repeat intro _); rw [sumTo_succ]; done) | (intro hp x hx hl; rw [show x=r.machines.length by simp only [decide_eq_false_iff_not] at hl; omega] <;> rfl) | (
  intro hp x hx hl
  simp only [decide_eq_true_eq] at hl
  have h1:=spread_b (g:=w.whn x) (fun q=>hp.2.1 x q) r.plates.toNat
  have h2:=sumTo_b hp.1 (f:=fun m=>spread (w.whn m) r.plates.toNat) (fun m=>spread_b (fun q=>hp.2.1 m q) _) x (by omega)
  have h3:=hp.1.2 x (by omega)
  have h4:=rate_mul h3 ⟨h1.1,h1.2.1⟩
  have h5:=rate_mul h3 ⟨h1.2.2.1,h1.2.2.2⟩
  have h6:=hp.1.1
  try simp only [inI]
  omega)))
abbrev q84_1 (r:Run) (l:List WayS) (C:Prop):Prop:=fits r/\rb r/\(∀ (w:WayS),w ∈ l->wb w)/\1<=r.plates/\r.plates<=3/\0 < l.length/\l.length<=65536->C
theorem w84 (r:Run) (l:List WayS)
 (o0:q84_1 r l (0 < l.length))
 (o1:q84_1 r l (l.length<=65536))
 (o2:∀ (E0:Env),fits r/\rb r/\(∀ (w:WayS),w ∈ l->wb w)/\1<=r.plates/\r.plates<=3/\0 < l.length/\l.length<=65536 -> ∀ (i0:Env) (i1:List Value),Env.le E0 i0->i1.length=List.length [aWays l,AV.fn 0]->(∀ (k:Nat),Rel i0 true (List.getD [aWays l,AV.clo 117 [AV.rp (cRun r)]] k AV.any) (i1.getD k undef))->fnokOf Try.prog 0 (fun (w:{ w:WayS // w ∈ l })=>[AV.agg (cWay (Subtype.val w))]) (fun (w:{ w:WayS // w ∈ l })=>vSpan (mixF r (Subtype.val w))) (Env.mk i0.1 i0.2 i0.3 fun (k:Nat) (u:Value) => ∃ (i:Nat),[aWays l,AV.fn 0][i]? = some (AV.fn k)/\i1[i]? = some u)) :
  Triple Try.prog 84 (s84 r l):=by
 refine triple_of Try.func84 rfl Try.call84 T0_ok _ rfl rfl rfl rfl (Nat.le_of_ble_eq_true (by kernel_rfl)) (fun _ _ _ _ h=>h) ?_
 intro hp C hC _ hE
 obtain ⟨P,w0,E0,av,hA⟩:=C
 subst hC
 refine swp_seq ?_
 refine sR (kt:=[1,2,4]) (kh:=[0,8]) (q:=True/\True/\True) (st':=ASt.mk [(1,aWays l),(2,.ptr 0 []),(4,.ptr 8 [])] [(0,.cells 25 (cRun r)),(8,.cells 37 [iv 0,iv 0])] 16) (by kernel_rfl) ⟨tv,tv,tv⟩ ?_
 refine swp_seq ?_
 refine swp_ent (ent_fz 0 25 (cRun r) (ASt.mk [(1,aWays l),(2,AV.rp (cRun r)),(4,AV.ptr 8 [])] [(8,OB.cells 37 [iv 0,iv 0])] 16) (by kernel_rfl) (by kernel_rfl) (by kernel_rfl)) ?_
 refine swp_region T0_ok mixed (cs:=[(2,CallSpec.eq (c84 r l) [true,false])]) (kt:=[4]) (kh:=[8]) (q:=True/\True/\((aWays l=aWays l/\True/\True)/\Triple Try.prog 81 (c84 r l)/\(0 < l.length/\l.length<=65536)/\True /\ ∀ (i0:Env) (i1:List Value),Env.le E0 i0->i1.length=List.length [aWays l,AV.fn 0]->(∀ (k:Nat),Rel i0 true (List.getD [aWays l,AV.clo 117 [AV.rp (cRun r)]] k AV.any) (i1.getD k undef))->fnokOf Try.prog 0 (fun (w:{ w:WayS // w ∈ l })=>[AV.agg (cWay (Subtype.val w))]) (fun (w:{ w:WayS // w ∈ l })=>vSpan (mixF r (Subtype.val w))) (Env.mk i0.1 i0.2 i0.3 fun (k:Nat) (u:Value) => ∃ (i:Nat),[aWays l,AV.fn 0][i]? = some (AV.fn k)/\i1[i]? = some u))/\True/\True) (st':=ASt.mk [(4,.ptr 8 [])] [(8,.cells 37 (cSpan (hullOf l (mixF r))))] 48) (by kernel_rfl) ⟨tv,tv,⟨⟨rfl,tv,tv⟩,(t81 _ _),⟨(o0 hp),(o1 hp)⟩,tv,(fun i0=>(fun i1=>(fun h2=>(fun h3=>(fun h4=>(o2 E0 hp i0 i1 h2 h3 h4))))))⟩,tv,tv⟩ ?_
 refine swp_ret ?_
 exact ret_q [] ((True/\True)/\((iv (hullOf l (mixF r)).lo=iv (hullOf l (mixF r)).lo/\nilN = [])/\(iv (hullOf l (mixF r)).hi=iv (hullOf l (mixF r)).hi/\nilN = [])/\True)/\T3) (by kernel_rfl) ⟨⟨tv,tv⟩,⟨⟨rfl,rfl⟩,⟨rfl,rfl⟩,tv⟩,rfl,rfl,rfl⟩
theorem t84 (r:Run) (l:List WayS):Triple Try.prog 84 (s84 r l):=by
 apply w84
 case o2 =>
  intro E0 hp E us le hlen hr
  refine fnok_arg (vals:=[aWays l,.clo 117 [.rp (cRun r)]]) 1 (fun j' h => ?_) (fun E u hu w=>fnok_clo (caps:=[.rp (cRun r)]) (s117 w.1 r) (t117 w.1 _) rfl ⟨hp.2.1,hp.2.2.1 _ w.2,hp.2.2.2.1,hp.2.2.2.2.1⟩ (fun _=>trivial) rfl rfl rfl rfl rfl hu) E us le hlen hr
  match j',h with
  | 0,h=>cases h
  | 1,_=>rfl
  | n + 2,h=>simp at h
 all_goals ((repeat intro _) <;> (try simp only [v0,v1,v2,v3,v4,v5,v6,v7,v8,v9,inI,fits,Go.Sh.small] at *) <;> first | (exact rfl) | omega | exact vz | (simp_all; done) | (simp_all; omega))
abbrev q27_1 (r:Run) (C:Prop):Prop:=fits r->(!decide (openE r true=0))=false->C
theorem w27 (r:Run)
 (o0:fits r->(!decide (openE r true=0))->0=(mixesS r).lo)
 (o1:fits r->(!decide (openE r true=0))->0=(mixesS r).hi)
 (o2:q27_1 r (rb r))
 (o3:q27_1 r (∀ (i2:WayS),i2 ∈ openL r true->wb i2))
 (o4:q27_1 r (1<=r.plates))
 (o5:q27_1 r (r.plates<=3))
 (o6:q27_1 r (0 < (openL r true).length))
 (o7:q27_1 r ((openL r true).length<=65536))
 (o8:q27_1 r ((hullOf (openL r true) (mixF r)).lo=(mixesS r).lo))
 (o9:q27_1 r ((hullOf (openL r true) (mixF r)).hi=(mixesS r).hi))
 (o10:q27_1 r (0=openE r true)) :
  Triple Try.prog 27 (s27 r):=by
 refine triple_of Try.func27 rfl Try.call27 T0_ok _ rfl rfl rfl rfl (Nat.le_of_ble_eq_true (by kernel_rfl)) (fun _ _ _ _ h=>h) ?_
 intro hp C hC _ hE
 obtain ⟨P,w0,E0,av,hA⟩:=C
 subst hC
 refine swp_seq ?_
 refine sR (kt:=[1,2]) (kh:=[0,8]) (q:=True/\True/\True/\True) (st':=ASt.mk [(1,.ptr 0 []),(2,.ptr 8 [])] [(0,.cells 25 (cRun r)),(8,.cells 37 [iv 0,iv 0])] 24) (by kernel_rfl) ⟨tv,tv,tv,tv⟩ ?_
 refine swp_seq ?_
 refine swp_region T0_ok mixed (cs:=[(1,CallSpec.eq (s78 r true) [true,true])]) (kt:=[1,2,4,5]) (kh:=[0,8]) (q:=True/\((AV.agg (cRun r)=AV.agg (cRun r)/\bv true=bv true/\True)/\Triple Try.prog 78 (s78 r true)/\fits r/\True /\ ∀ (i0:Env),True)/\True/\True/\True/\True/\True/\True) (st':=ASt.mk [(1,.ptr 0 []),(2,.ptr 8 []),(4,aWays (openL r true)),(5,iv (openE r true))] [(0,.cells 25 (cRun r)),(8,.cells 37 [iv 0,iv 0])] 80) (by kernel_rfl) ⟨tv,⟨⟨rfl,rfl,tv⟩,(t78 (r) (true)),hp,tv,(fun i0=>tv)⟩,tv,tv,tv,tv,tv,tv⟩ ?_
 refine swp_seq (swp_seq ?_)
 refine sR (kt:=[1,2,4,5,12]) (kh:=[0,8]) (q:=True/\True/\True) (st':=ASt.mk [(1,.ptr 0 []),(2,.ptr 8 []),(4,aWays (openL r true)),(5,iv (openE r true)),(12,bv !decide (openE r true=0))] [(0,.cells 25 (cRun r)),(8,.cells 37 [iv 0,iv 0])] 96) (by kernel_rfl) ⟨tv,tv,tv⟩ ?_
 refine swp_cond (!decide (openE r true=0)) (by kernel_rfl) (fun h1 => ?_) (fun h1 => ?_)
 ·refine swp_seq ?_
  refine sR (kt:=[2,3]) (kh:=[8]) (q:=True/\True/\True/\True/\True) (st':=ASt.mk [(2,.ptr 8 []),(3,iv (openE r true))] [(8,.cells 37 [iv 0,iv 0])] 128) (by kernel_rfl) ⟨tv,tv,tv,tv,tv⟩ ?_
  refine swp_ret ?_
  exact ret_q [] ((True/\True/\True)/\(((iv 0=iv (mixesS r).lo/\nilN = [])/\(iv 0=iv (mixesS r).hi/\nilN = [])/\True)/\(iv (openE r true)=iv (openE r true)/\nilN = [])/\True)/\T3) (by kernel_rfl) ⟨⟨tv,tv,tv⟩,⟨⟨⟨(congrArg iv (o0 hp h1)),rfl⟩,⟨(congrArg iv (o1 hp h1)),rfl⟩,tv⟩,⟨rfl,rfl⟩,tv⟩,rfl,rfl,rfl⟩
 ·refine swp_skip (swp_seq ?_)
  refine swp_region T0_ok mixed (cs:=[(2,CallSpec.eq (c27 r) [true,true])]) (kt:=[2,3]) (kh:=[8]) (q:=True/\True/\((AV.agg (cRun r)=AV.agg (cRun r)/\aWays (openL r true)=aWays (openL r true)/\True)/\Triple Try.prog 84 (c27 r)/\(fits r/\rb r/\(∀ (i2:WayS),i2 ∈ openL r true->wb i2)/\1<=r.plates/\r.plates<=3/\0 < (openL r true).length/\(openL r true).length<=65536)/\True /\ ∀ (i4:Env),True)/\True/\True/\True) (st':=ASt.mk [(2,.ptr 8 []),(3,iv 0)] [(8,.cells 37 (cSpan (hullOf (openL r true) (mixF r))))] 136) (by kernel_rfl) ⟨tv,tv,⟨⟨rfl,rfl,tv⟩,(t84 _ _),⟨hp,(o2 hp h1),(fun i2=>(fun h3=>(o3 hp h1 i2 h3))),(o4 hp h1),(o5 hp h1),(o6 hp h1),(o7 hp h1)⟩,tv,(fun i4=>tv)⟩,tv,tv,tv⟩ ?_
  refine swp_ret ?_
  exact ret_q [] ((True/\True/\True)/\(((iv (hullOf (openL r true) (mixF r)).lo=iv (mixesS r).lo/\nilN = [])/\(iv (hullOf (openL r true) (mixF r)).hi=iv (mixesS r).hi/\nilN = [])/\True)/\(iv 0=iv (openE r true)/\nilN = [])/\True)/\T3) (by kernel_rfl) ⟨⟨tv,tv,tv⟩,⟨⟨⟨(congrArg iv (o8 hp h1)),rfl⟩,⟨(congrArg iv (o9 hp h1)),rfl⟩,tv⟩,⟨(congrArg iv (o10 hp h1)),rfl⟩,tv⟩,rfl,rfl,rfl⟩
theorem t27 (r:Run):Triple Try.prog 27 (s27 r):=by
 apply w27
 case o0 | o1=>intro _ h; rw [mixesS,if_neg (openBad h)]
 case o8 | o9=>intro _ h; rw [mixesS,if_pos (openF h).zero,(openF h).eq]
 all_goals (intro _ h; have F:=openF h; have h1:=F.ok.plates; have h2:=F.pos; have h3:=F.len; first | omega | exact rb_of F.ok | exact F.wb | exact F.zero.symm)
abbrev q26_1 (r:Run) (p:Int) (C:Prop):Prop:=fits r->(!decide (openE r (isPlate r p)=0))=false->C
theorem w26 (r:Run) (p:Int)
 (o0:fits r->(!decide (openE r (isPlate r p)=0))->0=(oldS r p).lo)
 (o1:fits r->(!decide (openE r (isPlate r p)=0))->0=(oldS r p).hi)
 (o2:q26_1 r p (0 < (openL r (isPlate r p)).length))
 (o3:q26_1 r p ((openL r (isPlate r p)).length<=65536))
 (o4:∀ (E0:Env),fits r->(!decide (openE r (isPlate r p)=0))=false -> ∀ (i3:Env) (i4:List Value),Env.le E0 i3->i4.length=List.length [aWays (openL r (isPlate r p)),AV.fn 0]->(∀ (k:Nat),Rel i3 true (List.getD [aWays (openL r (isPlate r p)),AV.clo 83 [AV.rp (cRun r),AV.rp [iv p]]] k AV.any) (i4.getD k undef))->fnokOf Try.prog 0 (fun (w:{ w:WayS // w ∈ openL r (isPlate r p) })=>[AV.agg (cWay (Subtype.val w))]) (fun (w:{ w:WayS // w ∈ openL r (isPlate r p) })=>vSpan (oldF r p.toNat (Subtype.val w))) (Env.mk i3.1 i3.2 i3.3 fun (k:Nat) (u:Value) => ∃ (i:Nat),[aWays (openL r (isPlate r p)),AV.fn 0][i]? = some (AV.fn k)/\i4[i]? = some u))
 (o5:q26_1 r p ((hullOf (openL r (isPlate r p)) (oldF r p.toNat)).lo=(oldS r p).lo))
 (o6:q26_1 r p ((hullOf (openL r (isPlate r p)) (oldF r p.toNat)).hi=(oldS r p).hi))
 (o7:q26_1 r p (0=openE r (isPlate r p))) :
  Triple Try.prog 26 (s26 r p):=by
 refine triple_of Try.func26 rfl Try.call26 T0_ok _ rfl rfl rfl rfl (Nat.le_of_ble_eq_true (by kernel_rfl)) (fun _ _ _ _ h=>h) ?_
 intro hp C hC _ hE
 obtain ⟨P,w0,E0,av,hA⟩:=C
 subst hC
 refine swp_seq ?_
 refine sR (kt:=[2,3,4]) (kh:=[0,8,16]) (q:=True/\True/\True/\True/\True) (st':=ASt.mk [(2,.ptr 0 []),(3,.ptr 8 []),(4,.ptr 16 [])] [(0,.cells 25 (cRun r)),(8,.cells 3 [iv p]),(16,.cells 37 [iv 0,iv 0])] 32) (by kernel_rfl) ⟨tv,tv,tv,tv,tv⟩ ?_
 refine swp_seq ?_
 refine swp_region T0_ok mixed (cs:=[(3,CallSpec.eq (s80 r p) [true,true]),(4,CallSpec.eq (c26o r p) [true,true])]) (kt:=[2,3,4,6,7]) (kh:=[0,8,16]) (q:=True/\True/\True/\((AV.agg (cRun r)=AV.agg (cRun r)/\iv p=iv p/\True)/\Triple Try.prog 80 (s80 r p)/\fits r/\True /\ ∀ (i0:Env),True)/\((AV.agg (cRun r)=AV.agg (cRun r)/\bv (isPlate r p)=bv (isPlate r p)/\True)/\Triple Try.prog 78 (c26o r p)/\fits r/\True /\ ∀ (i1:Env),True)/\True/\True/\True/\True/\True/\True) (st':=ASt.mk [(2,.ptr 0 []),(3,.ptr 8 []),(4,.ptr 16 []),(6,aWays (openL r (isPlate r p))),(7,iv (openE r (isPlate r p)))] [(0,.cells 25 (cRun r)),(8,.cells 3 [iv p]),(16,.cells 37 [iv 0,iv 0])] 112) (by kernel_rfl) ⟨tv,tv,tv,⟨⟨rfl,rfl,tv⟩,(t80 (r) (p)),hp,tv,(fun i0=>tv)⟩,⟨⟨rfl,rfl,tv⟩,(t78 _ _),hp,tv,(fun i1=>tv)⟩,tv,tv,tv,tv,tv,tv⟩ ?_
 refine swp_seq (swp_seq ?_)
 refine sR (kt:=[2,3,4,6,7,17]) (kh:=[0,8,16]) (q:=True/\True/\True) (st':=ASt.mk [(2,.ptr 0 []),(3,.ptr 8 []),(4,.ptr 16 []),(6,aWays (openL r (isPlate r p))),(7,iv (openE r (isPlate r p))),(17,bv !decide (openE r (isPlate r p)=0))] [(0,.cells 25 (cRun r)),(8,.cells 3 [iv p]),(16,.cells 37 [iv 0,iv 0])] 128) (by kernel_rfl) ⟨tv,tv,tv⟩ ?_
 refine swp_cond (!decide (openE r (isPlate r p)=0)) (by kernel_rfl) (fun h2 => ?_) (fun h2 => ?_)
 ·refine swp_seq ?_
  refine sR (kt:=[4,5]) (kh:=[16]) (q:=True/\True/\True/\True/\True) (st':=ASt.mk [(4,.ptr 16 []),(5,iv (openE r (isPlate r p)))] [(16,.cells 37 [iv 0,iv 0])] 160) (by kernel_rfl) ⟨tv,tv,tv,tv,tv⟩ ?_
  refine swp_ret ?_
  exact ret_q [] ((True/\True/\True)/\(((iv 0=iv (oldS r p).lo/\nilN = [])/\(iv 0=iv (oldS r p).hi/\nilN = [])/\True)/\(iv (openE r (isPlate r p))=iv (openE r (isPlate r p))/\nilN = [])/\True)/\T3) (by kernel_rfl) ⟨⟨tv,tv,tv⟩,⟨⟨⟨(congrArg iv (o0 hp h2)),rfl⟩,⟨(congrArg iv (o1 hp h2)),rfl⟩,tv⟩,⟨rfl,rfl⟩,tv⟩,rfl,rfl,rfl⟩
 ·refine swp_skip (swp_seq ?_)
  refine swp_ent (ent_fz 0 25 (cRun r) (ASt.mk [(2,AV.rp (cRun r)),(3,AV.ptr 8 []),(4,AV.ptr 16 []),(6,aWays (openL r (isPlate r p))),(7,iv (openE r (isPlate r p))),(17,bv !decide (openE r (isPlate r p)=0))] [(8,OB.cells 3 [iv p]),(16,OB.cells 37 [iv 0,iv 0])] 128) (by kernel_rfl) (by kernel_rfl) (by kernel_rfl)) ?_
  refine swp_ent (ent_fz 8 3 ([iv p]) (ASt.mk [(2,AV.rp (cRun r)),(3,AV.rp [iv p]),(4,AV.ptr 16 []),(6,aWays (openL r (isPlate r p))),(7,iv (openE r (isPlate r p))),(17,bv !decide (openE r (isPlate r p)=0))] [(16,OB.cells 37 [iv 0,iv 0])] 128) (by kernel_rfl) (by kernel_rfl) (by kernel_rfl)) ?_
  refine swp_region T0_ok mixed (cs:=[(2,CallSpec.eq (c26 r p) [true,false])]) (kt:=[4,5]) (kh:=[16]) (q:=True/\True/\((aWays (openL r (isPlate r p))=aWays (openL r (isPlate r p))/\True/\True)/\Triple Try.prog 81 (c26 r p)/\(0 < (openL r (isPlate r p)).length/\(openL r (isPlate r p)).length<=65536)/\True /\ ∀ (i3:Env) (i4:List Value),Env.le E0 i3->i4.length=List.length [aWays (openL r (isPlate r p)),AV.fn 0]->(∀ (k:Nat),Rel i3 true (List.getD [aWays (openL r (isPlate r p)),AV.clo 83 [AV.rp (cRun r),AV.rp [iv p]]] k AV.any) (i4.getD k undef))->fnokOf Try.prog 0 (fun (w:{ w:WayS // w ∈ openL r (isPlate r p) })=>[AV.agg (cWay (Subtype.val w))]) (fun (w:{ w:WayS // w ∈ openL r (isPlate r p) })=>vSpan (oldF r p.toNat (Subtype.val w))) (Env.mk i3.1 i3.2 i3.3 fun (k:Nat) (u:Value) => ∃ (i:Nat),[aWays (openL r (isPlate r p)),AV.fn 0][i]? = some (AV.fn k)/\i4[i]? = some u))/\True/\True/\True) (st':=ASt.mk [(4,.ptr 16 []),(5,iv 0)] [(16,.cells 37 (cSpan (hullOf (openL r (isPlate r p)) (oldF r p.toNat))))] 168) (by kernel_rfl) ⟨tv,tv,⟨⟨rfl,tv,tv⟩,(t81 _ _),⟨(o2 hp h2),(o3 hp h2)⟩,tv,(fun i3=>(fun i4=>(fun h5=>(fun h6=>(fun h7=>(o4 E0 hp h2 i3 i4 h5 h6 h7))))))⟩,tv,tv,tv⟩ ?_
  refine swp_ret ?_
  exact ret_q [] ((True/\True/\True)/\(((iv (hullOf (openL r (isPlate r p)) (oldF r p.toNat)).lo=iv (oldS r p).lo/\nilN = [])/\(iv (hullOf (openL r (isPlate r p)) (oldF r p.toNat)).hi=iv (oldS r p).hi/\nilN = [])/\True)/\(iv 0=iv (openE r (isPlate r p))/\nilN = [])/\True)/\T3) (by kernel_rfl) ⟨⟨tv,tv,tv⟩,⟨⟨⟨(congrArg iv (o5 hp h2)),rfl⟩,⟨(congrArg iv (o6 hp h2)),rfl⟩,tv⟩,⟨(congrArg iv (o7 hp h2)),rfl⟩,tv⟩,rfl,rfl,rfl⟩
theorem t26 (r:Run) (p:Int):Triple Try.prog 26 (s26 r p):=by
 apply w26
 case o0 | o1=>intro _ h; rw [oldS,if_neg (openBad h)]
 case o4 =>
  intro E0 _ h E us le hlen hr
  have F:=openF h
  have hw:=plateIs_ok F.ok F.isT
  refine fnok_arg (vals:=[aWays (openL r (isPlate r p)),.clo 83 [.rp (cRun r),.rp [iv p]]]) 1 (fun j' h => ?_) (fun E u hu w=>fnok_clo (caps:=[.rp (cRun r),.rp [iv p]]) (s83 w.1 r p.toNat) (t83 w.1 _ _) ?_ ⟨rb_of F.ok,F.wb _ w.2,by omega⟩ (fun _=>trivial) rfl rfl rfl rfl rfl hu) E us le hlen hr
  ·match j',h with
   | 0,h=>cases h
   | 1,_=>rfl
   | n + 2,h=>simp at h
  ·show [AV.agg (cWay w),AV.rp (cRun r),AV.rp [iv (p.toNat:Int)]]=_
   rw [Int.toNat_of_nonneg hw.1]; rfl
 case o5 | o6=>intro _ h; rw [oldS,if_pos (openF h).zero,(openF h).eq]
 all_goals (intro _ h; have F:=openF h; have h2:=F.pos; have h3:=F.len; first | omega | exact F.zero.symm)
abbrev q31_1 (r:Run) (f:Int) (p:Int) (C:Prop):Prop:=fits r->(!decide (openE r (readIs r f p)=0))=false->C
abbrev q31_2 (r:Run) (f:Int) (p:Int) (C:Nat->Prop):Prop:=q31_1 r f p (∀ (x11:Nat),x11<=(openL r (readIs r f p)).length->decide ((x11:Int) < (↑((openL r (readIs r f p)).length):Int))=true->C x11)
abbrev q31_3 (r:Run) (f:Int) (p:Int) (C:Nat->Prop):Prop:=q31_2 r f p fun x11=>decide ((((openL r (readIs r f p)).getD x11 default).whn (((openL r (readIs r f p)).getD x11 default).frm.getD f.toNat 0).toNat p.toNat).hi<=(fnd r f.toNat).minute)=true->C x11
abbrev q31_4 (r:Run) (f:Int) (p:Int) (C:Nat->Prop):Prop:=q31_2 r f p fun x11=>decide ((((openL r (readIs r f p)).getD x11 default).whn (((openL r (readIs r f p)).getD x11 default).frm.getD f.toNat 0).toNat p.toNat).hi<=(fnd r f.toNat).minute)=false->C x11
abbrev q31_5 (r:Run) (f:Int) (p:Int) (C:Nat->Prop):Prop:=q31_4 r f p fun x11=>decide ((fnd r f.toNat).minute < (((openL r (readIs r f p)).getD x11 default).whn (((openL r (readIs r f p)).getD x11 default).frm.getD f.toNat 0).toNat p.toNat).lo)=true->C x11
abbrev q31_6 (r:Run) (f:Int) (p:Int) (C:Nat->Prop):Prop:=q31_4 r f p fun x11=>decide ((fnd r f.toNat).minute < (((openL r (readIs r f p)).getD x11 default).whn (((openL r (readIs r f p)).getD x11 default).frm.getD f.toNat 0).toNat p.toNat).lo)=false->C x11
abbrev q31_7 (r:Run) (f:Int) (p:Int) (C:Nat->Prop):Prop:=q31_1 r f p (∀ (x11:Nat),x11<=(openL r (readIs r f p)).length->decide ((x11:Int) < (↑((openL r (readIs r f p)).length):Int))=false->C x11)
theorem w31 (r:Run) (f:Int) (p:Int)
 (o0:fits r->(bif isFound r f then isPlate r p else false)=readIs r f p)
 (o1:fits r->(!decide (openE r (readIs r f p)=0))->0=readS r f p)
 (o2:q31_1 r f p (0=(↑(cnt (openL r (readIs r f p)) (rdSo r f.toNat p.toNat) 0):Int)))
 (o3:q31_1 r f p (0=(↑(cnt (openL r (readIs r f p)) (rdNot r f.toNat p.toNat) 0):Int)))
 (o4:q31_1 r f p (0=(↑0:Int)))
 (o5:q31_1 r f p (0<=(openL r (readIs r f p)).length))
 (o6:q31_2 r f p fun x11=>0<=(x11:Int))
 (o7:q31_2 r f p fun x11=>(x11:Int) < (↑((openL r (readIs r f p)).length):Int))
 (o8:q31_2 r f p fun x11=>0<=f)
 (o9:q31_2 r f p fun x11=>f < (↑(((openL r (readIs r f p)).getD x11 default).frm.length):Int))
 (o10:q31_2 r f p fun x11=>0<=((openL r (readIs r f p)).getD x11 default).frm.getD f.toNat 0)
 (o11:q31_2 r f p fun x11=>((openL r (readIs r f p)).getD x11 default).frm.getD f.toNat 0 < (↑3:Int))
 (o12:q31_2 r f p fun x11=>0<=p)
 (o13:q31_2 r f p fun x11=>p < (↑3:Int))
 (o14:q31_2 r f p fun x11=>(((openL r (readIs r f p)).getD x11 default).frm.getD f.toNat 0).toNat < 3)
 (o15:q31_2 r f p fun x11=>p.toNat < 3)
 (o16:q31_2 r f p fun x11=>0<=f)
 (o17:q31_2 r f p fun x11=>f < (↑(r.found.length):Int))
 (o18:q31_3 r f p fun x11=>inI ((↑(cnt (openL r (readIs r f p)) (rdSo r f.toNat p.toNat) x11):Int) + 1))
 (o19:q31_3 r f p fun x11=>inI ((x11:Int) + 1))
 (o20:q31_3 r f p fun x11=>(↑(cnt (openL r (readIs r f p)) (rdSo r f.toNat p.toNat) x11):Int) + 1=(↑(cnt (openL r (readIs r f p)) (rdSo r f.toNat p.toNat) (x11 + 1)):Int))
 (o21:q31_3 r f p fun x11=>(↑(cnt (openL r (readIs r f p)) (rdNot r f.toNat p.toNat) x11):Int)=(↑(cnt (openL r (readIs r f p)) (rdNot r f.toNat p.toNat) (x11 + 1)):Int))
 (o22:q31_3 r f p fun x11=>(x11:Int) + 1=(↑(x11 + 1):Int))
 (o23:q31_3 r f p fun x11=>x11 + 1<=(openL r (readIs r f p)).length)
 (o24:q31_3 r f p fun x11=>(openL r (readIs r f p)).length - (x11 + 1) < (openL r (readIs r f p)).length - x11)
 (o25:q31_5 r f p fun x11=>inI ((↑(cnt (openL r (readIs r f p)) (rdNot r f.toNat p.toNat) x11):Int) + 1))
 (o26:q31_5 r f p fun x11=>inI ((x11:Int) + 1))
 (o27:q31_5 r f p fun x11=>(↑(cnt (openL r (readIs r f p)) (rdSo r f.toNat p.toNat) x11):Int)=(↑(cnt (openL r (readIs r f p)) (rdSo r f.toNat p.toNat) (x11 + 1)):Int))
 (o28:q31_5 r f p fun x11=>(↑(cnt (openL r (readIs r f p)) (rdNot r f.toNat p.toNat) x11):Int) + 1=(↑(cnt (openL r (readIs r f p)) (rdNot r f.toNat p.toNat) (x11 + 1)):Int))
 (o29:q31_5 r f p fun x11=>(x11:Int) + 1=(↑(x11 + 1):Int))
 (o30:q31_5 r f p fun x11=>x11 + 1<=(openL r (readIs r f p)).length)
 (o31:q31_5 r f p fun x11=>(openL r (readIs r f p)).length - (x11 + 1) < (openL r (readIs r f p)).length - x11)
 (o32:q31_6 r f p fun x11=>inI ((x11:Int) + 1))
 (o33:q31_6 r f p fun x11=>(↑(cnt (openL r (readIs r f p)) (rdSo r f.toNat p.toNat) x11):Int)=(↑(cnt (openL r (readIs r f p)) (rdSo r f.toNat p.toNat) (x11 + 1)):Int))
 (o34:q31_6 r f p fun x11=>(↑(cnt (openL r (readIs r f p)) (rdNot r f.toNat p.toNat) x11):Int)=(↑(cnt (openL r (readIs r f p)) (rdNot r f.toNat p.toNat) (x11 + 1)):Int))
 (o35:q31_6 r f p fun x11=>(x11:Int) + 1=(↑(x11 + 1):Int))
 (o36:q31_6 r f p fun x11=>x11 + 1<=(openL r (readIs r f p)).length)
 (o37:q31_6 r f p fun x11=>(openL r (readIs r f p)).length - (x11 + 1) < (openL r (readIs r f p)).length - x11)
 (o38:q31_7 r f p fun x11=>known3 (↑(cnt (openL r (readIs r f p)) (rdSo r f.toNat p.toNat) x11):Int) (↑(cnt (openL r (readIs r f p)) (rdNot r f.toNat p.toNat) x11):Int) (↑((openL r (readIs r f p)).length):Int)=readS r f p)
 (o39:q31_7 r f p fun x11=>0=openE r (readIs r f p)) :
  Triple Try.prog 31 (s31 r f p):=by
 refine triple_of Try.func31 rfl Try.call31 T0_ok _ rfl rfl rfl rfl (Nat.le_of_ble_eq_true (by kernel_rfl)) (fun _ _ _ _ h=>h) ?_
 intro hp C hC _ hE
 obtain ⟨P,w0,E0,av,hA⟩:=C
 subst hC
 refine swp_seq ?_
 refine sR (kt:=[1,2,3]) (kh:=[0]) (q:=True/\True/\True/\True) (st':=ASt.mk [(1,iv f),(2,iv p),(3,.ptr 0 [])] [(0,.cells 25 (cRun r))] 24) (by kernel_rfl) ⟨tv,tv,tv,tv⟩ ?_
 refine swp_seq ?_
 refine swp_region T0_ok mixed (cs:=[(3,CallSpec.eq (s85 r f) [true,true]),(7,CallSpec.eq (s80 r p) [true,true]),(9,CallSpec.eq (c31o r f p) [true,false])]) (kt:=[1,2,3,8,9]) (kh:=[0]) (q:=True/\True/\True/\((AV.agg (cRun r)=AV.agg (cRun r)/\iv f=iv f/\True)/\Triple Try.prog 85 (s85 r f)/\fits r/\True /\ ∀ (i0:Env),True)/\True/\(isFound r f=true->(True/\True)/\True)/\(isFound r f=true->(True/\True)/\True)/\(isFound r f=true->(True/\(isFound r f=true->isFound r f=true)/\(isFound r f=true->isFound r f=true)/\True)/\(AV.agg (cRun r)=AV.agg (cRun r)/\iv p=iv p/\True)/\Triple Try.prog 80 (s80 r p)/\fits r/\True /\ ∀ (i6:Env),True)/\((isFound r f=true->isFound r f=true)/\(isFound r f=false->True))/\((AV.agg (cRun r)=AV.agg (cRun r)/\bv (bif isFound r f then isPlate r p else false)=bv (readIs r f p)/\True)/\Triple Try.prog 78 (c31o r f p)/\fits r/\True /\ ∀ (i9:Env),True)/\True/\True/\True/\True/\True/\True) (st':=ASt.mk [(1,iv f),(2,iv p),(3,.ptr 0 []),(8,aWays (openL r (readIs r f p))),(9,iv (openE r (readIs r f p)))] [(0,.cells 25 (cRun r))] 144) (by kernel_rfl) ⟨tv,tv,tv,⟨⟨rfl,rfl,tv⟩,(t85 (r) (f)),hp,tv,(fun i0=>tv)⟩,tv,(fun h1=>⟨⟨tv,tv⟩,tv⟩),(fun h2=>⟨⟨tv,tv⟩,tv⟩),(fun h3=>⟨⟨tv,(fun h4=>h3),(fun h5=>h3),tv⟩,⟨rfl,rfl,tv⟩,(t80 (r) (p)),hp,tv,(fun i6=>tv)⟩),⟨(fun h7=>h7),(fun h8=>tv)⟩,⟨⟨rfl,(congrArg bv (o0 hp)),tv⟩,(t78 _ _),hp,tv,(fun i9=>tv)⟩,tv,tv,tv,tv,tv,tv⟩ ?_
 refine swp_seq (swp_seq ?_)
 refine sR (kt:=[1,2,3,8,9,30]) (kh:=[0]) (q:=True/\True/\True) (st':=ASt.mk [(1,iv f),(2,iv p),(3,.ptr 0 []),(8,aWays (openL r (readIs r f p))),(9,iv (openE r (readIs r f p))),(30,bv !decide (openE r (readIs r f p)=0))] [(0,.cells 25 (cRun r))] 160) (by kernel_rfl) ⟨tv,tv,tv⟩ ?_
 refine swp_cond (!decide (openE r (readIs r f p)=0)) (by kernel_rfl) (fun h10 => ?_) (fun h10 => ?_)
 ·refine swp_seq ?_
  refine sR (kt:=[6,7]) (kh:=[]) (q:=True/\True/\True/\True) (st':=ASt.mk [(6,iv 0),(7,iv (openE r (readIs r f p)))] [] 184) (by kernel_rfl) ⟨tv,tv,tv,tv⟩ ?_
  refine swp_ret ?_
  exact ret_q [] ((True/\True/\True)/\((iv 0=iv (readS r f p)/\nilN = [])/\(iv (openE r (readIs r f p))=iv (openE r (readIs r f p))/\nilN = [])/\True)/\T3) (by kernel_rfl) ⟨⟨tv,tv,tv⟩,⟨⟨(congrArg iv (o1 hp h10)),rfl⟩,⟨rfl,rfl⟩,tv⟩,rfl,rfl,rfl⟩
 ·refine swp_skip (swp_seq ?_)
  refine sR (kt:=[1,2,3,8,10,11]) (kh:=[0]) (q:=True/\True/\True) (st':=ASt.mk [(1,iv f),(2,iv p),(3,.ptr 0 []),(8,aWays (openL r (readIs r f p))),(10,iv 0),(11,iv 0)] [(0,.cells 25 (cRun r))] 176) (by kernel_rfl) ⟨tv,tv,tv⟩ ?_
  refine swp_seq (swp_seq ?_)
  refine sR (kt:=[1,2,3,8,10,11,32,33,34]) (kh:=[0]) (q:=True/\True/\True/\True) (st':=ASt.mk [(1,iv f),(2,iv p),(3,.ptr 0 []),(8,aWays (openL r (readIs r f p))),(10,iv 0),(11,iv 0),(32,aWays (openL r (readIs r f p))),(33,iv (↑((openL r (readIs r f p)).length):Int)),(34,iv 0)] [(0,.cells 25 (cRun r))] 200) (by kernel_rfl) ⟨tv,tv,tv,tv⟩ ?_
  refine swp_block ?_
  refine swp_loopA (Hint.ann (h31 r f p) [(1,iv f),(2,iv p),(3,AV.ptr 0 []),(8,aWays (openL r (readIs r f p))),(32,aWays (openL r (readIs r f p))),(33,iv (↑((openL r (readIs r f p)).length):Int))] [(0,OB.cells 25 (cRun r))] 10200) (ent_q hE [] [(0,.same 0)] [1,2,8,32,33] [0] (((iv f=iv f/\true=true)/\(iv p=iv p/\true=true)/\(some (Src.same 0)=some (Src.same 0)/\nilP = [])/\(aWays (openL r (readIs r f p))=aWays (openL r (readIs r f p))/\true=true)/\(aWays (openL r (readIs r f p))=aWays (openL r (readIs r f p))/\true=true)/\(iv (↑((openL r (readIs r f p)).length):Int)=iv (↑((openL r (readIs r f p)).length):Int)/\true=true)/\(iv 0=iv (↑(cnt (openL r (readIs r f p)) (rdSo r f.toNat p.toNat) 0):Int)/\nilN = [])/\(iv 0=iv (↑(cnt (openL r (readIs r f p)) (rdNot r f.toNat p.toNat) 0):Int)/\nilN = [])/\(iv 0=iv (↑0:Int)/\nilN = [])/\True)/\((OB.cells 25 (cRun r)=OB.cells 25 (cRun r)/\true=true)/\True)/\T2) (by kernel_rfl) (by kernel_rfl) ⟨⟨⟨rfl,rfl⟩,⟨rfl,rfl⟩,⟨rfl,rfl⟩,⟨rfl,rfl⟩,⟨rfl,rfl⟩,⟨rfl,rfl⟩,⟨(congrArg iv (o2 hp h10)),rfl⟩,⟨(congrArg iv (o3 hp h10)),rfl⟩,⟨(congrArg iv (o4 hp h10)),rfl⟩,tv⟩,⟨⟨rfl,rfl⟩,tv⟩,rfl,rfl⟩) (o5 hp h10) (fun (x11:Nat) hx11 => ?_)
  refine swp_seq ?_
  refine sR (kt:=[1,2,3,8,32,33,10,11,34,35]) (kh:=[0]) (q:=True/\True) (st':=ASt.mk [(1,iv f),(2,iv p),(3,.ptr 0 []),(8,aWays (openL r (readIs r f p))),(32,aWays (openL r (readIs r f p))),(33,iv (↑((openL r (readIs r f p)).length):Int)),(10,iv (↑(cnt (openL r (readIs r f p)) (rdSo r f.toNat p.toNat) x11):Int)),(11,iv (↑(cnt (openL r (readIs r f p)) (rdNot r f.toNat p.toNat) x11):Int)),(34,iv (x11:Int)),(35,bv (decide ((x11:Int) < (↑((openL r (readIs r f p)).length):Int))))] [(0,.cells 25 (cRun r))] 10208) (by kernel_rfl) ⟨tv,tv⟩ ?_
  refine swp_seq ?_
  refine swp_cond (decide ((x11:Int) < (↑((openL r (readIs r f p)).length):Int))) (by kernel_rfl) (fun h12 => ?_) (fun h12 => ?_)
  ·refine swp_skip (swp_seq (swp_block (swp_seq ?_)))
   refine sR (kt:=[1,2,3,8,32,33,10,11,34,13]) (kh:=[0,10224]) (q:=(0<=(x11:Int)/\(x11:Int) < (↑((openL r (readIs r f p)).length):Int))/\True/\True/\True/\True) (st':=ASt.mk [(1,iv f),(2,iv p),(3,.ptr 0 []),(8,aWays (openL r (readIs r f p))),(32,aWays (openL r (readIs r f p))),(33,iv (↑((openL r (readIs r f p)).length):Int)),(10,iv (↑(cnt (openL r (readIs r f p)) (rdSo r f.toNat p.toNat) x11):Int)),(11,iv (↑(cnt (openL r (readIs r f p)) (rdNot r f.toNat p.toNat) x11):Int)),(34,iv (x11:Int)),(13,.ptr 10224 [])] [(0,.cells 25 (cRun r)),(10224,.cells 107 (cWay ((openL r (readIs r f p)).getD x11 default)))] 10240) (by kernel_rfl) ⟨⟨(o6 hp h10 x11 hx11 h12),(o7 hp h10 x11 hx11 h12)⟩,tv,tv,tv,tv⟩ ?_
   refine swp_seq ?_
   refine sR (kt:=[1,2,3,8,32,33,10,11,34,14,15]) (kh:=[0,10368]) (q:=True/\True/\True/\(0<=f/\f < (↑(((openL r (readIs r f p)).getD x11 default).frm.length):Int))/\True/\True/\True/\(0<=((openL r (readIs r f p)).getD x11 default).frm.getD f.toNat 0/\((openL r (readIs r f p)).getD x11 default).frm.getD f.toNat 0 < (↑3:Int))/\(0<=p/\p < (↑3:Int))/\((((openL r (readIs r f p)).getD x11 default).frm.getD f.toNat 0).toNat < 3/\p.toNat < 3/\True)/\True/\True/\True/\(0<=f/\f < (↑(r.found.length):Int))/\True/\True/\True/\True/\True/\True) (st':=ASt.mk [(1,iv f),(2,iv p),(3,.ptr 0 []),(8,aWays (openL r (readIs r f p))),(32,aWays (openL r (readIs r f p))),(33,iv (↑((openL r (readIs r f p)).length):Int)),(10,iv (↑(cnt (openL r (readIs r f p)) (rdSo r f.toNat p.toNat) x11):Int)),(11,iv (↑(cnt (openL r (readIs r f p)) (rdNot r f.toNat p.toNat) x11):Int)),(34,iv (x11:Int)),(14,.ptr 10368 []),(15,iv (fnd r f.toNat).minute)] [(0,.cells 25 (cRun r)),(10368,.cells 37 (cSpan (((openL r (readIs r f p)).getD x11 default).whn (((openL r (readIs r f p)).getD x11 default).frm.getD f.toNat 0).toNat p.toNat)))] 10392) (by kernel_rfl) ⟨tv,tv,tv,⟨(o8 hp h10 x11 hx11 h12),(o9 hp h10 x11 hx11 h12)⟩,tv,tv,tv,⟨(o10 hp h10 x11 hx11 h12),(o11 hp h10 x11 hx11 h12)⟩,⟨(o12 hp h10 x11 hx11 h12),(o13 hp h10 x11 hx11 h12)⟩,⟨(o14 hp h10 x11 hx11 h12),(o15 hp h10 x11 hx11 h12),tv⟩,tv,tv,tv,⟨(o16 hp h10 x11 hx11 h12),(o17 hp h10 x11 hx11 h12)⟩,tv,tv,tv,tv,tv,tv⟩ ?_
   refine swp_block (swp_seq ?_)
   refine sR (kt:=[1,2,3,8,32,33,10,11,34,14,15,54]) (kh:=[0,10368]) (q:=True/\True/\True/\True/\True/\True) (st':=ASt.mk [(1,iv f),(2,iv p),(3,.ptr 0 []),(8,aWays (openL r (readIs r f p))),(32,aWays (openL r (readIs r f p))),(33,iv (↑((openL r (readIs r f p)).length):Int)),(10,iv (↑(cnt (openL r (readIs r f p)) (rdSo r f.toNat p.toNat) x11):Int)),(11,iv (↑(cnt (openL r (readIs r f p)) (rdNot r f.toNat p.toNat) x11):Int)),(34,iv (x11:Int)),(14,.ptr 10368 []),(15,iv (fnd r f.toNat).minute),(54,bv (decide ((((openL r (readIs r f p)).getD x11 default).whn (((openL r (readIs r f p)).getD x11 default).frm.getD f.toNat 0).toNat p.toNat).hi<=(fnd r f.toNat).minute)))] [(0,.cells 25 (cRun r)),(10368,.cells 37 (cSpan (((openL r (readIs r f p)).getD x11 default).whn (((openL r (readIs r f p)).getD x11 default).frm.getD f.toNat 0).toNat p.toNat)))] 10432) (by kernel_rfl) ⟨tv,tv,tv,tv,tv,tv⟩ ?_
   refine swp_cond (decide ((((openL r (readIs r f p)).getD x11 default).whn (((openL r (readIs r f p)).getD x11 default).frm.getD f.toNat 0).toNat p.toNat).hi<=(fnd r f.toNat).minute)) (by kernel_rfl) (fun h13 => ?_) (fun h13 => ?_)
   ·refine sR (kt:=[1,2,3,8,32,33,10,11,34]) (kh:=[0]) (q:=True/\inI ((↑(cnt (openL r (readIs r f p)) (rdSo r f.toNat p.toNat) x11):Int) + 1)/\True/\True) (st':=ASt.mk [(1,iv f),(2,iv p),(3,.ptr 0 []),(8,aWays (openL r (readIs r f p))),(32,aWays (openL r (readIs r f p))),(33,iv (↑((openL r (readIs r f p)).length):Int)),(10,iv ((↑(cnt (openL r (readIs r f p)) (rdSo r f.toNat p.toNat) x11):Int) + 1)),(11,iv (↑(cnt (openL r (readIs r f p)) (rdNot r f.toNat p.toNat) x11):Int)),(34,iv (x11:Int))] [(0,.cells 25 (cRun r))] 10456) (by kernel_rfl) ⟨tv,(o18 hp h10 x11 hx11 h12 h13),tv,tv⟩ ?_
    refine sR (kt:=[1,2,3,8,32,33,10,11,34]) (kh:=[0]) (q:=inI ((x11:Int) + 1)/\True/\True) (st':=ASt.mk [(1,iv f),(2,iv p),(3,.ptr 0 []),(8,aWays (openL r (readIs r f p))),(32,aWays (openL r (readIs r f p))),(33,iv (↑((openL r (readIs r f p)).length):Int)),(10,iv ((↑(cnt (openL r (readIs r f p)) (rdSo r f.toNat p.toNat) x11):Int) + 1)),(11,iv (↑(cnt (openL r (readIs r f p)) (rdNot r f.toNat p.toNat) x11):Int)),(34,iv ((x11:Int) + 1))] [(0,.cells 25 (cRun r))] 10472) (by kernel_rfl) ⟨(o19 hp h10 x11 hx11 h12 h13),tv,tv⟩ ?_
    exact loop_next (Hint.ann (h31 r f p) [(1,iv f),(2,iv p),(3,AV.ptr 0 []),(8,aWays (openL r (readIs r f p))),(32,aWays (openL r (readIs r f p))),(33,iv (↑((openL r (readIs r f p)).length):Int))] [(0,OB.cells 25 (cRun r))] 10200) x11 (ent_q hE [] [(0,.same 0)] [1,2,8,32,33] [0] (((iv f=iv f/\true=true)/\(iv p=iv p/\true=true)/\(some (Src.same 0)=some (Src.same 0)/\nilP = [])/\(aWays (openL r (readIs r f p))=aWays (openL r (readIs r f p))/\true=true)/\(aWays (openL r (readIs r f p))=aWays (openL r (readIs r f p))/\true=true)/\(iv (↑((openL r (readIs r f p)).length):Int)=iv (↑((openL r (readIs r f p)).length):Int)/\true=true)/\(iv ((↑(cnt (openL r (readIs r f p)) (rdSo r f.toNat p.toNat) x11):Int) + 1)=iv (↑(cnt (openL r (readIs r f p)) (rdSo r f.toNat p.toNat) (x11 + 1)):Int)/\nilN = [])/\(iv (↑(cnt (openL r (readIs r f p)) (rdNot r f.toNat p.toNat) x11):Int)=iv (↑(cnt (openL r (readIs r f p)) (rdNot r f.toNat p.toNat) (x11 + 1)):Int)/\nilN = [])/\(iv ((x11:Int) + 1)=iv (↑(x11 + 1):Int)/\nilN = [])/\True)/\((OB.cells 25 (cRun r)=OB.cells 25 (cRun r)/\true=true)/\True)/\T2) (by kernel_rfl) (by kernel_rfl) ⟨⟨⟨rfl,rfl⟩,⟨rfl,rfl⟩,⟨rfl,rfl⟩,⟨rfl,rfl⟩,⟨rfl,rfl⟩,⟨rfl,rfl⟩,⟨(congrArg iv (o20 hp h10 x11 hx11 h12 h13)),rfl⟩,⟨(congrArg iv (o21 hp h10 x11 hx11 h12 h13)),rfl⟩,⟨(congrArg iv (o22 hp h10 x11 hx11 h12 h13)),rfl⟩,tv⟩,⟨⟨rfl,rfl⟩,tv⟩,rfl,rfl⟩) (o23 hp h10 x11 hx11 h12 h13) (o24 hp h10 x11 hx11 h12 h13)
   ·refine swp_seq ?_
    refine sR (kt:=[1,2,3,8,32,33,10,11,34,61]) (kh:=[0]) (q:=True/\True/\True/\True/\True/\True) (st':=ASt.mk [(1,iv f),(2,iv p),(3,.ptr 0 []),(8,aWays (openL r (readIs r f p))),(32,aWays (openL r (readIs r f p))),(33,iv (↑((openL r (readIs r f p)).length):Int)),(10,iv (↑(cnt (openL r (readIs r f p)) (rdSo r f.toNat p.toNat) x11):Int)),(11,iv (↑(cnt (openL r (readIs r f p)) (rdNot r f.toNat p.toNat) x11):Int)),(34,iv (x11:Int)),(61,bv (decide ((fnd r f.toNat).minute < (((openL r (readIs r f p)).getD x11 default).whn (((openL r (readIs r f p)).getD x11 default).frm.getD f.toNat 0).toNat p.toNat).lo)))] [(0,.cells 25 (cRun r))] 10472) (by kernel_rfl) ⟨tv,tv,tv,tv,tv,tv⟩ ?_
    refine swp_cond (decide ((fnd r f.toNat).minute < (((openL r (readIs r f p)).getD x11 default).whn (((openL r (readIs r f p)).getD x11 default).frm.getD f.toNat 0).toNat p.toNat).lo)) (by kernel_rfl) (fun h14 => ?_) (fun h14 => ?_)
    ·refine sR (kt:=[1,2,3,8,32,33,10,11,34]) (kh:=[0]) (q:=True/\inI ((↑(cnt (openL r (readIs r f p)) (rdNot r f.toNat p.toNat) x11):Int) + 1)/\True/\True) (st':=ASt.mk [(1,iv f),(2,iv p),(3,.ptr 0 []),(8,aWays (openL r (readIs r f p))),(32,aWays (openL r (readIs r f p))),(33,iv (↑((openL r (readIs r f p)).length):Int)),(10,iv (↑(cnt (openL r (readIs r f p)) (rdSo r f.toNat p.toNat) x11):Int)),(11,iv ((↑(cnt (openL r (readIs r f p)) (rdNot r f.toNat p.toNat) x11):Int) + 1)),(34,iv (x11:Int))] [(0,.cells 25 (cRun r))] 10496) (by kernel_rfl) ⟨tv,(o25 hp h10 x11 hx11 h12 h13 h14),tv,tv⟩ ?_
     refine sR (kt:=[1,2,3,8,32,33,10,11,34]) (kh:=[0]) (q:=inI ((x11:Int) + 1)/\True/\True) (st':=ASt.mk [(1,iv f),(2,iv p),(3,.ptr 0 []),(8,aWays (openL r (readIs r f p))),(32,aWays (openL r (readIs r f p))),(33,iv (↑((openL r (readIs r f p)).length):Int)),(10,iv (↑(cnt (openL r (readIs r f p)) (rdSo r f.toNat p.toNat) x11):Int)),(11,iv ((↑(cnt (openL r (readIs r f p)) (rdNot r f.toNat p.toNat) x11):Int) + 1)),(34,iv ((x11:Int) + 1))] [(0,.cells 25 (cRun r))] 10512) (by kernel_rfl) ⟨(o26 hp h10 x11 hx11 h12 h13 h14),tv,tv⟩ ?_
     exact loop_next (Hint.ann (h31 r f p) [(1,iv f),(2,iv p),(3,AV.ptr 0 []),(8,aWays (openL r (readIs r f p))),(32,aWays (openL r (readIs r f p))),(33,iv (↑((openL r (readIs r f p)).length):Int))] [(0,OB.cells 25 (cRun r))] 10200) x11 (ent_q hE [] [(0,.same 0)] [1,2,8,32,33] [0] (((iv f=iv f/\true=true)/\(iv p=iv p/\true=true)/\(some (Src.same 0)=some (Src.same 0)/\nilP = [])/\(aWays (openL r (readIs r f p))=aWays (openL r (readIs r f p))/\true=true)/\(aWays (openL r (readIs r f p))=aWays (openL r (readIs r f p))/\true=true)/\(iv (↑((openL r (readIs r f p)).length):Int)=iv (↑((openL r (readIs r f p)).length):Int)/\true=true)/\(iv (↑(cnt (openL r (readIs r f p)) (rdSo r f.toNat p.toNat) x11):Int)=iv (↑(cnt (openL r (readIs r f p)) (rdSo r f.toNat p.toNat) (x11 + 1)):Int)/\nilN = [])/\(iv ((↑(cnt (openL r (readIs r f p)) (rdNot r f.toNat p.toNat) x11):Int) + 1)=iv (↑(cnt (openL r (readIs r f p)) (rdNot r f.toNat p.toNat) (x11 + 1)):Int)/\nilN = [])/\(iv ((x11:Int) + 1)=iv (↑(x11 + 1):Int)/\nilN = [])/\True)/\((OB.cells 25 (cRun r)=OB.cells 25 (cRun r)/\true=true)/\True)/\T2) (by kernel_rfl) (by kernel_rfl) ⟨⟨⟨rfl,rfl⟩,⟨rfl,rfl⟩,⟨rfl,rfl⟩,⟨rfl,rfl⟩,⟨rfl,rfl⟩,⟨rfl,rfl⟩,⟨(congrArg iv (o27 hp h10 x11 hx11 h12 h13 h14)),rfl⟩,⟨(congrArg iv (o28 hp h10 x11 hx11 h12 h13 h14)),rfl⟩,⟨(congrArg iv (o29 hp h10 x11 hx11 h12 h13 h14)),rfl⟩,tv⟩,⟨⟨rfl,rfl⟩,tv⟩,rfl,rfl⟩) (o30 hp h10 x11 hx11 h12 h13 h14) (o31 hp h10 x11 hx11 h12 h13 h14)
    ·refine swp_skip ?_
     refine sR (kt:=[1,2,3,8,32,33,10,11,34]) (kh:=[0]) (q:=inI ((x11:Int) + 1)/\True/\True) (st':=ASt.mk [(1,iv f),(2,iv p),(3,.ptr 0 []),(8,aWays (openL r (readIs r f p))),(32,aWays (openL r (readIs r f p))),(33,iv (↑((openL r (readIs r f p)).length):Int)),(10,iv (↑(cnt (openL r (readIs r f p)) (rdSo r f.toNat p.toNat) x11):Int)),(11,iv (↑(cnt (openL r (readIs r f p)) (rdNot r f.toNat p.toNat) x11):Int)),(34,iv ((x11:Int) + 1))] [(0,.cells 25 (cRun r))] 10488) (by kernel_rfl) ⟨(o32 hp h10 x11 hx11 h12 h13 h14),tv,tv⟩ ?_
     exact loop_next (Hint.ann (h31 r f p) [(1,iv f),(2,iv p),(3,AV.ptr 0 []),(8,aWays (openL r (readIs r f p))),(32,aWays (openL r (readIs r f p))),(33,iv (↑((openL r (readIs r f p)).length):Int))] [(0,OB.cells 25 (cRun r))] 10200) x11 (ent_q hE [] [(0,.same 0)] [1,2,8,32,33] [0] (((iv f=iv f/\true=true)/\(iv p=iv p/\true=true)/\(some (Src.same 0)=some (Src.same 0)/\nilP = [])/\(aWays (openL r (readIs r f p))=aWays (openL r (readIs r f p))/\true=true)/\(aWays (openL r (readIs r f p))=aWays (openL r (readIs r f p))/\true=true)/\(iv (↑((openL r (readIs r f p)).length):Int)=iv (↑((openL r (readIs r f p)).length):Int)/\true=true)/\(iv (↑(cnt (openL r (readIs r f p)) (rdSo r f.toNat p.toNat) x11):Int)=iv (↑(cnt (openL r (readIs r f p)) (rdSo r f.toNat p.toNat) (x11 + 1)):Int)/\nilN = [])/\(iv (↑(cnt (openL r (readIs r f p)) (rdNot r f.toNat p.toNat) x11):Int)=iv (↑(cnt (openL r (readIs r f p)) (rdNot r f.toNat p.toNat) (x11 + 1)):Int)/\nilN = [])/\(iv ((x11:Int) + 1)=iv (↑(x11 + 1):Int)/\nilN = [])/\True)/\((OB.cells 25 (cRun r)=OB.cells 25 (cRun r)/\true=true)/\True)/\T2) (by kernel_rfl) (by kernel_rfl) ⟨⟨⟨rfl,rfl⟩,⟨rfl,rfl⟩,⟨rfl,rfl⟩,⟨rfl,rfl⟩,⟨rfl,rfl⟩,⟨rfl,rfl⟩,⟨(congrArg iv (o33 hp h10 x11 hx11 h12 h13 h14)),rfl⟩,⟨(congrArg iv (o34 hp h10 x11 hx11 h12 h13 h14)),rfl⟩,⟨(congrArg iv (o35 hp h10 x11 hx11 h12 h13 h14)),rfl⟩,tv⟩,⟨⟨rfl,rfl⟩,tv⟩,rfl,rfl⟩) (o36 hp h10 x11 hx11 h12 h13 h14) (o37 hp h10 x11 hx11 h12 h13 h14)
  ·refine swp_exit (swp_seq ?_)
   refine swp_region T0_ok mixed (cs:=[(4,CallSpec.eq (s86 (↑(cnt (openL r (readIs r f p)) (rdSo r f.toNat p.toNat) x11):Int) (↑(cnt (openL r (readIs r f p)) (rdNot r f.toNat p.toNat) x11):Int) (↑((openL r (readIs r f p)).length):Int)) [true,true,true])]) (kt:=[6,7]) (kh:=[]) (q:=True/\True/\True/\True/\((iv (↑(cnt (openL r (readIs r f p)) (rdSo r f.toNat p.toNat) x11):Int)=iv (↑(cnt (openL r (readIs r f p)) (rdSo r f.toNat p.toNat) x11):Int)/\iv (↑(cnt (openL r (readIs r f p)) (rdNot r f.toNat p.toNat) x11):Int)=iv (↑(cnt (openL r (readIs r f p)) (rdNot r f.toNat p.toNat) x11):Int)/\iv (↑((openL r (readIs r f p)).length):Int)=iv (↑((openL r (readIs r f p)).length):Int)/\True)/\Triple Try.prog 86 (s86 (↑(cnt (openL r (readIs r f p)) (rdSo r f.toNat p.toNat) x11):Int) (↑(cnt (openL r (readIs r f p)) (rdNot r f.toNat p.toNat) x11):Int) (↑((openL r (readIs r f p)).length):Int))/\True/\True /\ ∀ (i15:Env),True)/\True/\True/\True) (st':=ASt.mk [(6,iv (known3 (↑(cnt (openL r (readIs r f p)) (rdSo r f.toNat p.toNat) x11):Int) (↑(cnt (openL r (readIs r f p)) (rdNot r f.toNat p.toNat) x11):Int) (↑((openL r (readIs r f p)).length):Int))),(7,iv 0)] [] 10264) (by kernel_rfl) ⟨tv,tv,tv,tv,⟨⟨rfl,rfl,rfl,tv⟩,(t86 ((↑(cnt (openL r (readIs r f p)) (rdSo r f.toNat p.toNat) x11):Int)) ((↑(cnt (openL r (readIs r f p)) (rdNot r f.toNat p.toNat) x11):Int)) ((↑((openL r (readIs r f p)).length):Int))),tv,tv,(fun i15=>tv)⟩,tv,tv,tv⟩ ?_
   refine swp_ret ?_
   exact ret_q [] ((True/\True/\True)/\((iv (known3 (↑(cnt (openL r (readIs r f p)) (rdSo r f.toNat p.toNat) x11):Int) (↑(cnt (openL r (readIs r f p)) (rdNot r f.toNat p.toNat) x11):Int) (↑((openL r (readIs r f p)).length):Int))=iv (readS r f p)/\nilN = [])/\(iv 0=iv (openE r (readIs r f p))/\nilN = [])/\True)/\T3) (by kernel_rfl) ⟨⟨tv,tv,tv⟩,⟨⟨(congrArg iv (o38 hp h10 x11 hx11 h12)),rfl⟩,⟨(congrArg iv (o39 hp h10 x11 hx11 h12)),rfl⟩,tv⟩,rfl,rfl,rfl⟩
theorem t31 (r:Run) (f p:Int):Triple Try.prog 31 (s31 r f p):=by
 apply w31
 case o0=>intro _; unfold readIs; cases isFound r f <;> rfl
 case o1=>intro _ h; rw [readS,if_neg (openBad h)]
 case o38=>intro _ h x hx hl; have F:=openF h; rw [readS,if_pos F.zero,show x=(openL r (readIs r f p)).length by simp only [decide_eq_false_iff_not] at hl; omega,F.eq]
 all_goals (first | (((repeat intro _) <;> (try simp only [v0,v1,v2,v3,v4,v5,v6,v7,v8,v9,inI,fits,Go.Sh.small] at *) <;> first | (exact rfl) | omega | exact vz | (simp_all; done) | (simp_all; omega))) | (
  intro _ h
  have F:=openF h
  first | exact F.zero.symm | (intro _ _ _; exact F.zero.symm) | (
   intro x hx hl
   simp only [decide_eq_true_eq] at hl
   have h1:=readIs_ok F.ok F.isT
   have h2:=F.frm x (by omega)
   have h3:=F.mach x (by omega) f.toNat (by omega)
   have h4:=F.len
   have h5:=cnt_le (openL r (readIs r f p)) (rdSo r f.toNat p.toNat) x
   have h6:=cnt_le (openL r (readIs r f p)) (rdNot r f.toNat p.toNat) x
   first
   | omega
   | ((repeat intro _); simp only [inI]; omega)
   | (intro e; exact cnt_t (by omega) e)
   | (intro e; exact cnt_f (by omega) e)
   | (intro e; exact cnt_f (by omega) (rdNot_t e))
   | (intro e e2; exact cnt_f (by omega) e)
   | (intro e e2; exact cnt_t (by omega) (rdNot_f e e2))
   | (intro e e2; exact cnt_f (by omega) (rdNot_f e e2)))))
end Go.Ab
namespace Go.Sh
def askE (r:Run) (is:Bool):Int:=if check r=0 then (if is then 0 else 1) else 60
def rfE (r:Run) (is:Bool):Int:=if check r=0 then (if is then (if (fromsOf r).length=0 then 3 else 0) else 1) else 60
def rfL (r:Run) (is:Bool):List (List Int):=if rfE r is=0 then fromsOf r else []
theorem check_two (r:Run):check r=0 ∨ check r=60:=by unfold check; split; exact .inl rfl; exact .inr rfl
theorem fromsOf_len {r:Run} (ok:Ok r):(fromsOf r).length<=729:=Nat.le_trans (List.length_filter_le _ _) (choices_len ok (Nat.zero_le _))
theorem fromsOf_mem {r:Run} {l:List Int} (h:l ∈ fromsOf r):l.length=r.found.length:=choices_mem (List.mem_filter.1 h).1
theorem choicesN_frm {r:Run}:∀ k first l,first.length + k<=r.found.length->l ∈ choicesN r k first->(∀ i,i < first.length->l.getD i 0=first.getD i 0) /\ ∀ i,first.length<=i->i < first.length + k->l.getD i 0 ∈ (fnd r i).frm:=by
 intro k
 induction k with
 | zero=>intro first l _ h; simp [choicesN] at h; rw [h]; exact ⟨fun _ _=>rfl,fun i h1 h2=>by omega⟩
 | succ k ih =>
  intro first l hk h
  rw [choicesN,List.mem_flatMap] at h
  obtain ⟨m,hm,h⟩:=h
  obtain ⟨h1,h2⟩:=ih (first ++ [m]) l (by simp; omega) h
  simp only [List.length_append,List.length_cons,List.length_nil] at h1 h2
  refine ⟨fun i hi => ?_,fun i h3 h4 => ?_⟩
  ·rw [h1 i (by omega),Go.Ab.getD_append,if_pos hi]
  ·by_cases e:i=first.length
   ·subst e
    rw [h1 first.length (by omega),Go.Ab.getD_append,if_neg (Nat.lt_irrefl _),Nat.sub_self]
    exact hm
   ·exact h2 i (by omega) (by omega)
theorem fromsOf_frm {r:Run} {l:List Int} (h:l ∈ fromsOf r) {i:Nat} (hi:i < r.found.length):l.getD i 0 ∈ (fnd r i).frm :=
 (choicesN_frm _ [] l (by simp) (List.mem_filter.1 h).1).2 i (Nat.zero_le _) (by simpa using hi)
theorem frm_range {r:Run} (ok:Ok r) {i:Nat} (hi:i < r.found.length) {x:Int} (h:x ∈ (fnd r i).frm):0<=x/\x < r.machines.length:=by
 obtain ⟨k,hk,e⟩:=List.getElem_of_mem h
 have h2:=ok.frm i hi k hk
 rw [Go.Ab.getD_lt _ _ hk,e] at h2
 exact h2
structure KnowF (r:Run) (is:Bool):Prop where
 zero:rfE r is=0
 okb:okRun r=true
 ok:Ok r
 isT:is=true
 eq:rfL r is=fromsOf r
 pos:0 < (rfL r is).length
 len:(rfL r is).length<=729
 frm:∀ x,x < (rfL r is).length->((rfL r is).getD x []).length=r.found.length
 mach:∀ x,x < (rfL r is).length -> ∀ i,i < r.found.length->0<=((rfL r is).getD x []).getD i 0/\((rfL r is).getD x []).getD i 0 < r.machines.length/\r.machines.length<=3
theorem rfE_zero {r:Run} {is:Bool} (h:rfE r is=0):check r=0/\is=true/\0 < (fromsOf r).length:=by
 unfold rfE at h
 split at h
 ·split at h
  ·split at h
   ·cases h
   ·rename_i h1 h2 h3; exact ⟨h1,h2,by omega⟩
  ·cases h
 ·cases h
theorem knowF {r:Run} {is:Bool} (h:(!decide (rfE r is=0))=false):KnowF r is:=by
 have h0:rfE r is=0:=by simpa using h
 obtain ⟨h1,h2,h3⟩:=rfE_zero h0
 have hb:=check_zero.1 h1
 have ok:=ok_of hb
 have he:rfL r is=fromsOf r:=by rw [rfL,if_pos h0]
 refine ⟨h0,hb,ok,h2,he,by rw [he]; exact h3,by rw [he]; exact fromsOf_len ok,fun x hx => ?_,fun x hx i hi => ?_⟩
 ·rw [he] at hx ⊢
  exact fromsOf_mem (Go.Ab.getD_mem _ [] hx)
 ·rw [he] at hx ⊢
  have:=frm_range ok hi (fromsOf_frm (Go.Ab.getD_mem _ [] hx) hi)
  exact ⟨this.1,this.2,ok.machines.2⟩
theorem knowBad {r:Run} {is:Bool} (h:(!decide (rfE r is=0))=true):rfE r is ≠ 0:=by simpa using h
def rhullTo (l:List (List Int)) (F:List Int->Span) (n:Nat):Span:=(List.range n).foldl (fun o i=>hull2 o (F (l.getD i []))) (F (l.getD 0 []))
def cntL (l:List (List Int)) (P:List Int->Bool) (n:Nat):Nat:=(l.take n).countP P
def smL (a b:Nat) (x:List Int):Bool:=decide (x.getD a 0=x.getD b 0)
def oldL (r:Run) (p:Nat) (l:List Int):Span:=sumTo r (fun m=>spanOf r l m p) r.machines.length
def minIn (g:Nat->Span) (i:Nat) (o:Span) (k:Nat):Span:=(List.range k).foldl (fun o q=>if i=q then o else ⟨max o.lo ((g i).lo - (g q).hi),max o.hi ((g i).hi - (g q).lo)⟩) o
def minTo (g:Nat->Span) (n i:Nat):Span:=(List.range i).foldl (fun o p=>minIn g p o n) ⟨0,0⟩
def minutes (g:Nat->Span) (n:Nat):Span:=minTo g n n
def mixL (r:Run) (l:List Int):Span:=sumTo r (fun m=>minutes (spanOf r l m) r.plates.toNat) r.machines.length
def nvTo (r:Run) (l:List (List Int)) (m n:Nat):Bool:=(l.take n).all (fun x=>decide ((minutes (spanOf r x m) r.plates.toNat).hi=0))
def suTo (r:Run) (l:List (List Int)) (m n:Nat):Bool:=(l.take n).all (fun x=>decide ((minutes (spanOf r x m) r.plates.toNat).lo > 0))
def skipL (f:Nat) (m:Int) (x:List Int):Bool:=decide (0<=m) && !decide (x.getD f 0=m)
def allStep (r:Run) (l:List (List Int)) (f:Nat) (m:Int) (s:Bool × Span) (i:Nat):Bool × Span:=if skipL f m (l.getD i []) then s else (true,if s.1 then hull2 s.2 (mixL r (l.getD i [])) else mixL r (l.getD i []))
def allTo (r:Run) (l:List (List Int)) (f:Nat) (m:Int) (n:Nat):Bool × Span:=(List.range n).foldl (allStep r l f m) (false,⟨0,0⟩)
@[reducible] def bb (s:Span):Prop:=0<=s.lo/\s.lo<=27000/\0<=s.hi/\s.hi<=27000
def rdL (r:Run) (f p:Nat) (x:List Int):Span:=spanOf r x (x.getD f 0).toNat p
def oldTo (r:Run) (l:List (List Int)) (f p n:Nat):Bool:=(l.take n).any (fun x=>decide ((rdL r f p x).hi > (fnd r f).minute))
def newTo (r:Run) (l:List (List Int)) (f p n:Nat):Bool:=(l.take n).any (fun x=>decide ((rdL r f p x).lo<=(fnd r f).minute))
structure Trth where
 minutes:List (List Int)
 frm:List Int
 deriving DecidableEq,Inhabited
def tmin (t:Trth) (m:Nat):List Int:=t.minutes.getD m []
def tAt (t:Trth) (m p:Nat):Int:=(tmin t m).getD p 0
def tfits (t:Trth):Prop:=t.minutes.length<=1125899906842624/\t.frm.length<=1125899906842624 /\ ∀ m,(tmin t m).length<=1125899906842624
def tsmall (t:Trth):Prop:=t.minutes.length<=65536/\t.frm.length<=65536 /\ ∀ m,(tmin t m).length<=65536
def trM1 (r:Run) (t:Trth) (m p:Nat):Bool:=within (tAt t m p) (chg (mach r m) p).lo (chg (mach r m) p).hi
def trM (r:Run) (t:Trth) (m:Nat):Bool:=decide (((tmin t m).length:Int)=r.plates) && (List.range r.plates.toNat).all (trM1 r t m)
def trF1 (r:Run) (t:Trth) (i p:Nat):Bool:=decide ((fnd r i).new.getD p 0 = -1) || (decide ((fnd r i).new.getD p 0=1) == decide (tAt t (t.frm.getD i 0).toNat p<=(fnd r i).minute))
def trF (r:Run) (t:Trth) (i:Nat):Bool:=isIn (fnd r i).frm (t.frm.getD i 0) && (List.range r.plates.toNat).all (trF1 r t i)
def trHead (r:Run) (t:Trth):Bool:=decide (t.minutes.length=r.machines.length) && decide (t.frm.length=r.found.length)
def isTruth (r:Run) (t:Trth):Bool:=trHead r t && ((List.range r.machines.length).all (trM r t) && (List.range r.found.length).all (trF r t))
theorem trHead_bad {r:Run} {t:Trth} (h:trHead r t=false):isTruth r t=false:=by simp [isTruth,h]
theorem trM_bad {r:Run} {t:Trth} {m:Nat} (hm:m < r.machines.length) (h:trM r t m=false):isTruth r t=false:=by
 have:(List.range r.machines.length).all (trM r t)=false:=by
  rw [List.all_eq_false]; exact ⟨m,List.mem_range.2 hm,by simp [h]⟩
 simp [isTruth,this]
theorem trF_bad {r:Run} {t:Trth} {i:Nat} (hi:i < r.found.length) (h:trF r t i=false):isTruth r t=false:=by
 have:(List.range r.found.length).all (trF r t)=false:=by
  rw [List.all_eq_false]; exact ⟨i,List.mem_range.2 hi,by simp [h]⟩
 simp [isTruth,this]
theorem trM_len {r:Run} {t:Trth} {m:Nat} (h:¬ ((tmin t m).length:Int)=r.plates):trM r t m=false:=by simp [trM,h]
theorem trM_one {r:Run} {t:Trth} {m p:Nat} (hp:(p:Int) < r.plates) (h:trM1 r t m p=false):trM r t m=false:=by
 have:(List.range r.plates.toNat).all (trM1 r t m)=false:=by
  rw [List.all_eq_false]; exact ⟨p,List.mem_range.2 (by omega),by simp [h]⟩
 simp [trM,this]
theorem trF_in {r:Run} {t:Trth} {i:Nat} (h:isIn (fnd r i).frm (t.frm.getD i 0)=false):trF r t i=false:=by rw [trF,h,Bool.false_and]
theorem trF_one {r:Run} {t:Trth} {i p:Nat} (hp:(p:Int) < r.plates) (h:trF1 r t i p=false):trF r t i=false:=by
 have:(List.range r.plates.toNat).all (trF1 r t i)=false:=by
  rw [List.all_eq_false]; exact ⟨p,List.mem_range.2 (by omega),by rw [h]; exact Bool.false_ne_true⟩
 rw [trF,this,Bool.and_false]
theorem isTruth_of {r:Run} {t:Trth} (h:trHead r t=true) (h1:∀ j,j < r.machines.length->trM r t j=true) (h2:∀ j,j < r.found.length->trF r t j=true):isTruth r t=true:=by
 rw [isTruth,h,all_range h1,all_range h2]; rfl
theorem trM_of {r:Run} {t:Trth} {m:Nat} (h:((tmin t m).length:Int)=r.plates) (h1:∀ j,j < r.plates.toNat->trM1 r t m j=true):trM r t m=true:=by
 rw [trM,all_range h1,Bool.and_true]; exact decide_eq_true h
theorem trF_of {r:Run} {t:Trth} {i:Nat} (h:isIn (fnd r i).frm (t.frm.getD i 0)=true) (h1:∀ j,j < r.plates.toNat->trF1 r t i j=true):trF r t i=true:=by
 rw [trF,all_range h1,h]; rfl
def holdsB (r:Run) (t:Trth):Bool:=if check r=0 then isTruth r t else false
def trRow (r:Run) (l:List Int) (m n:Nat):List Int:=(List.range n).map fun p=>(spanOf r l m p).lo
theorem trRow_get (r:Run) (l:List Int) (m:Nat) {n k:Nat} (h:k < n):(trRow r l m n).getD k 0=(spanOf r l m k).lo:=by
 rw [trRow,Go.Ab.getD_lt _ _ (by simpa using h)]; simp
theorem trRow_len (r:Run) (l:List Int) (m n:Nat):(trRow r l m n).length=n:=by simp [trRow]
def trRows (r:Run) (l:List Int) (n:Nat):List (List Int):=(List.range n).map fun m=>trRow r l m r.plates.toNat
def truthR (r:Run):Trth:=if rfE r true=0 then ⟨trRows r ((fromsOf r).getD 0 []) r.machines.length,(fromsOf r).getD 0 []⟩ else ⟨[],[]⟩
end Go.Sh
namespace Go.En
open Go Go.Ab Go.Sh
def cTrth (t:Trth):List AV:=[aIntss t.minutes,aInts t.frm]
abbrev vTrth (t:Trth):AV := .agg (cTrth t)
end Go.En
namespace Go.Ab
open Go Go.RowKit Go.Proofs Go.Sh Go.En
def s118 (r:Run) (is:Bool):CallSpec:={ args:=[vRun r,bv is],res:=iv (askE r is),pre:=fits r }
def s87 (r:Run) (is:Bool):CallSpec:={ args:=[vRun r,bv is],res := .tup [aIntss (rfL r is),iv (rfE r is)],pre:=fits r }
def h34 (r:Run) (m p:Int):Hint:={ X:=Nat,M:=fun i=>[(11,iv i),(10,.ptr 5000 [])],H:=fun i=>[(5000,.cells 37 (cSpan (rhullTo (rfL r (whenIs r m p)) (fun l=>spanOf r l m.toNat p.toNat) i)))],I:=fun i=>i<=(rfL r (whenIs r m p)).length,mu:=fun i=>(rfL r (whenIs r m p)).length - i,x0:=(0:Nat),nx:=fun i=>i + 1 }
def h39 (r:Run) (a b:Int):Hint:={ X:=Nat,M:=fun i=>[(10,iv (cntL (rfL r (sameIs r a b)) (smL a.toNat b.toNat) i)),(11,iv i)],I:=fun i=>i<=(rfL r (sameIs r a b)).length,mu:=fun i=>(rfL r (sameIs r a b)).length - i,x0:=(0:Nat),nx:=fun i=>i + 1 }
def h109 (r:Run) (l:List Int) (p:Nat):Hint:={ X:=Nat,M:=fun i=>[(8,iv i),(7,.ptr 5000 [])],H:=fun i=>[(5000,.cells 37 (cSpan (sumTo r (fun m=>spanOf r l m p) i)))],I:=fun i=>i<=r.machines.length,mu:=fun i=>r.machines.length - i,x0:=(0:Nat),nx:=fun i=>i + 1 }
def h66 (r:Run) (p:Int):Hint:={ X:=Nat,M:=fun i=>[(9,iv i),(8,.ptr 5000 [])],H:=fun i=>[(5000,.cells 37 (cSpan (rhullTo (rfL r (isPlate r p)) (oldL r p.toNat) i)))],I:=fun i=>i<=(rfL r (isPlate r p)).length,mu:=fun i=>(rfL r (isPlate r p)).length - i,x0:=(0:Nat),nx:=fun i=>i + 1 }
def h67 (r:Run) (m:Int):Hint:={ X:=Nat,M:=fun i=>[(8,bv (nvTo r (rfL r (isMachine r m)) m.toNat i)),(9,bv (suTo r (rfL r (isMachine r m)) m.toNat i)),(10,iv i)],I:=fun i=>i<=(rfL r (isMachine r m)).length,mu:=fun i=>(rfL r (isMachine r m)).length - i,x0:=(0:Nat),nx:=fun i=>i + 1 }
def h111 (r:Run) (l:List (List Int)) (f:Nat) (m:Int):Hint:={ X:=Nat,M:=fun i=>[(9,bv (allTo r l f m i).1),(11,iv i),(10,.ptr 5000 [])],H:=fun i=>[(5000,.cells 37 (cSpan (allTo r l f m i).2))],I:=fun i=>i<=l.length,mu:=fun i=>l.length - i,x0:=(0:Nat),nx:=fun i=>i + 1 }
def h32 (r:Run) (f p:Int):Hint:={ X:=Nat,M:=fun i=>[(10,bv (oldTo r (rfL r (readIs r f p)) f.toNat p.toNat i)),(11,bv (newTo r (rfL r (readIs r f p)) f.toNat p.toNat i)),(12,iv i)],I:=fun i=>i<=(rfL r (readIs r f p)).length,mu:=fun i=>(rfL r (readIs r f p)).length - i,x0:=(0:Nat),nx:=fun i=>i + 1 }
def s50 (r:Run) (t:Trth):CallSpec:={ args:=[vRun r,vTrth t],res:=bv (isTruth r t),pre:=okRun r=true/\tfits t }
def h50a (r:Run) (t:Trth):Hint:={ X:=Nat,M:=fun i=>[(5,iv i)],I:=fun i=>i<=r.machines.length /\ ∀ j,j < i->trM r t j=true,mu:=fun i=>r.machines.length - i,x0:=(0:Nat),nx:=fun i=>i + 1 }
def h50b (r:Run) (t:Trth) (m:Nat):Hint:={ X:=Nat,M:=fun i=>[(6,iv i)],I:=fun i=>i<=r.plates.toNat /\ ∀ j,j < i->trM1 r t m j=true,mu:=fun i=>r.plates.toNat - i,x0:=(0:Nat),nx:=fun i=>i + 1 }
def h50c (r:Run) (t:Trth):Hint:={ X:=Nat,M:=fun i=>[(8,iv i)],I:=fun i=>i<=r.found.length /\ ∀ j,j < i->trF r t j=true,mu:=fun i=>r.found.length - i,x0:=(0:Nat),nx:=fun i=>i + 1 }
def h50d (r:Run) (t:Trth) (f:Nat):Hint:={ X:=Nat,M:=fun i=>[(10,iv i)],I:=fun i=>i<=r.plates.toNat /\ ∀ j,j < i->trF1 r t f j=true,mu:=fun i=>r.plates.toNat - i,x0:=(0:Nat),nx:=fun i=>i + 1 }
def s73 (r:Run) (t:Trth):CallSpec:={ args:=[vRun r,vTrth t],res := .tup [bv (holdsB r t),iv (check r)],pre:=fits r/\tfits t }
def s74 (r:Run):CallSpec:={ args:=[vRun r],res := .tup [vTrth (truthR r),iv (rfE r true)],pre:=fits r }
def h74a (r:Run):Hint:={ X:=Nat,M:=fun m=>[(7,iv m),(6,.ptr 5000 [])],H:=fun m=>[(5000,.cells 56 [.vec 5001,aInts ((rfL r true).getD 0 [])]),(5001,.vec 30 1 m (fun k=>[aInts (trRow r ((rfL r true).getD 0 []) k r.plates.toNat)]))],I:=fun m=>m<=r.machines.length,mu:=fun m=>r.machines.length - m,x0:=(0:Nat),nx:=fun m=>m + 1 }
def h74b (r:Run) (m:Nat):Hint:={ X:=Nat,M:=fun p=>[(9,iv p),(8,.vec 5002)],H:=fun p=>[(5002,.vec 3 1 p (fun k=>[iv ((trRow r ((rfL r true).getD 0 []) m r.plates.toNat).getD k 0)]))],I:=fun p=>p<=r.plates.toNat,mu:=fun p=>r.plates.toNat - p,x0:=(0:Nat),nx:=fun p=>p + 1 }
def c74 (r:Run) (m p:Nat):CallSpec:=s88 r ((rfL r true).getD 0 []) m p
def s70 (t:Trth):CallSpec:={ args:=[vTrth t],res:=vTrth t,pre:=tsmall t }
def h70 (t:Trth):Hint:={ X:=Nat,M:=fun i=>[(4,iv i),(3,.ptr 5000 [])],H:=fun i=>[(5000,.cells 56 [.vec 5001,.vec 5002]),(5001,.vec 30 1 i (fun k=>[aInts (tmin t k)])),(5002,.vec 3 1 t.frm.length (fun k=>[iv (t.frm.getD k 0)]))],I:=fun i=>i<=t.minutes.length,mu:=fun i=>t.minutes.length - i,x0:=(0:Nat),nx:=fun i=>i + 1 }
end Go.Ab
namespace Go.Ab
open Go Go.RowKit Go.Proofs Go.Sh Go.En
theorem w118 (r:Run) (is:Bool)
 (o0:fits r->(!decide (check r=0))->check r=askE r is)
 (o1:fits r->(!decide (check r=0))=false->(!is)=true->1=askE r is)
 (o2:fits r->(!decide (check r=0))=false->(!is)=false->0=askE r is) :
  Triple Try.prog 118 (s118 r is):=by
 refine triple_of Try.func118 rfl Try.call118 T0_ok _ rfl rfl rfl rfl (Nat.le_of_ble_eq_true (by kernel_rfl)) (fun _ _ _ _ h=>h) ?_
 intro hp C hC _ hE
 obtain ⟨P,w0,E0,av,hA⟩:=C
 subst hC
 refine swp_seq ?_
 refine sR (kt:=[1,2]) (kh:=[0]) (q:=True/\True/\True) (st':=ASt.mk [(1,bv is),(2,.ptr 0 [])] [(0,.cells 25 (cRun r))] 16) (by kernel_rfl) ⟨tv,tv,tv⟩ ?_
 refine swp_seq (swp_seq ?_)
 refine swp_region T0_ok mixed (cs:=[(1,CallSpec.eq (s63 r) [true])]) (kt:=[1,5]) (kh:=[]) (q:=True/\((AV.agg (cRun r)=AV.agg (cRun r)/\True)/\Triple Try.prog 63 (s63 r)/\fits r/\True /\ ∀ (i0:Env),True)/\True/\True) (st':=ASt.mk [(1,bv is),(5,iv (check r))] [] 40) (by kernel_rfl) ⟨tv,⟨⟨rfl,tv⟩,(t63 (r)),hp,tv,(fun i0=>tv)⟩,tv,tv⟩ ?_
 refine swp_seq ?_
 refine sR (kt:=[1,5,9]) (kh:=[]) (q:=True/\True/\True) (st':=ASt.mk [(1,bv is),(5,iv (check r)),(9,bv !decide (check r=0))] [] 56) (by kernel_rfl) ⟨tv,tv,tv⟩ ?_
 refine swp_cond (!decide (check r=0)) (by kernel_rfl) (fun h1 => ?_) (fun h1 => ?_)
 ·refine swp_seq ?_
  refine sR (kt:=[4]) (kh:=[]) (q:=True/\True/\True) (st':=ASt.mk [(4,iv (check r))] [] 72) (by kernel_rfl) ⟨tv,tv,tv⟩ ?_
  refine swp_ret ?_
  exact ret_q [] ((True/\True)/\(iv (check r)=iv (askE r is)/\nilN = [])/\T3) (by kernel_rfl) ⟨⟨tv,tv⟩,⟨(congrArg iv (o0 hp h1)),rfl⟩,rfl,rfl,rfl⟩
 ·refine swp_skip (swp_seq (swp_seq ?_))
  refine sR (kt:=[12]) (kh:=[]) (q:=True/\True/\True) (st':=ASt.mk [(12,bv !is)] [] 72) (by kernel_rfl) ⟨tv,tv,tv⟩ ?_
  refine swp_cond (!is) (by kernel_rfl) (fun h2 => ?_) (fun h2 => ?_)
  ·refine swp_seq ?_
   refine sR (kt:=[4]) (kh:=[]) (q:=True/\True) (st':=ASt.mk [(4,iv 1)] [] 80) (by kernel_rfl) ⟨tv,tv⟩ ?_
   refine swp_ret ?_
   exact ret_q [] ((True/\True)/\(iv 1=iv (askE r is)/\nilN = [])/\T3) (by kernel_rfl) ⟨⟨tv,tv⟩,⟨(congrArg iv (o1 hp h1 h2)),rfl⟩,rfl,rfl,rfl⟩
  ·refine swp_skip (swp_seq ?_)
   refine sR (kt:=[4]) (kh:=[]) (q:=True/\True) (st':=ASt.mk [(4,iv 0)] [] 80) (by kernel_rfl) ⟨tv,tv⟩ ?_
   refine swp_ret ?_
   exact ret_q [] ((True/\True)/\(iv 0=iv (askE r is)/\nilN = [])/\T3) (by kernel_rfl) ⟨⟨tv,tv⟩,⟨(congrArg iv (o2 hp h1 h2)),rfl⟩,rfl,rfl,rfl⟩
theorem t118 (r:Run) (is:Bool):Triple Try.prog 118 (s118 r is):=by
 apply w118
 all_goals (intro _; (repeat intro _); rcases check_two r with e | e <;> simp_all [askE])
abbrev q87_1 (r:Run) (is:Bool) (C:Prop):Prop:=fits r->(!decide (askE r is=0))=false->C
abbrev q87_2 (r:Run) (is:Bool) (C:Prop):Prop:=q87_1 r is (decide ((↑((fromsOf r).length):Int)=0)=false->C)
theorem w87 (r:Run) (is:Bool)
 (o0:fits r->(!decide (askE r is=0))->(rfL r is).length=0)
 (o1:fits r->(!decide (askE r is=0))->askE r is=rfE r is)
 (o2:q87_1 r is (okRun r=true))
 (o3:q87_1 r is (decide ((↑((fromsOf r).length):Int)=0)=true->(rfL r is).length=0))
 (o4:q87_1 r is (decide ((↑((fromsOf r).length):Int)=0)=true->3=rfE r is))
 (o5:q87_2 r is ((fromsOf r).length=(rfL r is).length))
 (o6:q87_2 r is (∀ (i4:Nat),i4 < (rfL r is).length -> [aInts ((fromsOf r).getD i4 [])] = [aInts ((rfL r is).getD i4 [])]))
 (o7:q87_2 r is (0=rfE r is)) :
  Triple Try.prog 87 (s87 r is):=by
 refine triple_of Try.func87 rfl Try.call87 T0_ok _ rfl rfl rfl rfl (Nat.le_of_ble_eq_true (by kernel_rfl)) (fun _ _ _ _ h=>h) ?_
 intro hp C hC _ hE
 obtain ⟨P,w0,E0,av,hA⟩:=C
 subst hC
 refine swp_seq ?_
 refine sR (kt:=[1,2]) (kh:=[0]) (q:=True/\True/\True/\True) (st':=ASt.mk [(1,bv is),(2,.ptr 0 [])] [(0,.cells 25 (cRun r))] 24) (by kernel_rfl) ⟨tv,tv,tv,tv⟩ ?_
 refine swp_seq (swp_seq ?_)
 refine swp_region T0_ok mixed (cs:=[(2,CallSpec.eq (s118 r is) [true,true])]) (kt:=[2,6]) (kh:=[0]) (q:=True/\True/\((AV.agg (cRun r)=AV.agg (cRun r)/\bv is=bv is/\True)/\Triple Try.prog 118 (s118 r is)/\fits r/\True /\ ∀ (i0:Env),True)/\True/\True) (st':=ASt.mk [(2,.ptr 0 []),(6,iv (askE r is))] [(0,.cells 25 (cRun r))] 56) (by kernel_rfl) ⟨tv,tv,⟨⟨rfl,rfl,tv⟩,(t118 (r) (is)),hp,tv,(fun i0=>tv)⟩,tv,tv⟩ ?_
 refine swp_seq ?_
 refine sR (kt:=[2,6,12]) (kh:=[0]) (q:=True/\True/\True) (st':=ASt.mk [(2,.ptr 0 []),(6,iv (askE r is)),(12,bv !decide (askE r is=0))] [(0,.cells 25 (cRun r))] 72) (by kernel_rfl) ⟨tv,tv,tv⟩ ?_
 refine swp_cond (!decide (askE r is=0)) (by kernel_rfl) (fun h1 => ?_) (fun h1 => ?_)
 ·refine swp_seq ?_
  refine sR (kt:=[4,5]) (kh:=[]) (q:=True/\True/\True/\True) (st':=ASt.mk [(4,nilv),(5,iv (askE r is))] [] 96) (by kernel_rfl) ⟨tv,tv,tv,tv⟩ ?_
  refine swp_ret ?_
  exact ret_q [] ((True/\True/\True)/\((rfL r is).length=0/\(iv (askE r is)=iv (rfE r is)/\nilN = [])/\True)/\T3) (by kernel_rfl) ⟨⟨tv,tv,tv⟩,⟨(o0 hp h1),⟨(congrArg iv (o1 hp h1)),rfl⟩,tv⟩,rfl,rfl,rfl⟩
 ·refine swp_skip (swp_seq ?_)
  refine swp_region T0_ok mixed (cs:=[(1,CallSpec.eq (s93 r) [true])]) (kt:=[7]) (kh:=[]) (q:=True/\((AV.agg (cRun r)=AV.agg (cRun r)/\True)/\Triple Try.prog 93 (s93 r)/\okRun r=true/\True /\ ∀ (i2:Env),True)/\True/\True) (st':=ASt.mk [(7,aIntss (fromsOf r))] [] 96) (by kernel_rfl) ⟨tv,⟨⟨rfl,tv⟩,(t93 (r)),(o2 hp h1),tv,(fun i2=>tv)⟩,tv,tv⟩ ?_
  refine swp_seq (swp_seq ?_)
  refine sR (kt:=[7,18]) (kh:=[]) (q:=True/\True/\True/\True) (st':=ASt.mk [(7,aIntss (fromsOf r)),(18,bv (decide ((↑((fromsOf r).length):Int)=0)))] [] 120) (by kernel_rfl) ⟨tv,tv,tv,tv⟩ ?_
  refine swp_cond (decide ((↑((fromsOf r).length):Int)=0)) (by kernel_rfl) (fun h3 => ?_) (fun h3 => ?_)
  ·refine swp_seq ?_
   refine sR (kt:=[4,5]) (kh:=[]) (q:=True/\True/\True) (st':=ASt.mk [(4,nilv),(5,iv 3)] [] 136) (by kernel_rfl) ⟨tv,tv,tv⟩ ?_
   refine swp_ret ?_
   exact ret_q [] ((True/\True/\True)/\((rfL r is).length=0/\(iv 3=iv (rfE r is)/\nilN = [])/\True)/\T3) (by kernel_rfl) ⟨⟨tv,tv,tv⟩,⟨(o3 hp h1 h3),⟨(congrArg iv (o4 hp h1 h3)),rfl⟩,tv⟩,rfl,rfl,rfl⟩
  ·refine swp_skip (swp_seq ?_)
   refine sR (kt:=[4,5]) (kh:=[]) (q:=True/\True/\True/\True) (st':=ASt.mk [(4,aIntss (fromsOf r)),(5,iv 0)] [] 144) (by kernel_rfl) ⟨tv,tv,tv,tv⟩ ?_
   refine swp_ret ?_
   exact ret_q [] ((True/\True/\True)/\((1=1/\(fromsOf r).length=(rfL r is).length /\ ∀ (i4:Nat),i4 < (rfL r is).length -> [aInts ((fromsOf r).getD i4 [])] = [aInts ((rfL r is).getD i4 [])])/\(iv 0=iv (rfE r is)/\nilN = [])/\True)/\T3) (by kernel_rfl) ⟨⟨tv,tv,tv⟩,⟨⟨rfl,(o5 hp h1 h3),(fun i4=>(fun h5=>(o6 hp h1 h3 i4 h5)))⟩,⟨(congrArg iv (o7 hp h1 h3)),rfl⟩,tv⟩,rfl,rfl,rfl⟩
theorem t87 (r:Run) (is:Bool):Triple Try.prog 87 (s87 r is):=by
 apply w87
 all_goals (intro _; (repeat intro _); rcases check_two r with e | e <;> cases is <;> first | (exact check_zero.1 e) | (simp_all [askE,rfE,rfL]; done) | skip)
abbrev q50_1 (r:Run) (t:Trth) (C:Prop):Prop:=okRun r=true/\tfits t->(bif !decide ((↑(t.minutes.length):Int)=(↑(r.machines.length):Int)) then true else !decide ((↑(t.frm.length):Int)=(↑(r.found.length):Int)))=false->C
abbrev q50_2 (r:Run) (t:Trth) (C:Nat->Prop):Prop:=q50_1 r t (∀ (x16:Nat),(x16<=r.machines.length /\ ∀ (j:Nat),j < x16->trM r t j=true)->decide ((x16:Int) < (↑(t.minutes.length):Int))=true->C x16)
abbrev q50_3 (r:Run) (t:Trth) (C:Nat->Prop):Prop:=q50_2 r t fun x16=>(!decide ((↑((t.minutes.getD x16 []).length):Int)=r.plates))=false->C x16
abbrev q50_4 (r:Run) (t:Trth) (C:Nat->Nat->Prop):Prop:=q50_3 r t fun x16 => ∀ (x19:Nat),(x19<=r.plates.toNat /\ ∀ (j:Nat),j < x19->trM1 r t x16 j=true)->decide ((x19:Int) < r.plates)=true->C x16 x19
abbrev q50_5 (r:Run) (t:Trth) (C:Nat->Nat->Prop):Prop:=q50_4 r t fun x16 x19=>(!within ((t.minutes.getD x16 []).getD x19 0) ((mach r x16).changes.getD x19 default).lo ((mach r x16).changes.getD x19 default).hi)=false->C x16 x19
abbrev q50_6 (r:Run) (t:Trth) (C:Nat->Nat->Prop):Prop:=q50_3 r t fun x16 => ∀ (x19:Nat),(x19<=r.plates.toNat /\ ∀ (j:Nat),j < x19->trM1 r t x16 j=true)->decide ((x19:Int) < r.plates)=false->C x16 x19
abbrev q50_7 (r:Run) (t:Trth) (C:Nat->Prop):Prop:=q50_1 r t (∀ (x16:Nat),(x16<=r.machines.length /\ ∀ (j:Nat),j < x16->trM r t j=true)->decide ((x16:Int) < (↑(t.minutes.length):Int))=false->C x16)
abbrev q50_8 (r:Run) (t:Trth) (C:Nat->Nat->Prop):Prop:=q50_7 r t fun x16 => ∀ (x23:Nat),(x23<=r.found.length /\ ∀ (j:Nat),j < x23->trF r t j=true)->decide ((x23:Int) < (↑(t.frm.length):Int))=true->C x16 x23
abbrev q50_9 (r:Run) (t:Trth) (C:Nat->Nat->Nat->Prop):Prop:=q50_8 r t fun x16 x23=>(!isIn (fnd r x23).frm (t.frm.getD x23 0))=false -> ∀ (x27:Nat),(x27<=r.plates.toNat /\ ∀ (j:Nat),j < x27->trF1 r t x23 j=true)->C x16 x23 x27
abbrev q50_10 (r:Run) (t:Trth) (C:Nat->Nat->Nat->Prop):Prop:=q50_9 r t fun x16 x23 x27=>decide ((x27:Int) < r.plates)=true->C x16 x23 x27
abbrev q50_11 (r:Run) (t:Trth) (C:Nat->Nat->Nat->Prop):Prop:=q50_10 r t fun x16 x23 x27=>(!decide ((fnd r x23).new.getD x27 0 = -1))->C x16 x23 x27
abbrev q50_12 (r:Run) (t:Trth) (C:Nat->Nat->Nat->Prop):Prop:=q50_10 r t fun x16 x23 x27=>(bif !decide ((fnd r x23).new.getD x27 0 = -1) then !decide ((fnd r x23).new.getD x27 0=1) == decide ((t.minutes.getD (t.frm.getD x23 0).toNat []).getD x27 0<=(fnd r x23).minute) else false)=false->C x16 x23 x27
theorem w50 (r:Run) (t:Trth)
 (o0:okRun r=true/\tfits t->(!decide ((↑(t.minutes.length):Int)=(↑(r.machines.length):Int)))=false->(!!decide ((↑(t.minutes.length):Int)=(↑(r.machines.length):Int)))=true)
 (o1:okRun r=true/\tfits t->(bif !decide ((↑(t.minutes.length):Int)=(↑(r.machines.length):Int)) then true else !decide ((↑(t.frm.length):Int)=(↑(r.found.length):Int)))=true->false=isTruth r t)
 (o2:q50_1 r t (0=(↑0:Int)))
 (o3:q50_1 r t (0<=r.machines.length /\ ∀ (j:Nat),j < 0->trM r t j=true))
 (o4:q50_2 r t fun x16=>0<=(x16:Int))
 (o5:q50_2 r t fun x16=>(x16:Int) < (↑(t.minutes.length):Int))
 (o6:q50_2 r t fun x16=>(!decide ((↑((t.minutes.getD x16 []).length):Int)=r.plates))->false=isTruth r t)
 (o7:q50_3 r t fun x16=>0=(↑0:Int))
 (o8:q50_3 r t fun x16=>0<=r.plates.toNat /\ ∀ (j:Nat),j < 0->trM1 r t x16 j=true)
 (o9:q50_4 r t fun x16 x19=>0<=(x16:Int))
 (o10:q50_4 r t fun x16 x19=>(x16:Int) < (↑(r.machines.length):Int))
 (o11:q50_4 r t fun x16 x19=>0<=(x19:Int))
 (o12:q50_4 r t fun x16 x19=>(x19:Int) < (↑((mach r x16).changes.length):Int))
 (o13:q50_4 r t fun x16 x19=>0<=(x16:Int))
 (o14:q50_4 r t fun x16 x19=>(x16:Int) < (↑(t.minutes.length):Int))
 (o15:q50_4 r t fun x16 x19=>0<=(x19:Int))
 (o16:q50_4 r t fun x16 x19=>(x19:Int) < (↑((t.minutes.getD x16 []).length):Int))
 (o17:q50_4 r t fun x16 x19=>(!within ((t.minutes.getD x16 []).getD x19 0) ((mach r x16).changes.getD x19 default).lo ((mach r x16).changes.getD x19 default).hi)=true->false=isTruth r t)
 (o18:q50_5 r t fun x16 x19=>inI ((x19:Int) + 1))
 (o19:q50_5 r t fun x16 x19=>(x19:Int) + 1=(↑(x19 + 1):Int))
 (o20:q50_5 r t fun x16 x19=>x19 + 1<=r.plates.toNat /\ ∀ (j:Nat),j < x19 + 1->trM1 r t x16 j=true)
 (o21:q50_5 r t fun x16 x19=>r.plates.toNat - (x19 + 1) < r.plates.toNat - x19)
 (o22:q50_6 r t fun x16 x19=>inI ((x16:Int) + 1))
 (o23:q50_6 r t fun x16 x19=>(x16:Int) + 1=(↑(x16 + 1):Int))
 (o24:q50_6 r t fun x16 x19=>x16 + 1<=r.machines.length /\ ∀ (j:Nat),j < x16 + 1->trM r t j=true)
 (o25:q50_6 r t fun x16 x19=>r.machines.length - (x16 + 1) < r.machines.length - x16)
 (o26:q50_7 r t fun x16=>0=(↑0:Int))
 (o27:q50_7 r t fun x16=>0<=r.found.length /\ ∀ (j:Nat),j < 0->trF r t j=true)
 (o28:q50_8 r t fun x16 x23=>0<=(x23:Int))
 (o29:q50_8 r t fun x16 x23=>(x23:Int) < (↑(r.found.length):Int))
 (o30:q50_8 r t fun x16 x23=>0<=(x23:Int))
 (o31:q50_8 r t fun x16 x23=>(x23:Int) < (↑(t.frm.length):Int))
 (o32:q50_8 r t fun x16 x23=>(fnd r x23).frm.length<=1125899906842624)
 (o33:q50_8 r t fun x16 x23=>(!isIn (fnd r x23).frm (t.frm.getD x23 0))=true->false=isTruth r t)
 (o34:q50_8 r t fun x16 x23=>(!isIn (fnd r x23).frm (t.frm.getD x23 0))=false->0=(↑0:Int))
 (o35:q50_8 r t fun x16 x23=>(!isIn (fnd r x23).frm (t.frm.getD x23 0))=false->0<=r.plates.toNat /\ ∀ (j:Nat),j < 0->trF1 r t x23 j=true)
 (o36:q50_10 r t fun x16 x23 x27=>0<=(x27:Int))
 (o37:q50_10 r t fun x16 x23 x27=>(x27:Int) < (↑((fnd r x23).new.length):Int))
 (o38:q50_11 r t fun x16 x23 x27=>0<=(x27:Int))
 (o39:q50_11 r t fun x16 x23 x27=>(x27:Int) < (↑((fnd r x23).new.length):Int))
 (o40:q50_11 r t fun x16 x23 x27=>0<=(x23:Int))
 (o41:q50_11 r t fun x16 x23 x27=>(x23:Int) < (↑(t.frm.length):Int))
 (o42:q50_11 r t fun x16 x23 x27=>0<=t.frm.getD x23 0)
 (o43:q50_11 r t fun x16 x23 x27=>t.frm.getD x23 0 < (↑(t.minutes.length):Int))
 (o44:q50_11 r t fun x16 x23 x27=>0<=(x27:Int))
 (o45:q50_11 r t fun x16 x23 x27=>(x27:Int) < (↑((t.minutes.getD (t.frm.getD x23 0).toNat []).length):Int))
 (o46:q50_10 r t fun x16 x23 x27=>(bif !decide ((fnd r x23).new.getD x27 0 = -1) then !decide ((fnd r x23).new.getD x27 0=1) == decide ((t.minutes.getD (t.frm.getD x23 0).toNat []).getD x27 0<=(fnd r x23).minute) else false)=true->false=isTruth r t)
 (o47:q50_12 r t fun x16 x23 x27=>inI ((x27:Int) + 1))
 (o48:q50_12 r t fun x16 x23 x27=>(x27:Int) + 1=(↑(x27 + 1):Int))
 (o49:q50_12 r t fun x16 x23 x27=>x27 + 1<=r.plates.toNat /\ ∀ (j:Nat),j < x27 + 1->trF1 r t x23 j=true)
 (o50:q50_12 r t fun x16 x23 x27=>r.plates.toNat - (x27 + 1) < r.plates.toNat - x27)
 (o51:q50_9 r t fun x16 x23 x27=>decide ((x27:Int) < r.plates)=false->inI ((x23:Int) + 1))
 (o52:q50_9 r t fun x16 x23 x27=>decide ((x27:Int) < r.plates)=false->(x23:Int) + 1=(↑(x23 + 1):Int))
 (o53:q50_9 r t fun x16 x23 x27=>decide ((x27:Int) < r.plates)=false->x23 + 1<=r.found.length /\ ∀ (j:Nat),j < x23 + 1->trF r t j=true)
 (o54:q50_9 r t fun x16 x23 x27=>decide ((x27:Int) < r.plates)=false->r.found.length - (x23 + 1) < r.found.length - x23)
 (o55:q50_7 r t fun x16 => ∀ (x23:Nat),(x23<=r.found.length /\ ∀ (j:Nat),j < x23->trF r t j=true)->decide ((x23:Int) < (↑(t.frm.length):Int))=false->true=isTruth r t) :
  Triple Try.prog 50 (s50 r t):=by
 refine triple_of Try.func50 rfl Try.call50 T0_ok _ rfl rfl rfl rfl (Nat.le_of_ble_eq_true (by kernel_rfl)) (fun _ _ _ _ h=>h) ?_
 intro hp C hC _ hE
 obtain ⟨P,w0,E0,av,hA⟩:=C
 subst hC
 refine swp_seq ?_
 refine sR (kt:=[2,3]) (kh:=[0,8]) (q:=True/\True/\True/\True) (st':=ASt.mk [(2,.ptr 0 []),(3,.ptr 8 [])] [(0,.cells 25 (cRun r)),(8,.cells 56 (cTrth t))] 24) (by kernel_rfl) ⟨tv,tv,tv,tv⟩ ?_
 refine swp_seq (swp_seq ?_)
 refine sR (kt:=[2,3,26]) (kh:=[0,8]) (q:=True/\True/\True/\True/\True/\True/\True/\True/\((!!decide ((↑(t.minutes.length):Int)=(↑(r.machines.length):Int)))->(True/\True)/\True)/\((!!decide ((↑(t.minutes.length):Int)=(↑(r.machines.length):Int)))->(((!!decide ((↑(t.minutes.length):Int)=(↑(r.machines.length):Int)))->(!!decide ((↑(t.minutes.length):Int)=(↑(r.machines.length):Int)))=true)/\True)/\True)/\((!!decide ((↑(t.minutes.length):Int)=(↑(r.machines.length):Int)))->(((!!decide ((↑(t.minutes.length):Int)=(↑(r.machines.length):Int)))->(!!decide ((↑(t.minutes.length):Int)=(↑(r.machines.length):Int)))=true)/\True)/\True)/\((!!decide ((↑(t.minutes.length):Int)=(↑(r.machines.length):Int)))->(True/\True)/\True)/\((!!decide ((↑(t.minutes.length):Int)=(↑(r.machines.length):Int)))->(((!!decide ((↑(t.minutes.length):Int)=(↑(r.machines.length):Int)))->(!!decide ((↑(t.minutes.length):Int)=(↑(r.machines.length):Int)))=true)/\True)/\True)/\((!!decide ((↑(t.minutes.length):Int)=(↑(r.machines.length):Int)))->(((!!decide ((↑(t.minutes.length):Int)=(↑(r.machines.length):Int)))->(!!decide ((↑(t.minutes.length):Int)=(↑(r.machines.length):Int)))=true)/\True)/\True)/\((!!decide ((↑(t.minutes.length):Int)=(↑(r.machines.length):Int)))->(((!!decide ((↑(t.minutes.length):Int)=(↑(r.machines.length):Int)))->(!!decide ((↑(t.minutes.length):Int)=(↑(r.machines.length):Int)))=true)/\((!!decide ((↑(t.minutes.length):Int)=(↑(r.machines.length):Int)))->(!!decide ((↑(t.minutes.length):Int)=(↑(r.machines.length):Int)))=true)/\True)/\True)/\(((!decide ((↑(t.minutes.length):Int)=(↑(r.machines.length):Int)))->True)/\((!decide ((↑(t.minutes.length):Int)=(↑(r.machines.length):Int)))=false->(!!decide ((↑(t.minutes.length):Int)=(↑(r.machines.length):Int)))=true))/\True) (st':=ASt.mk [(2,.ptr 0 []),(3,.ptr 8 []),(26,bv (bif !decide ((↑(t.minutes.length):Int)=(↑(r.machines.length):Int)) then true else !decide ((↑(t.frm.length):Int)=(↑(r.found.length):Int))))] [(0,.cells 25 (cRun r)),(8,.cells 56 (cTrth t))] 152) (by kernel_rfl) ⟨tv,tv,tv,tv,tv,tv,tv,tv,(fun h0=>⟨⟨tv,tv⟩,tv⟩),(fun h1=>⟨⟨(fun h2=>h1),tv⟩,tv⟩),(fun h3=>⟨⟨(fun h4=>h3),tv⟩,tv⟩),(fun h5=>⟨⟨tv,tv⟩,tv⟩),(fun h6=>⟨⟨(fun h7=>h6),tv⟩,tv⟩),(fun h8=>⟨⟨(fun h9=>h8),tv⟩,tv⟩),(fun h10=>⟨⟨(fun h11=>h10),(fun h12=>h10),tv⟩,tv⟩),⟨(fun h13=>tv),(fun h14=>(o0 hp h14))⟩,tv⟩ ?_
 refine swp_cond (bif !decide ((↑(t.minutes.length):Int)=(↑(r.machines.length):Int)) then true else !decide ((↑(t.frm.length):Int)=(↑(r.found.length):Int))) (by kernel_rfl) (fun h15 => ?_) (fun h15 => ?_)
 ·refine swp_seq ?_
  refine sR (kt:=[4]) (kh:=[]) (q:=True/\True) (st':=ASt.mk [(4,bv false)] [] 160) (by kernel_rfl) ⟨tv,tv⟩ ?_
  refine swp_ret ?_
  exact ret_q [] ((True/\True)/\(bv false=bv (isTruth r t)/\nilN = [])/\T3) (by kernel_rfl) ⟨⟨tv,tv⟩,⟨(congrArg bv (o1 hp h15)),rfl⟩,rfl,rfl,rfl⟩
 ·refine swp_skip (swp_seq (swp_seq ?_))
  refine sR (kt:=[2,3,5]) (kh:=[0,8]) (q:=True/\True) (st':=ASt.mk [(2,.ptr 0 []),(3,.ptr 8 []),(5,iv 0)] [(0,.cells 25 (cRun r)),(8,.cells 56 (cTrth t))] 160) (by kernel_rfl) ⟨tv,tv⟩ ?_
  refine swp_block ?_
  refine swp_loopA (Hint.ann (h50a r t) [(2,AV.ptr 0 []),(3,AV.ptr 8 [])] [(0,OB.cells 25 (cRun r)),(8,OB.cells 56 (cTrth t))] 10160) (ent_q hE [] [(0,.same 0),(8,.same 8)] [] [0,8] (((some (Src.same 0)=some (Src.same 0)/\nilP = [])/\(some (Src.same 8)=some (Src.same 8)/\nilP = [])/\(iv 0=iv (↑0:Int)/\nilN = [])/\True)/\((OB.cells 25 (cRun r)=OB.cells 25 (cRun r)/\true=true)/\(OB.cells 56 (cTrth t)=OB.cells 56 (cTrth t)/\true=true)/\True)/\T2) (by kernel_rfl) (by kernel_rfl) ⟨⟨⟨rfl,rfl⟩,⟨rfl,rfl⟩,⟨(congrArg iv (o2 hp h15)),rfl⟩,tv⟩,⟨⟨rfl,rfl⟩,⟨rfl,rfl⟩,tv⟩,rfl,rfl⟩) (o3 hp h15) (fun (x16:Nat) hx16 => ?_)
  refine swp_seq (swp_seq ?_)
  refine sR (kt:=[2,3,5,31]) (kh:=[0,8]) (q:=True/\True/\True/\True/\True/\True) (st':=ASt.mk [(2,.ptr 0 []),(3,.ptr 8 []),(5,iv (x16:Int)),(31,bv (decide ((x16:Int) < (↑(t.minutes.length):Int))))] [(0,.cells 25 (cRun r)),(8,.cells 56 (cTrth t))] 10200) (by kernel_rfl) ⟨tv,tv,tv,tv,tv,tv⟩ ?_
  refine swp_cond (decide ((x16:Int) < (↑(t.minutes.length):Int))) (by kernel_rfl) (fun h17 => ?_) (fun h17 => ?_)
  ·refine swp_skip (swp_seq (swp_block (swp_seq (swp_seq ?_))))
   refine sR (kt:=[2,3,5,42]) (kh:=[0,8]) (q:=True/\True/\True/\(0<=(x16:Int)/\(x16:Int) < (↑(t.minutes.length):Int))/\True/\True/\True/\True/\True/\True) (st':=ASt.mk [(2,.ptr 0 []),(3,.ptr 8 []),(5,iv (x16:Int)),(42,bv !decide ((↑((t.minutes.getD x16 []).length):Int)=r.plates))] [(0,.cells 25 (cRun r)),(8,.cells 56 (cTrth t))] 10272) (by kernel_rfl) ⟨tv,tv,tv,⟨(o4 hp h15 x16 hx16 h17),(o5 hp h15 x16 hx16 h17)⟩,tv,tv,tv,tv,tv,tv⟩ ?_
   refine swp_cond (!decide ((↑((t.minutes.getD x16 []).length):Int)=r.plates)) (by kernel_rfl) (fun h18 => ?_) (fun h18 => ?_)
   ·refine swp_seq ?_
    refine sR (kt:=[4]) (kh:=[]) (q:=True/\True) (st':=ASt.mk [(4,bv false)] [] 10280) (by kernel_rfl) ⟨tv,tv⟩ ?_
    refine swp_ret ?_
    exact ret_q [] ((True/\True)/\(bv false=bv (isTruth r t)/\nilN = [])/\T3) (by kernel_rfl) ⟨⟨tv,tv⟩,⟨(congrArg bv (o6 hp h15 x16 hx16 h17 h18)),rfl⟩,rfl,rfl,rfl⟩
   ·refine swp_skip (swp_seq ?_)
    refine sR (kt:=[2,3,5,6]) (kh:=[0,8]) (q:=True/\True) (st':=ASt.mk [(2,.ptr 0 []),(3,.ptr 8 []),(5,iv (x16:Int)),(6,iv 0)] [(0,.cells 25 (cRun r)),(8,.cells 56 (cTrth t))] 10280) (by kernel_rfl) ⟨tv,tv⟩ ?_
    refine swp_block ?_
    refine swp_loopA (Hint.ann (h50b r t x16) [(2,AV.ptr 0 []),(3,AV.ptr 8 []),(5,iv (x16:Int))] [(0,OB.cells 25 (cRun r)),(8,OB.cells 56 (cTrth t))] 20280) (ent_q hE [] [(0,.same 0),(8,.same 8)] [5] [0,8] (((some (Src.same 0)=some (Src.same 0)/\nilP = [])/\(some (Src.same 8)=some (Src.same 8)/\nilP = [])/\(iv (x16:Int)=iv (x16:Int)/\true=true)/\(iv 0=iv (↑0:Int)/\nilN = [])/\True)/\((OB.cells 25 (cRun r)=OB.cells 25 (cRun r)/\true=true)/\(OB.cells 56 (cTrth t)=OB.cells 56 (cTrth t)/\true=true)/\True)/\T2) (by kernel_rfl) (by kernel_rfl) ⟨⟨⟨rfl,rfl⟩,⟨rfl,rfl⟩,⟨rfl,rfl⟩,⟨(congrArg iv (o7 hp h15 x16 hx16 h17 h18)),rfl⟩,tv⟩,⟨⟨rfl,rfl⟩,⟨rfl,rfl⟩,tv⟩,rfl,rfl⟩) (o8 hp h15 x16 hx16 h17 h18) (fun (x19:Nat) hx19 => ?_)
    refine swp_seq (swp_seq ?_)
    refine sR (kt:=[2,3,5,6,46]) (kh:=[0,8]) (q:=True/\True/\True/\True/\True) (st':=ASt.mk [(2,.ptr 0 []),(3,.ptr 8 []),(5,iv (x16:Int)),(6,iv (x19:Int)),(46,bv (decide ((x19:Int) < r.plates)))] [(0,.cells 25 (cRun r)),(8,.cells 56 (cTrth t))] 20312) (by kernel_rfl) ⟨tv,tv,tv,tv,tv⟩ ?_
    refine swp_cond (decide ((x19:Int) < r.plates)) (by kernel_rfl) (fun h20 => ?_) (fun h20 => ?_)
    ·refine swp_skip (swp_seq (swp_block (swp_seq ?_)))
     refine sR (kt:=[2,3,5,6,7]) (kh:=[0,8,20384]) (q:=True/\True/\True/\(0<=(x16:Int)/\(x16:Int) < (↑(r.machines.length):Int))/\True/\True/\True/\(0<=(x19:Int)/\(x19:Int) < (↑((mach r x16).changes.length):Int))/\True/\True/\True/\True) (st':=ASt.mk [(2,.ptr 0 []),(3,.ptr 8 []),(5,iv (x16:Int)),(6,iv (x19:Int)),(7,.ptr 20384 [])] [(0,.cells 25 (cRun r)),(8,.cells 56 (cTrth t)),(20384,.cells 37 (cSpan ((mach r x16).changes.getD x19 default)))] 20400) (by kernel_rfl) ⟨tv,tv,tv,⟨(o9 hp h15 x16 hx16 h17 h18 x19 hx19 h20),(o10 hp h15 x16 hx16 h17 h18 x19 hx19 h20)⟩,tv,tv,tv,⟨(o11 hp h15 x16 hx16 h17 h18 x19 hx19 h20),(o12 hp h15 x16 hx16 h17 h18 x19 hx19 h20)⟩,tv,tv,tv,tv⟩ ?_
     refine swp_seq ?_
     refine swp_region T0_ok mixed (cs:=[(12,CallSpec.eq (s76 ((t.minutes.getD x16 []).getD x19 0) ((mach r x16).changes.getD x19 default).lo ((mach r x16).changes.getD x19 default).hi) [true,true,true])]) (kt:=[2,3,5,6,71]) (kh:=[0,8]) (q:=True/\True/\True/\(0<=(x16:Int)/\(x16:Int) < (↑(t.minutes.length):Int))/\True/\True/\(0<=(x19:Int)/\(x19:Int) < (↑((t.minutes.getD x16 []).length):Int))/\True/\True/\True/\True/\True/\((iv ((t.minutes.getD x16 []).getD x19 0)=iv ((t.minutes.getD x16 []).getD x19 0)/\iv ((mach r x16).changes.getD x19 default).lo=iv ((mach r x16).changes.getD x19 default).lo/\iv ((mach r x16).changes.getD x19 default).hi=iv ((mach r x16).changes.getD x19 default).hi/\True)/\Triple Try.prog 76 (s76 ((t.minutes.getD x16 []).getD x19 0) ((mach r x16).changes.getD x19 default).lo ((mach r x16).changes.getD x19 default).hi)/\True/\True /\ ∀ (i21:Env),True)/\True/\True) (st':=ASt.mk [(2,.ptr 0 []),(3,.ptr 8 []),(5,iv (x16:Int)),(6,iv (x19:Int)),(71,bv !within ((t.minutes.getD x16 []).getD x19 0) ((mach r x16).changes.getD x19 default).lo ((mach r x16).changes.getD x19 default).hi)] [(0,.cells 25 (cRun r)),(8,.cells 56 (cTrth t))] 20512) (by kernel_rfl) ⟨tv,tv,tv,⟨(o13 hp h15 x16 hx16 h17 h18 x19 hx19 h20),(o14 hp h15 x16 hx16 h17 h18 x19 hx19 h20)⟩,tv,tv,⟨(o15 hp h15 x16 hx16 h17 h18 x19 hx19 h20),(o16 hp h15 x16 hx16 h17 h18 x19 hx19 h20)⟩,tv,tv,tv,tv,tv,⟨⟨rfl,rfl,rfl,tv⟩,(t76 ((t.minutes.getD x16 []).getD x19 0) ((mach r x16).changes.getD x19 default).lo ((mach r x16).changes.getD x19 default).hi),tv,tv,(fun i21=>tv)⟩,tv,tv⟩ ?_
     refine swp_cond (!within ((t.minutes.getD x16 []).getD x19 0) ((mach r x16).changes.getD x19 default).lo ((mach r x16).changes.getD x19 default).hi) (by kernel_rfl) (fun h22 => ?_) (fun h22 => ?_)
     ·refine swp_seq ?_
      refine sR (kt:=[4]) (kh:=[]) (q:=True/\True) (st':=ASt.mk [(4,bv false)] [] 20520) (by kernel_rfl) ⟨tv,tv⟩ ?_
      refine swp_ret ?_
      exact ret_q [] ((True/\True)/\(bv false=bv (isTruth r t)/\nilN = [])/\T3) (by kernel_rfl) ⟨⟨tv,tv⟩,⟨(congrArg bv (o17 hp h15 x16 hx16 h17 h18 x19 hx19 h20 h22)),rfl⟩,rfl,rfl,rfl⟩
     ·refine swp_skip ?_
      refine sR (kt:=[2,3,5,6]) (kh:=[0,8]) (q:=True/\inI ((x19:Int) + 1)/\True/\True) (st':=ASt.mk [(2,.ptr 0 []),(3,.ptr 8 []),(5,iv (x16:Int)),(6,iv ((x19:Int) + 1))] [(0,.cells 25 (cRun r)),(8,.cells 56 (cTrth t))] 20536) (by kernel_rfl) ⟨tv,(o18 hp h15 x16 hx16 h17 h18 x19 hx19 h20 h22),tv,tv⟩ ?_
      exact loop_next (Hint.ann (h50b r t x16) [(2,AV.ptr 0 []),(3,AV.ptr 8 []),(5,iv (x16:Int))] [(0,OB.cells 25 (cRun r)),(8,OB.cells 56 (cTrth t))] 20280) x19 (ent_q hE [] [(0,.same 0),(8,.same 8)] [5] [0,8] (((some (Src.same 0)=some (Src.same 0)/\nilP = [])/\(some (Src.same 8)=some (Src.same 8)/\nilP = [])/\(iv (x16:Int)=iv (x16:Int)/\true=true)/\(iv ((x19:Int) + 1)=iv (↑(x19 + 1):Int)/\nilN = [])/\True)/\((OB.cells 25 (cRun r)=OB.cells 25 (cRun r)/\true=true)/\(OB.cells 56 (cTrth t)=OB.cells 56 (cTrth t)/\true=true)/\True)/\T2) (by kernel_rfl) (by kernel_rfl) ⟨⟨⟨rfl,rfl⟩,⟨rfl,rfl⟩,⟨rfl,rfl⟩,⟨(congrArg iv (o19 hp h15 x16 hx16 h17 h18 x19 hx19 h20 h22)),rfl⟩,tv⟩,⟨⟨rfl,rfl⟩,⟨rfl,rfl⟩,tv⟩,rfl,rfl⟩) (o20 hp h15 x16 hx16 h17 h18 x19 hx19 h20 h22) (o21 hp h15 x16 hx16 h17 h18 x19 hx19 h20 h22)
    ·refine swp_exit ?_
     refine sR (kt:=[2,3,5]) (kh:=[0,8]) (q:=True/\inI ((x16:Int) + 1)/\True/\True) (st':=ASt.mk [(2,.ptr 0 []),(3,.ptr 8 []),(5,iv ((x16:Int) + 1))] [(0,.cells 25 (cRun r)),(8,.cells 56 (cTrth t))] 20336) (by kernel_rfl) ⟨tv,(o22 hp h15 x16 hx16 h17 h18 x19 hx19 h20),tv,tv⟩ ?_
     exact loop_next (Hint.ann (h50a r t) [(2,AV.ptr 0 []),(3,AV.ptr 8 [])] [(0,OB.cells 25 (cRun r)),(8,OB.cells 56 (cTrth t))] 10160) x16 (ent_q hE [] [(0,.same 0),(8,.same 8)] [] [0,8] (((some (Src.same 0)=some (Src.same 0)/\nilP = [])/\(some (Src.same 8)=some (Src.same 8)/\nilP = [])/\(iv ((x16:Int) + 1)=iv (↑(x16 + 1):Int)/\nilN = [])/\True)/\((OB.cells 25 (cRun r)=OB.cells 25 (cRun r)/\true=true)/\(OB.cells 56 (cTrth t)=OB.cells 56 (cTrth t)/\true=true)/\True)/\T2) (by kernel_rfl) (by kernel_rfl) ⟨⟨⟨rfl,rfl⟩,⟨rfl,rfl⟩,⟨(congrArg iv (o23 hp h15 x16 hx16 h17 h18 x19 hx19 h20)),rfl⟩,tv⟩,⟨⟨rfl,rfl⟩,⟨rfl,rfl⟩,tv⟩,rfl,rfl⟩) (o24 hp h15 x16 hx16 h17 h18 x19 hx19 h20) (o25 hp h15 x16 hx16 h17 h18 x19 hx19 h20)
  ·refine swp_exit (swp_seq (swp_seq ?_))
   refine sR (kt:=[2,3,8]) (kh:=[0,8]) (q:=True/\True) (st':=ASt.mk [(2,.ptr 0 []),(3,.ptr 8 []),(8,iv 0)] [(0,.cells 25 (cRun r)),(8,.cells 56 (cTrth t))] 10208) (by kernel_rfl) ⟨tv,tv⟩ ?_
   refine swp_block ?_
   refine swp_loopA (Hint.ann (h50c r t) [(2,AV.ptr 0 []),(3,AV.ptr 8 [])] [(0,OB.cells 25 (cRun r)),(8,OB.cells 56 (cTrth t))] 20208) (ent_q hE [] [(0,.same 0),(8,.same 8)] [] [0,8] (((some (Src.same 0)=some (Src.same 0)/\nilP = [])/\(some (Src.same 8)=some (Src.same 8)/\nilP = [])/\(iv 0=iv (↑0:Int)/\nilN = [])/\True)/\((OB.cells 25 (cRun r)=OB.cells 25 (cRun r)/\true=true)/\(OB.cells 56 (cTrth t)=OB.cells 56 (cTrth t)/\true=true)/\True)/\T2) (by kernel_rfl) (by kernel_rfl) ⟨⟨⟨rfl,rfl⟩,⟨rfl,rfl⟩,⟨(congrArg iv (o26 hp h15 x16 hx16 h17)),rfl⟩,tv⟩,⟨⟨rfl,rfl⟩,⟨rfl,rfl⟩,tv⟩,rfl,rfl⟩) (o27 hp h15 x16 hx16 h17) (fun (x23:Nat) hx23 => ?_)
   refine swp_seq (swp_seq ?_)
   refine sR (kt:=[2,3,8,76]) (kh:=[0,8]) (q:=True/\True/\True/\True/\True/\True) (st':=ASt.mk [(2,.ptr 0 []),(3,.ptr 8 []),(8,iv (x23:Int)),(76,bv (decide ((x23:Int) < (↑(t.frm.length):Int))))] [(0,.cells 25 (cRun r)),(8,.cells 56 (cTrth t))] 20248) (by kernel_rfl) ⟨tv,tv,tv,tv,tv,tv⟩ ?_
   refine swp_cond (decide ((x23:Int) < (↑(t.frm.length):Int))) (by kernel_rfl) (fun h24 => ?_) (fun h24 => ?_)
   ·refine swp_skip (swp_seq (swp_block (swp_seq ?_)))
    refine sR (kt:=[2,3,8,9]) (kh:=[0,8,20288]) (q:=True/\True/\True/\(0<=(x23:Int)/\(x23:Int) < (↑(r.found.length):Int))/\True/\True/\True/\True) (st':=ASt.mk [(2,.ptr 0 []),(3,.ptr 8 []),(8,iv (x23:Int)),(9,.ptr 20288 [])] [(0,.cells 25 (cRun r)),(8,.cells 56 (cTrth t)),(20288,.cells 32 (cFnd (fnd r x23)))] 20304) (by kernel_rfl) ⟨tv,tv,tv,⟨(o28 hp h15 x16 hx16 h17 x23 hx23 h24),(o29 hp h15 x16 hx16 h17 x23 hx23 h24)⟩,tv,tv,tv,tv⟩ ?_
    refine swp_seq (swp_seq ?_)
    refine swp_region T0_ok mixed (cs:=[(7,CallSpec.eq (s51 (fnd r x23).frm (t.frm.getD x23 0)) [true,true])]) (kt:=[2,3,8,9,92]) (kh:=[0,8,20288]) (q:=True/\True/\True/\True/\True/\(0<=(x23:Int)/\(x23:Int) < (↑(t.frm.length):Int))/\True/\((aInts (fnd r x23).frm=aInts (fnd r x23).frm/\iv (t.frm.getD x23 0)=iv (t.frm.getD x23 0)/\True)/\Triple Try.prog 51 (s51 (fnd r x23).frm (t.frm.getD x23 0))/\(fnd r x23).frm.length<=1125899906842624/\True /\ ∀ (i25:Env),True)/\True/\True) (st':=ASt.mk [(2,.ptr 0 []),(3,.ptr 8 []),(8,iv (x23:Int)),(9,.ptr 20288 []),(92,bv !isIn (fnd r x23).frm (t.frm.getD x23 0))] [(0,.cells 25 (cRun r)),(8,.cells 56 (cTrth t)),(20288,.cells 32 (cFnd (fnd r x23)))] 20376) (by kernel_rfl) ⟨tv,tv,tv,tv,tv,⟨(o30 hp h15 x16 hx16 h17 x23 hx23 h24),(o31 hp h15 x16 hx16 h17 x23 hx23 h24)⟩,tv,⟨⟨rfl,rfl,tv⟩,(t51 (fnd r x23).frm (t.frm.getD x23 0)),(o32 hp h15 x16 hx16 h17 x23 hx23 h24),tv,(fun i25=>tv)⟩,tv,tv⟩ ?_
    refine swp_cond (!isIn (fnd r x23).frm (t.frm.getD x23 0)) (by kernel_rfl) (fun h26 => ?_) (fun h26 => ?_)
    ·refine swp_seq ?_
     refine sR (kt:=[4]) (kh:=[]) (q:=True/\True) (st':=ASt.mk [(4,bv false)] [] 20384) (by kernel_rfl) ⟨tv,tv⟩ ?_
     refine swp_ret ?_
     exact ret_q [] ((True/\True)/\(bv false=bv (isTruth r t)/\nilN = [])/\T3) (by kernel_rfl) ⟨⟨tv,tv⟩,⟨(congrArg bv (o33 hp h15 x16 hx16 h17 x23 hx23 h24 h26)),rfl⟩,rfl,rfl,rfl⟩
    ·refine swp_skip (swp_seq ?_)
     refine sR (kt:=[2,3,8,9,10]) (kh:=[0,8,20288]) (q:=True/\True) (st':=ASt.mk [(2,.ptr 0 []),(3,.ptr 8 []),(8,iv (x23:Int)),(9,.ptr 20288 []),(10,iv 0)] [(0,.cells 25 (cRun r)),(8,.cells 56 (cTrth t)),(20288,.cells 32 (cFnd (fnd r x23)))] 20384) (by kernel_rfl) ⟨tv,tv⟩ ?_
     refine swp_block ?_
     refine swp_loopA (Hint.ann (h50d r t x23) [(2,AV.ptr 0 []),(3,AV.ptr 8 []),(8,iv (x23:Int)),(9,AV.ptr 20288 [])] [(0,OB.cells 25 (cRun r)),(8,OB.cells 56 (cTrth t)),(20288,OB.cells 32 (cFnd (fnd r x23)))] 30384) (ent_q hE [] [(0,.same 0),(8,.same 8),(20288,.same 20288)] [8] [0,8,20288] (((some (Src.same 0)=some (Src.same 0)/\nilP = [])/\(some (Src.same 8)=some (Src.same 8)/\nilP = [])/\(iv (x23:Int)=iv (x23:Int)/\true=true)/\(some (Src.same 20288)=some (Src.same 20288)/\nilP = [])/\(iv 0=iv (↑0:Int)/\nilN = [])/\True)/\((OB.cells 25 (cRun r)=OB.cells 25 (cRun r)/\true=true)/\(OB.cells 56 (cTrth t)=OB.cells 56 (cTrth t)/\true=true)/\(OB.cells 32 (cFnd (fnd r x23))=OB.cells 32 (cFnd (fnd r x23))/\true=true)/\True)/\T2) (by kernel_rfl) (by kernel_rfl) ⟨⟨⟨rfl,rfl⟩,⟨rfl,rfl⟩,⟨rfl,rfl⟩,⟨rfl,rfl⟩,⟨(congrArg iv (o34 hp h15 x16 hx16 h17 x23 hx23 h24 h26)),rfl⟩,tv⟩,⟨⟨rfl,rfl⟩,⟨rfl,rfl⟩,⟨rfl,rfl⟩,tv⟩,rfl,rfl⟩) (o35 hp h15 x16 hx16 h17 x23 hx23 h24 h26) (fun (x27:Nat) hx27 => ?_)
     refine swp_seq (swp_seq ?_)
     refine sR (kt:=[2,3,8,9,10,96]) (kh:=[0,8,20288]) (q:=True/\True/\True/\True/\True) (st':=ASt.mk [(2,.ptr 0 []),(3,.ptr 8 []),(8,iv (x23:Int)),(9,.ptr 20288 []),(10,iv (x27:Int)),(96,bv (decide ((x27:Int) < r.plates)))] [(0,.cells 25 (cRun r)),(8,.cells 56 (cTrth t)),(20288,.cells 32 (cFnd (fnd r x23)))] 30416) (by kernel_rfl) ⟨tv,tv,tv,tv,tv⟩ ?_
     refine swp_cond (decide ((x27:Int) < r.plates)) (by kernel_rfl) (fun h28 => ?_) (fun h28 => ?_)
     ·refine swp_skip (swp_seq (swp_block (swp_seq ?_)))
      refine sR (kt:=[2,3,8,9,10,128]) (kh:=[0,8,20288]) (q:=True/\True/\True/\(0<=(x27:Int)/\(x27:Int) < (↑((fnd r x23).new.length):Int))/\True/\True/\True/\((!decide ((fnd r x23).new.getD x27 0 = -1))->(True/\True)/\True)/\((!decide ((fnd r x23).new.getD x27 0 = -1))->(((!decide ((fnd r x23).new.getD x27 0 = -1))->(!decide ((fnd r x23).new.getD x27 0 = -1))=true)/\True)/\True)/\((!decide ((fnd r x23).new.getD x27 0 = -1))->(True/\True)/\True)/\((!decide ((fnd r x23).new.getD x27 0 = -1))->(((!decide ((fnd r x23).new.getD x27 0 = -1))->(!decide ((fnd r x23).new.getD x27 0 = -1))=true)/\((!decide ((fnd r x23).new.getD x27 0 = -1))->(!decide ((fnd r x23).new.getD x27 0 = -1))=true)/\True)/\0<=(x27:Int)/\(x27:Int) < (↑((fnd r x23).new.length):Int))/\((!decide ((fnd r x23).new.getD x27 0 = -1))->(((!decide ((fnd r x23).new.getD x27 0 = -1))->(!decide ((fnd r x23).new.getD x27 0 = -1))=true)/\True)/\True)/\((!decide ((fnd r x23).new.getD x27 0 = -1))->(((!decide ((fnd r x23).new.getD x27 0 = -1))->(!decide ((fnd r x23).new.getD x27 0 = -1))=true)/\True/\True)/\True)/\((!decide ((fnd r x23).new.getD x27 0 = -1))->(True/\True)/\True)/\((!decide ((fnd r x23).new.getD x27 0 = -1))->(((!decide ((fnd r x23).new.getD x27 0 = -1))->(!decide ((fnd r x23).new.getD x27 0 = -1))=true)/\True)/\True)/\((!decide ((fnd r x23).new.getD x27 0 = -1))->(True/\True)/\True)/\((!decide ((fnd r x23).new.getD x27 0 = -1))->(((!decide ((fnd r x23).new.getD x27 0 = -1))->(!decide ((fnd r x23).new.getD x27 0 = -1))=true)/\True)/\True)/\((!decide ((fnd r x23).new.getD x27 0 = -1))->(True/\True)/\True)/\((!decide ((fnd r x23).new.getD x27 0 = -1))->(((!decide ((fnd r x23).new.getD x27 0 = -1))->(!decide ((fnd r x23).new.getD x27 0 = -1))=true)/\((!decide ((fnd r x23).new.getD x27 0 = -1))->(!decide ((fnd r x23).new.getD x27 0 = -1))=true)/\True)/\0<=(x23:Int)/\(x23:Int) < (↑(t.frm.length):Int))/\((!decide ((fnd r x23).new.getD x27 0 = -1))->(((!decide ((fnd r x23).new.getD x27 0 = -1))->(!decide ((fnd r x23).new.getD x27 0 = -1))=true)/\True)/\True)/\((!decide ((fnd r x23).new.getD x27 0 = -1))->(((!decide ((fnd r x23).new.getD x27 0 = -1))->(!decide ((fnd r x23).new.getD x27 0 = -1))=true)/\((!decide ((fnd r x23).new.getD x27 0 = -1))->(!decide ((fnd r x23).new.getD x27 0 = -1))=true)/\True)/\0<=t.frm.getD x23 0/\t.frm.getD x23 0 < (↑(t.minutes.length):Int))/\((!decide ((fnd r x23).new.getD x27 0 = -1))->(((!decide ((fnd r x23).new.getD x27 0 = -1))->(!decide ((fnd r x23).new.getD x27 0 = -1))=true)/\True)/\True)/\((!decide ((fnd r x23).new.getD x27 0 = -1))->(True/\True)/\True)/\((!decide ((fnd r x23).new.getD x27 0 = -1))->(((!decide ((fnd r x23).new.getD x27 0 = -1))->(!decide ((fnd r x23).new.getD x27 0 = -1))=true)/\((!decide ((fnd r x23).new.getD x27 0 = -1))->(!decide ((fnd r x23).new.getD x27 0 = -1))=true)/\True)/\0<=(x27:Int)/\(x27:Int) < (↑((t.minutes.getD (t.frm.getD x23 0).toNat []).length):Int))/\((!decide ((fnd r x23).new.getD x27 0 = -1))->(((!decide ((fnd r x23).new.getD x27 0 = -1))->(!decide ((fnd r x23).new.getD x27 0 = -1))=true)/\True)/\True)/\((!decide ((fnd r x23).new.getD x27 0 = -1))->(True/\True)/\True)/\((!decide ((fnd r x23).new.getD x27 0 = -1))->(((!decide ((fnd r x23).new.getD x27 0 = -1))->(!decide ((fnd r x23).new.getD x27 0 = -1))=true)/\True)/\True)/\((!decide ((fnd r x23).new.getD x27 0 = -1))->(((!decide ((fnd r x23).new.getD x27 0 = -1))->(!decide ((fnd r x23).new.getD x27 0 = -1))=true)/\((!decide ((fnd r x23).new.getD x27 0 = -1))->(!decide ((fnd r x23).new.getD x27 0 = -1))=true)/\True)/\True)/\((!decide ((fnd r x23).new.getD x27 0 = -1))->(((!decide ((fnd r x23).new.getD x27 0 = -1))->(!decide ((fnd r x23).new.getD x27 0 = -1))=true)/\((!decide ((fnd r x23).new.getD x27 0 = -1))->(!decide ((fnd r x23).new.getD x27 0 = -1))=true)/\True)/\True)/\(((!decide ((fnd r x23).new.getD x27 0 = -1))->(!decide ((fnd r x23).new.getD x27 0 = -1))=true)/\((!decide ((fnd r x23).new.getD x27 0 = -1))=false->True))/\True) (st':=ASt.mk [(2,.ptr 0 []),(3,.ptr 8 []),(8,iv (x23:Int)),(9,.ptr 20288 []),(10,iv (x27:Int)),(128,bv (bif !decide ((fnd r x23).new.getD x27 0 = -1) then !decide ((fnd r x23).new.getD x27 0=1) == decide ((t.minutes.getD (t.frm.getD x23 0).toNat []).getD x27 0<=(fnd r x23).minute) else false))] [(0,.cells 25 (cRun r)),(8,.cells 56 (cTrth t)),(20288,.cells 32 (cFnd (fnd r x23)))] 30656) (by kernel_rfl) ⟨tv,tv,tv,⟨(o36 hp h15 x16 hx16 h17 x23 hx23 h24 h26 x27 hx27 h28),(o37 hp h15 x16 hx16 h17 x23 hx23 h24 h26 x27 hx27 h28)⟩,tv,tv,tv,(fun h29=>⟨⟨tv,tv⟩,tv⟩),(fun h30=>⟨⟨(fun h31=>h30),tv⟩,tv⟩),(fun h32=>⟨⟨tv,tv⟩,tv⟩),(fun h33=>⟨⟨(fun h34=>h33),(fun h35=>h33),tv⟩,(o38 hp h15 x16 hx16 h17 x23 hx23 h24 h26 x27 hx27 h28 h33),(o39 hp h15 x16 hx16 h17 x23 hx23 h24 h26 x27 hx27 h28 h33)⟩),(fun h36=>⟨⟨(fun h37=>h36),tv⟩,tv⟩),(fun h38=>⟨⟨(fun h39=>h38),tv,tv⟩,tv⟩),(fun h40=>⟨⟨tv,tv⟩,tv⟩),(fun h41=>⟨⟨(fun h42=>h41),tv⟩,tv⟩),(fun h43=>⟨⟨tv,tv⟩,tv⟩),(fun h44=>⟨⟨(fun h45=>h44),tv⟩,tv⟩),(fun h46=>⟨⟨tv,tv⟩,tv⟩),(fun h47=>⟨⟨(fun h48=>h47),(fun h49=>h47),tv⟩,(o40 hp h15 x16 hx16 h17 x23 hx23 h24 h26 x27 hx27 h28 h47),(o41 hp h15 x16 hx16 h17 x23 hx23 h24 h26 x27 hx27 h28 h47)⟩),(fun h50=>⟨⟨(fun h51=>h50),tv⟩,tv⟩),(fun h52=>⟨⟨(fun h53=>h52),(fun h54=>h52),tv⟩,(o42 hp h15 x16 hx16 h17 x23 hx23 h24 h26 x27 hx27 h28 h52),(o43 hp h15 x16 hx16 h17 x23 hx23 h24 h26 x27 hx27 h28 h52)⟩),(fun h55=>⟨⟨(fun h56=>h55),tv⟩,tv⟩),(fun h57=>⟨⟨tv,tv⟩,tv⟩),(fun h58=>⟨⟨(fun h59=>h58),(fun h60=>h58),tv⟩,(o44 hp h15 x16 hx16 h17 x23 hx23 h24 h26 x27 hx27 h28 h58),(o45 hp h15 x16 hx16 h17 x23 hx23 h24 h26 x27 hx27 h28 h58)⟩),(fun h61=>⟨⟨(fun h62=>h61),tv⟩,tv⟩),(fun h63=>⟨⟨tv,tv⟩,tv⟩),(fun h64=>⟨⟨(fun h65=>h64),tv⟩,tv⟩),(fun h66=>⟨⟨(fun h67=>h66),(fun h68=>h66),tv⟩,tv⟩),(fun h69=>⟨⟨(fun h70=>h69),(fun h71=>h69),tv⟩,tv⟩),⟨(fun h72=>h72),(fun h73=>tv)⟩,tv⟩ ?_
      refine swp_cond (bif !decide ((fnd r x23).new.getD x27 0 = -1) then !decide ((fnd r x23).new.getD x27 0=1) == decide ((t.minutes.getD (t.frm.getD x23 0).toNat []).getD x27 0<=(fnd r x23).minute) else false) (by kernel_rfl) (fun h74 => ?_) (fun h74 => ?_)
      ·refine swp_seq ?_
       refine sR (kt:=[4]) (kh:=[]) (q:=True/\True) (st':=ASt.mk [(4,bv false)] [] 30664) (by kernel_rfl) ⟨tv,tv⟩ ?_
       refine swp_ret ?_
       exact ret_q [] ((True/\True)/\(bv false=bv (isTruth r t)/\nilN = [])/\T3) (by kernel_rfl) ⟨⟨tv,tv⟩,⟨(congrArg bv (o46 hp h15 x16 hx16 h17 x23 hx23 h24 h26 x27 hx27 h28 h74)),rfl⟩,rfl,rfl,rfl⟩
      ·refine swp_skip ?_
       refine sR (kt:=[2,3,8,9,10]) (kh:=[0,8,20288]) (q:=True/\inI ((x27:Int) + 1)/\True/\True) (st':=ASt.mk [(2,.ptr 0 []),(3,.ptr 8 []),(8,iv (x23:Int)),(9,.ptr 20288 []),(10,iv ((x27:Int) + 1))] [(0,.cells 25 (cRun r)),(8,.cells 56 (cTrth t)),(20288,.cells 32 (cFnd (fnd r x23)))] 30680) (by kernel_rfl) ⟨tv,(o47 hp h15 x16 hx16 h17 x23 hx23 h24 h26 x27 hx27 h28 h74),tv,tv⟩ ?_
       exact loop_next (Hint.ann (h50d r t x23) [(2,AV.ptr 0 []),(3,AV.ptr 8 []),(8,iv (x23:Int)),(9,AV.ptr 20288 [])] [(0,OB.cells 25 (cRun r)),(8,OB.cells 56 (cTrth t)),(20288,OB.cells 32 (cFnd (fnd r x23)))] 30384) x27 (ent_q hE [] [(0,.same 0),(8,.same 8),(20288,.same 20288)] [8] [0,8,20288] (((some (Src.same 0)=some (Src.same 0)/\nilP = [])/\(some (Src.same 8)=some (Src.same 8)/\nilP = [])/\(iv (x23:Int)=iv (x23:Int)/\true=true)/\(some (Src.same 20288)=some (Src.same 20288)/\nilP = [])/\(iv ((x27:Int) + 1)=iv (↑(x27 + 1):Int)/\nilN = [])/\True)/\((OB.cells 25 (cRun r)=OB.cells 25 (cRun r)/\true=true)/\(OB.cells 56 (cTrth t)=OB.cells 56 (cTrth t)/\true=true)/\(OB.cells 32 (cFnd (fnd r x23))=OB.cells 32 (cFnd (fnd r x23))/\true=true)/\True)/\T2) (by kernel_rfl) (by kernel_rfl) ⟨⟨⟨rfl,rfl⟩,⟨rfl,rfl⟩,⟨rfl,rfl⟩,⟨rfl,rfl⟩,⟨(congrArg iv (o48 hp h15 x16 hx16 h17 x23 hx23 h24 h26 x27 hx27 h28 h74)),rfl⟩,tv⟩,⟨⟨rfl,rfl⟩,⟨rfl,rfl⟩,⟨rfl,rfl⟩,tv⟩,rfl,rfl⟩) (o49 hp h15 x16 hx16 h17 x23 hx23 h24 h26 x27 hx27 h28 h74) (o50 hp h15 x16 hx16 h17 x23 hx23 h24 h26 x27 hx27 h28 h74)
     ·refine swp_exit ?_
      refine sR (kt:=[2,3,8]) (kh:=[0,8]) (q:=True/\inI ((x23:Int) + 1)/\True/\True) (st':=ASt.mk [(2,.ptr 0 []),(3,.ptr 8 []),(8,iv ((x23:Int) + 1))] [(0,.cells 25 (cRun r)),(8,.cells 56 (cTrth t))] 30440) (by kernel_rfl) ⟨tv,(o51 hp h15 x16 hx16 h17 x23 hx23 h24 h26 x27 hx27 h28),tv,tv⟩ ?_
      exact loop_next (Hint.ann (h50c r t) [(2,AV.ptr 0 []),(3,AV.ptr 8 [])] [(0,OB.cells 25 (cRun r)),(8,OB.cells 56 (cTrth t))] 20208) x23 (ent_q hE [] [(0,.same 0),(8,.same 8)] [] [0,8] (((some (Src.same 0)=some (Src.same 0)/\nilP = [])/\(some (Src.same 8)=some (Src.same 8)/\nilP = [])/\(iv ((x23:Int) + 1)=iv (↑(x23 + 1):Int)/\nilN = [])/\True)/\((OB.cells 25 (cRun r)=OB.cells 25 (cRun r)/\true=true)/\(OB.cells 56 (cTrth t)=OB.cells 56 (cTrth t)/\true=true)/\True)/\T2) (by kernel_rfl) (by kernel_rfl) ⟨⟨⟨rfl,rfl⟩,⟨rfl,rfl⟩,⟨(congrArg iv (o52 hp h15 x16 hx16 h17 x23 hx23 h24 h26 x27 hx27 h28)),rfl⟩,tv⟩,⟨⟨rfl,rfl⟩,⟨rfl,rfl⟩,tv⟩,rfl,rfl⟩) (o53 hp h15 x16 hx16 h17 x23 hx23 h24 h26 x27 hx27 h28) (o54 hp h15 x16 hx16 h17 x23 hx23 h24 h26 x27 hx27 h28)
   ·refine swp_exit (swp_seq ?_)
    refine sR (kt:=[4]) (kh:=[]) (q:=True/\True) (st':=ASt.mk [(4,bv true)] [] 20256) (by kernel_rfl) ⟨tv,tv⟩ ?_
    refine swp_ret ?_
    exact ret_q [] ((True/\True)/\(bv true=bv (isTruth r t)/\nilN = [])/\T3) (by kernel_rfl) ⟨⟨tv,tv⟩,⟨(congrArg bv (o55 hp h15 x16 hx16 h17 x23 hx23 h24)),rfl⟩,rfl,rfl,rfl⟩
theorem t50 (r:Run) (t:Trth):Triple Try.prog 50 (s50 r t):=by
  have hd:∀ {b:Bool},(bif !decide ((t.minutes.length:Int)=r.machines.length) then true else !decide ((t.frm.length:Int)=r.found.length))=b->trHead r t = !b:=by
    intro b h
    rw [← h,trHead]
    by_cases e1:t.minutes.length=r.machines.length <;> by_cases e2:t.frm.length=r.found.length <;> simp [e1,e2] <;> omega
  apply w50
  all_goals (first
    | ((repeat intro _) <;> (try simp only [v0,v1,v2,v3,v4,v5,v6,v7,v8,v9,inI,fits,Go.Sh.small] at *) <;> first | (exact rfl) | omega | exact vz | (simp_all; done) | (simp_all; omega))
    | (intro hp h; rw [trHead_bad (hd h)]; done)
    | (intro hp h
       have h0:=hd h
       have h1:=h0
       simp only [trHead,Bool.not_false,Bool.and_eq_true,decide_eq_true_eq] at h1
       have ok:=ok_of hp.1
       have hpl:=ok.plates
       have h7:=ok.machines
       have h8:=ok.found
       intro m hm hml
       simp only [decide_eq_true_eq,decide_eq_false_iff_not] at hml
       first
       | (intro e
          have ek:=ok.mach m (by omega)
          simp only [Bool.not_eq_true',Bool.not_eq_false',decide_eq_true_eq,decide_eq_false_iff_not] at e
          first
          | (rw [trM_bad (by omega) (trM_len e)]; done)
          | (intro p hpp hpl2
             simp only [decide_eq_true_eq,decide_eq_false_iff_not] at hpl2
             first
             | omega
             | ((repeat intro _); simp only [inI]; omega)
             | (intro e2
                simp only [Bool.not_eq_true'] at e2
                have e3:trM1 r t m p=false:=e2
                rw [trM_bad (by omega) (trM_one (by omega) e3)]; done)
             | (intro e2
                simp only [Bool.not_eq_false'] at e2
                have e3:trM1 r t m p=true:=e2
                exact ⟨by omega,lt_succ_cases hpp.2 e3⟩)
             | exact ⟨by omega,lt_succ_cases hm.2 (trM_of e (fun j hj=>hpp.2 j (by omega)))⟩
             | skip))
       | (intro i hi hil
          simp only [decide_eq_true_eq,decide_eq_false_iff_not] at hil
          first
          | (rw [isTruth_of h0 (fun j hj=>hm.2 j (by omega)) (fun j hj=>hi.2 j (by omega))]; done)
          | (have ef:=ok.fnd i (by omega)
             have e3:=frm_len ok (i:=i) (by omega)
             first
             | omega
             | (intro e
                simp only [Bool.not_eq_true',Bool.not_eq_false'] at e
                first
                | (rw [trF_bad (by omega) (trF_in e)]; done)
                | (intro p hpp hpl2
                   have hin:0<=t.frm.getD i 0/\t.frm.getD i 0 < r.machines.length:=by
                     refine frm_range ok (i:=i) (by omega) ?_
                     simpa [isIn] using e
                   have hmm:=hm.2 (t.frm.getD i 0).toNat (by omega)
                   simp only [trM,Bool.and_eq_true,decide_eq_true_eq,tmin] at hmm
                   have hm1:=hmm.1
                   simp only [decide_eq_true_eq,decide_eq_false_iff_not] at hpl2
                   first
                   | omega
                   | ((repeat intro _); simp only [inI]; omega)
                   | ((repeat intro _); omega)
                   | exact ⟨by omega,lt_succ_cases hi.2 (trF_of e (fun j hj=>hpp.2 j (by omega)))⟩
                   | (intro e2
                      have e3:trF1 r t i p=false:=by
                        rw [trF1]
                        show (decide ((fnd r i).new.getD p 0 = -1) || (decide ((fnd r i).new.getD p 0=1) == decide ((t.minutes.getD (t.frm.getD i 0).toNat []).getD p 0<=(fnd r i).minute)))=false
                        revert e2
                        cases decide ((fnd r i).new.getD p 0 = -1) <;> cases decide ((fnd r i).new.getD p 0=1) <;> cases decide ((t.minutes.getD (t.frm.getD i 0).toNat []).getD p 0<=(fnd r i).minute) <;> simp
                      rw [trF_bad (by omega) (trF_one (by omega) e3)]; done)
                   | (intro _ e2
                      have e3:trF1 r t i p=true:=by
                        rw [trF1]
                        show (decide ((fnd r i).new.getD p 0 = -1) || (decide ((fnd r i).new.getD p 0=1) == decide ((t.minutes.getD (t.frm.getD i 0).toNat []).getD p 0<=(fnd r i).minute)))=true
                        revert e2
                        cases decide ((fnd r i).new.getD p 0 = -1) <;> cases decide ((fnd r i).new.getD p 0=1) <;> cases decide ((t.minutes.getD (t.frm.getD i 0).toNat []).getD p 0<=(fnd r i).minute) <;> simp
                      exact ⟨by omega,lt_succ_cases hpp.2 e3⟩)
                   | (intro e2
                      have e3:trF1 r t i p=true:=by
                        rw [trF1]
                        show (decide ((fnd r i).new.getD p 0 = -1) || (decide ((fnd r i).new.getD p 0=1) == decide ((t.minutes.getD (t.frm.getD i 0).toNat []).getD p 0<=(fnd r i).minute)))=true
                        revert e2
                        cases decide ((fnd r i).new.getD p 0 = -1) <;> cases decide ((fnd r i).new.getD p 0=1) <;> cases decide ((t.minutes.getD (t.frm.getD i 0).toNat []).getD p 0<=(fnd r i).minute) <;> simp
                      exact ⟨by omega,lt_succ_cases hpp.2 e3⟩)
                   | (intro _
                      show (p:Int) < ((t.minutes.getD (t.frm.getD i 0).toNat []).length:Int)
                      rw [of_decide_eq_true hm1]; exact hpl2)))))))
abbrev q73_1 (r:Run) (t:Trth) (C:Prop):Prop:=fits r/\tfits t->(!decide (check r=0))=false->C
theorem w73 (r:Run) (t:Trth)
 (o0:fits r/\tfits t->(!decide (check r=0))->false=holdsB r t)
 (o1:q73_1 r t (okRun r=true))
 (o2:q73_1 r t (isTruth r t=holdsB r t))
 (o3:q73_1 r t (0=check r)) :
  Triple Try.prog 73 (s73 r t):=by
 refine triple_of Try.func73 rfl Try.call73 T0_ok _ rfl rfl rfl rfl (Nat.le_of_ble_eq_true (by kernel_rfl)) (fun _ _ _ _ h=>h) ?_
 intro hp C hC _ hE
 obtain ⟨P,w0,E0,av,hA⟩:=C
 subst hC
 refine swp_seq ?_
 refine sR (kt:=[2,3]) (kh:=[0,8]) (q:=True/\True/\True/\True/\True) (st':=ASt.mk [(2,.ptr 0 []),(3,.ptr 8 [])] [(0,.cells 25 (cRun r)),(8,.cells 56 (cTrth t))] 32) (by kernel_rfl) ⟨tv,tv,tv,tv,tv⟩ ?_
 refine swp_seq (swp_seq ?_)
 refine swp_region T0_ok mixed (cs:=[(1,CallSpec.eq (s63 r) [true])]) (kt:=[2,3,6]) (kh:=[0,8]) (q:=True/\((AV.agg (cRun r)=AV.agg (cRun r)/\True)/\Triple Try.prog 63 (s63 r)/\fits r/\True /\ ∀ (i0:Env),True)/\True/\True) (st':=ASt.mk [(2,.ptr 0 []),(3,.ptr 8 []),(6,iv (check r))] [(0,.cells 25 (cRun r)),(8,.cells 56 (cTrth t))] 56) (by kernel_rfl) ⟨tv,⟨⟨rfl,tv⟩,(t63 (r)),hp.1,tv,(fun i0=>tv)⟩,tv,tv⟩ ?_
 refine swp_seq ?_
 refine sR (kt:=[2,3,6,10]) (kh:=[0,8]) (q:=True/\True/\True) (st':=ASt.mk [(2,.ptr 0 []),(3,.ptr 8 []),(6,iv (check r)),(10,bv !decide (check r=0))] [(0,.cells 25 (cRun r)),(8,.cells 56 (cTrth t))] 72) (by kernel_rfl) ⟨tv,tv,tv⟩ ?_
 refine swp_cond (!decide (check r=0)) (by kernel_rfl) (fun h1 => ?_) (fun h1 => ?_)
 ·refine swp_seq ?_
  refine sR (kt:=[4,5]) (kh:=[]) (q:=True/\True/\True/\True) (st':=ASt.mk [(4,bv false),(5,iv (check r))] [] 96) (by kernel_rfl) ⟨tv,tv,tv,tv⟩ ?_
  refine swp_ret ?_
  exact ret_q [] ((True/\True/\True)/\((bv false=bv (holdsB r t)/\nilN = [])/\(iv (check r)=iv (check r)/\nilN = [])/\True)/\T3) (by kernel_rfl) ⟨⟨tv,tv,tv⟩,⟨⟨(congrArg bv (o0 hp h1)),rfl⟩,⟨rfl,rfl⟩,tv⟩,rfl,rfl,rfl⟩
 ·refine swp_skip (swp_seq ?_)
  refine swp_region T0_ok mixed (cs:=[(2,CallSpec.eq (s50 r t) [true,true])]) (kt:=[4,5]) (kh:=[]) (q:=True/\True/\((AV.agg (cRun r)=AV.agg (cRun r)/\AV.agg (cTrth t)=AV.agg (cTrth t)/\True)/\Triple Try.prog 50 (s50 r t)/\(okRun r=true/\tfits t)/\True /\ ∀ (i2:Env),True)/\True/\True/\True) (st':=ASt.mk [(4,bv (isTruth r t)),(5,iv 0)] [] 112) (by kernel_rfl) ⟨tv,tv,⟨⟨rfl,rfl,tv⟩,(t50 (r) (t)),⟨(o1 hp h1),hp.2⟩,tv,(fun i2=>tv)⟩,tv,tv,tv⟩ ?_
  refine swp_ret ?_
  exact ret_q [] ((True/\True/\True)/\((bv (isTruth r t)=bv (holdsB r t)/\nilN = [])/\(iv 0=iv (check r)/\nilN = [])/\True)/\T3) (by kernel_rfl) ⟨⟨tv,tv,tv⟩,⟨⟨(congrArg bv (o2 hp h1)),rfl⟩,⟨(congrArg iv (o3 hp h1)),rfl⟩,tv⟩,rfl,rfl,rfl⟩
theorem t73 (r:Run) (t:Trth):Triple Try.prog 73 (s73 r t):=by
 apply w73
 all_goals (first
  | ((repeat intro _) <;> (try simp only [v0,v1,v2,v3,v4,v5,v6,v7,v8,v9,inI,fits,Go.Sh.small] at *) <;> first | (exact rfl) | omega | exact vz | (simp_all; done) | (simp_all; omega))
  | (intro _ h; rw [holdsB,if_neg (by simpa using h)]; done)
  | (intro hp h; exact check_zero.1 (by simpa using h))
  | (intro _ h; rw [holdsB,if_pos (by simpa using h)]; done)
  | (intro _ h; symm; simpa using h))
abbrev q74_1 (r:Run) (C:Prop):Prop:=fits r->(!decide (rfE r true=0))=false->C
abbrev q74_2 (r:Run) (C:Nat->Prop):Prop:=q74_1 r (∀ (x2:Nat),x2<=r.machines.length->decide ((x2:Int) < (↑(r.machines.length):Int))=true->C x2)
abbrev q74_3 (r:Run) (C:Nat->Nat->Prop):Prop:=q74_2 r fun x2 => ∀ (x6:Nat),x6<=r.plates.toNat->decide ((x6:Int) < r.plates)=true->C x2 x6
abbrev q74_4 (r:Run) (C:Nat->Nat->Prop):Prop:=q74_2 r fun x2 => ∀ (x6:Nat),x6<=r.plates.toNat->decide ((x6:Int) < r.plates)=false->C x2 x6
abbrev q74_5 (r:Run) (C:Nat->Prop):Prop:=q74_1 r (∀ (x2:Nat),x2<=r.machines.length->decide ((x2:Int) < (↑(r.machines.length):Int))=false->C x2)
theorem w74 (r:Run)
 (o0:fits r->(!decide (rfE r true=0))->(truthR r).minutes.length=0)
 (o1:fits r->(!decide (rfE r true=0))->(truthR r).frm.length=0)
 (o2:q74_1 r (0 < (↑((rfL r true).length):Int)))
 (o3:q74_1 r (0=(↑0:Int)))
 (o4:q74_1 r (0<=r.machines.length))
 (o5:q74_2 r fun x2=>0=(↑0:Int))
 (o6:q74_2 r fun x2=>0<=r.plates.toNat)
 (o7:q74_3 r fun x2 x6=>0 < (↑((rfL r true).length):Int))
 (o8:q74_3 r fun x2 x6=>okRun r=true)
 (o9:q74_3 r fun x2 x6=>x2 < r.machines.length)
 (o10:q74_3 r fun x2 x6=>(x6:Int) < r.plates)
 (o11:q74_3 r fun x2 x6=>((rfL r true).getD 0 []).length<=r.found.length)
 (o12:q74_3 r fun x2 x6=>x6 + 1<=65536)
 (o13:q74_3 r fun x2 x6=>inI ((x6:Int) + 1))
 (o14:q74_3 r fun x2 x6=>(x6:Int) + 1=(↑(x6 + 1):Int))
 (o15:q74_3 r fun x2 x6 => ∀ (i13:Nat),i13 < x6 + 1->catF x6 (fun (k:Nat)=>[iv ((trRow r ((rfL r true).getD 0 []) x2 r.plates.toNat).getD k 0)]) (fun (j:Nat)=>List.getD [[iv (spanOf r ((rfL r true).getD 0 []) x2 x6).lo]] j (TI.za ti3)) i13 = [iv ((trRow r ((rfL r true).getD 0 []) x2 r.plates.toNat).getD i13 0)])
 (o16:q74_3 r fun x2 x6=>x6 + 1<=r.plates.toNat)
 (o17:q74_3 r fun x2 x6=>r.plates.toNat - (x6 + 1) < r.plates.toNat - x6)
 (o18:q74_4 r fun x2 x6=>x2 + 1<=65536)
 (o19:q74_4 r fun x2 x6=>inI ((x2:Int) + 1))
 (o20:q74_4 r fun x2 x6=>(x2:Int) + 1=(↑(x2 + 1):Int))
 (o21:q74_4 r fun x2 x6 => ∀ (i17:Nat),i17 < x2 + 1->catF x2 (fun (k:Nat)=>[aInts (trRow r ((rfL r true).getD 0 []) k r.plates.toNat)]) (fun (j:Nat)=>List.getD [[AV.sl 1 x6 fun (k:Nat)=>[iv ((trRow r ((rfL r true).getD 0 []) x2 r.plates.toNat).getD k 0)]]] j (TI.za ti30)) i17 = [aInts (trRow r ((rfL r true).getD 0 []) i17 r.plates.toNat)])
 (o22:q74_4 r fun x2 x6=>x2 + 1<=r.machines.length)
 (o23:q74_4 r fun x2 x6=>r.machines.length - (x2 + 1) < r.machines.length - x2)
 (o24:q74_5 r fun x2=>x2=(truthR r).minutes.length)
 (o25:q74_5 r fun x2 => ∀ (i19:Nat),i19 < (truthR r).minutes.length -> [aInts (trRow r ((rfL r true).getD 0 []) i19 r.plates.toNat)] = [aInts ((truthR r).minutes.getD i19 [])])
 (o26:q74_5 r fun x2=>((rfL r true).getD 0 []).length=(truthR r).frm.length)
 (o27:q74_5 r fun x2 => ∀ (i21:Nat),i21 < (truthR r).frm.length -> [iv (((rfL r true).getD 0 []).getD i21 0)] = [iv ((truthR r).frm.getD i21 0)])
 (o28:q74_5 r fun x2=>0=rfE r true) :
  Triple Try.prog 74 (s74 r):=by
 refine triple_of Try.func74 rfl Try.call74 T0_ok _ rfl rfl rfl rfl (Nat.le_of_ble_eq_true (by kernel_rfl)) (fun _ _ _ _ h=>h) ?_
 intro hp C hC _ hE
 obtain ⟨P,w0,E0,av,hA⟩:=C
 subst hC
 refine swp_seq ?_
 refine sR (kt:=[1,2]) (kh:=[0,8]) (q:=True/\True/\True/\True) (st':=ASt.mk [(1,.ptr 0 []),(2,.ptr 8 [])] [(0,.cells 25 (cRun r)),(8,.cells 56 [nilv,nilv])] 24) (by kernel_rfl) ⟨tv,tv,tv,tv⟩ ?_
 refine swp_seq ?_
 refine swp_region T0_ok mixed (cs:=[(1,CallSpec.eq (s87 r true) [true,true])]) (kt:=[1,2,4,5]) (kh:=[0,8]) (q:=True/\((AV.agg (cRun r)=AV.agg (cRun r)/\bv true=bv true/\True)/\Triple Try.prog 87 (s87 r true)/\fits r/\True /\ ∀ (i0:Env),True)/\True/\True/\True/\True/\True/\True) (st':=ASt.mk [(1,.ptr 0 []),(2,.ptr 8 []),(4,aIntss (rfL r true)),(5,iv (rfE r true))] [(0,.cells 25 (cRun r)),(8,.cells 56 [nilv,nilv])] 80) (by kernel_rfl) ⟨tv,⟨⟨rfl,rfl,tv⟩,(t87 (r) (true)),hp,tv,(fun i0=>tv)⟩,tv,tv,tv,tv,tv,tv⟩ ?_
 refine swp_seq (swp_seq ?_)
 refine sR (kt:=[1,2,4,5,16]) (kh:=[0,8]) (q:=True/\True/\True) (st':=ASt.mk [(1,.ptr 0 []),(2,.ptr 8 []),(4,aIntss (rfL r true)),(5,iv (rfE r true)),(16,bv !decide (rfE r true=0))] [(0,.cells 25 (cRun r)),(8,.cells 56 [nilv,nilv])] 96) (by kernel_rfl) ⟨tv,tv,tv⟩ ?_
 refine swp_cond (!decide (rfE r true=0)) (by kernel_rfl) (fun h1 => ?_) (fun h1 => ?_)
 ·refine swp_seq ?_
  refine sR (kt:=[2,3]) (kh:=[8]) (q:=True/\True/\True/\True/\True) (st':=ASt.mk [(2,.ptr 8 []),(3,iv (rfE r true))] [(8,.cells 56 [nilv,nilv])] 128) (by kernel_rfl) ⟨tv,tv,tv,tv,tv⟩ ?_
  refine swp_ret ?_
  exact ret_q [] ((True/\True/\True)/\(((truthR r).minutes.length=0/\(truthR r).frm.length=0/\True)/\(iv (rfE r true)=iv (rfE r true)/\nilN = [])/\True)/\T3) (by kernel_rfl) ⟨⟨tv,tv,tv⟩,⟨⟨(o0 hp h1),(o1 hp h1),tv⟩,⟨rfl,rfl⟩,tv⟩,rfl,rfl,rfl⟩
 ·refine swp_skip (swp_seq ?_)
  refine sR (kt:=[1,2,4,6]) (kh:=[0,8,128]) (q:=True/\(Int.ofNat 0<=Int.ofNat 0/\0 < (↑((rfL r true).length):Int))/\True/\True/\True/\True/\True) (st':=ASt.mk [(1,.ptr 0 []),(2,.ptr 8 []),(4,aIntss (rfL r true)),(6,.ptr 128 [])] [(0,.cells 25 (cRun r)),(8,.cells 56 [nilv,nilv]),(128,.cells 56 [nilv,aInts ((rfL r true).getD 0 [])])] 144) (by kernel_rfl) ⟨tv,⟨(by decide),(o2 hp h1)⟩,tv,tv,tv,tv,tv⟩ ?_
  refine swp_seq (swp_seq ?_)
  refine sR (kt:=[1,2,4,6,7]) (kh:=[0,8,128]) (q:=True/\True) (st':=ASt.mk [(1,.ptr 0 []),(2,.ptr 8 []),(4,aIntss (rfL r true)),(6,.ptr 128 []),(7,iv 0)] [(0,.cells 25 (cRun r)),(8,.cells 56 [nilv,nilv]),(128,.cells 56 [nilv,aInts ((rfL r true).getD 0 [])])] 152) (by kernel_rfl) ⟨tv,tv⟩ ?_
  refine swp_block ?_
  refine swp_loopA (Hint.ann (h74a r) [(1,AV.ptr 0 []),(2,AV.ptr 8 []),(4,aIntss (rfL r true))] [(0,OB.cells 25 (cRun r)),(8,OB.cells 56 [nilv,nilv])] 10152) (ent_q hE [] [(0,.same 0),(8,.same 8),(5000,.same 128),(5001,.nil)] [4] [0,8] (((some (Src.same 0)=some (Src.same 0)/\nilP = [])/\(some (Src.same 8)=some (Src.same 8)/\nilP = [])/\(aIntss (rfL r true)=aIntss (rfL r true)/\true=true)/\(iv 0=iv (↑0:Int)/\nilN = [])/\(some (Src.same 128)=some (Src.same 128)/\nilP = [])/\True)/\((OB.cells 25 (cRun r)=OB.cells 25 (cRun r)/\true=true)/\(OB.cells 56 [nilv,nilv]=OB.cells 56 [nilv,nilv]/\true=true)/\(56=56/\(some Src.nil=some Src.nil/\(1=1/\((rfL r true).getD 0 []).length=((rfL r true).getD 0 []).length /\ ∀ (i3:Nat),i3 < ((rfL r true).getD 0 []).length -> [iv (((rfL r true).getD 0 []).getD i3 0)] = [iv (((rfL r true).getD 0 []).getD i3 0)])/\True)/\true=true)/\0=0/\True)/\T2) (by kernel_rfl) (by kernel_rfl) ⟨⟨⟨rfl,rfl⟩,⟨rfl,rfl⟩,⟨rfl,rfl⟩,⟨(congrArg iv (o3 hp h1)),rfl⟩,⟨rfl,rfl⟩,tv⟩,⟨⟨rfl,rfl⟩,⟨rfl,rfl⟩,⟨rfl,⟨rfl,⟨rfl,rfl,(fun i3=>(fun h4=>rfl))⟩,tv⟩,rfl⟩,rfl,tv⟩,rfl,rfl⟩) (o4 hp h1) (fun (x2:Nat) hx2 => ?_)
  refine swp_seq (swp_seq ?_)
  refine sR (kt:=[1,2,4,7,6,27]) (kh:=[0,8,5000,5001]) (q:=True/\True/\True/\True/\True/\True) (st':=ASt.mk [(1,.ptr 0 []),(2,.ptr 8 []),(4,aIntss (rfL r true)),(7,iv (x2:Int)),(6,.ptr 5000 []),(27,bv (decide ((x2:Int) < (↑(r.machines.length):Int))))] [(0,.cells 25 (cRun r)),(8,.cells 56 [nilv,nilv]),(5000,.cells 56 [.vec 5001,aInts ((rfL r true).getD 0 [])]),(5001,.vec 30 1 x2 fun (k:Nat)=>[aInts (trRow r ((rfL r true).getD 0 []) k r.plates.toNat)])] 10192) (by kernel_rfl) ⟨tv,tv,tv,tv,tv,tv⟩ ?_
  refine swp_cond (decide ((x2:Int) < (↑(r.machines.length):Int))) (by kernel_rfl) (fun h5 => ?_) (fun h5 => ?_)
  ·refine swp_skip (swp_seq (swp_block (swp_seq ?_)))
   refine sR (kt:=[1,2,4,7,6,8]) (kh:=[0,8,5000,5001]) (q:=True/\True) (st':=ASt.mk [(1,.ptr 0 []),(2,.ptr 8 []),(4,aIntss (rfL r true)),(7,iv (x2:Int)),(6,.ptr 5000 []),(8,nilv)] [(0,.cells 25 (cRun r)),(8,.cells 56 [nilv,nilv]),(5000,.cells 56 [.vec 5001,aInts ((rfL r true).getD 0 [])]),(5001,.vec 30 1 x2 fun (k:Nat)=>[aInts (trRow r ((rfL r true).getD 0 []) k r.plates.toNat)])] 10200) (by kernel_rfl) ⟨tv,tv⟩ ?_
   refine swp_seq (swp_seq ?_)
   refine sR (kt:=[1,2,4,7,6,8,9]) (kh:=[0,8,5000,5001]) (q:=True/\True) (st':=ASt.mk [(1,.ptr 0 []),(2,.ptr 8 []),(4,aIntss (rfL r true)),(7,iv (x2:Int)),(6,.ptr 5000 []),(8,nilv),(9,iv 0)] [(0,.cells 25 (cRun r)),(8,.cells 56 [nilv,nilv]),(5000,.cells 56 [.vec 5001,aInts ((rfL r true).getD 0 [])]),(5001,.vec 30 1 x2 fun (k:Nat)=>[aInts (trRow r ((rfL r true).getD 0 []) k r.plates.toNat)])] 10208) (by kernel_rfl) ⟨tv,tv⟩ ?_
   refine swp_block ?_
   refine swp_loopA (Hint.ann (h74b r x2) [(1,AV.ptr 0 []),(2,AV.ptr 8 []),(4,aIntss (rfL r true)),(7,iv (x2:Int)),(6,AV.ptr 5000 [])] [(0,OB.cells 25 (cRun r)),(8,OB.cells 56 [nilv,nilv]),(5000,OB.cells 56 [AV.vec 5001,aInts ((rfL r true).getD 0 [])]),(5001,OB.vec 30 1 x2 fun (k:Nat)=>[aInts (trRow r ((rfL r true).getD 0 []) k r.plates.toNat)])] 20208) (ent_q hE [] [(0,.same 0),(8,.same 8),(5000,.same 5000),(5001,.same 5001),(5002,.nil)] [4,7] [0,8,5001] (((some (Src.same 0)=some (Src.same 0)/\nilP = [])/\(some (Src.same 8)=some (Src.same 8)/\nilP = [])/\(aIntss (rfL r true)=aIntss (rfL r true)/\true=true)/\(iv (x2:Int)=iv (x2:Int)/\true=true)/\(some (Src.same 5000)=some (Src.same 5000)/\nilP = [])/\(iv 0=iv (↑0:Int)/\nilN = [])/\some Src.nil=some Src.nil/\True)/\((OB.cells 25 (cRun r)=OB.cells 25 (cRun r)/\true=true)/\(OB.cells 56 [nilv,nilv]=OB.cells 56 [nilv,nilv]/\true=true)/\(56=56/\(some (Src.same 5001)=some (Src.same 5001)/\(1=1/\((rfL r true).getD 0 []).length=((rfL r true).getD 0 []).length /\ ∀ (i7:Nat),i7 < ((rfL r true).getD 0 []).length -> [iv (((rfL r true).getD 0 []).getD i7 0)] = [iv (((rfL r true).getD 0 []).getD i7 0)])/\True)/\true=true)/\(((OB.vec 30 1 x2 fun (k:Nat)=>[aInts (trRow r ((rfL r true).getD 0 []) k r.plates.toNat)])=OB.vec 30 1 x2 fun (k:Nat)=>[aInts (trRow r ((rfL r true).getD 0 []) k r.plates.toNat)])/\true=true)/\0=0/\True)/\T2) (by kernel_rfl) (by kernel_rfl) ⟨⟨⟨rfl,rfl⟩,⟨rfl,rfl⟩,⟨rfl,rfl⟩,⟨rfl,rfl⟩,⟨rfl,rfl⟩,⟨(congrArg iv (o5 hp h1 x2 hx2 h5)),rfl⟩,rfl,tv⟩,⟨⟨rfl,rfl⟩,⟨rfl,rfl⟩,⟨rfl,⟨rfl,⟨rfl,rfl,(fun i7=>(fun h8=>rfl))⟩,tv⟩,rfl⟩,⟨rfl,rfl⟩,rfl,tv⟩,rfl,rfl⟩) (o6 hp h1 x2 hx2 h5) (fun (x6:Nat) hx6 => ?_)
   refine swp_seq (swp_seq ?_)
   refine sR (kt:=[1,2,4,7,6,9,8,33]) (kh:=[0,8,5000,5002,5001]) (q:=True/\True/\True/\True/\True) (st':=ASt.mk [(1,.ptr 0 []),(2,.ptr 8 []),(4,aIntss (rfL r true)),(7,iv (x2:Int)),(6,.ptr 5000 []),(9,iv (x6:Int)),(8,.vec 5002),(33,bv (decide ((x6:Int) < r.plates)))] [(0,.cells 25 (cRun r)),(8,.cells 56 [nilv,nilv]),(5000,.cells 56 [.vec 5001,aInts ((rfL r true).getD 0 [])]),(5002,.vec 3 1 x6 fun (k:Nat)=>[iv ((trRow r ((rfL r true).getD 0 []) x2 r.plates.toNat).getD k 0)]),(5001,.vec 30 1 x2 fun (k:Nat)=>[aInts (trRow r ((rfL r true).getD 0 []) k r.plates.toNat)])] 20240) (by kernel_rfl) ⟨tv,tv,tv,tv,tv⟩ ?_
   refine swp_cond (decide ((x6:Int) < r.plates)) (by kernel_rfl) (fun h9 => ?_) (fun h9 => ?_)
   ·refine swp_skip (swp_seq (swp_block ?_))
    refine swp_region T0_ok mixed (cs:=[(7,CallSpec.eq (c74 r x2 x6) [true,true,true,true])]) (kt:=[1,2,4,7,6,9,8]) (kh:=[0,8,5000,20320,5001]) (q:=True/\True/\True/\(Int.ofNat 0<=Int.ofNat 0/\0 < (↑((rfL r true).length):Int))/\True/\True/\True/\((AV.agg (cRun r)=AV.agg (cRun r)/\aInts ((rfL r true).getD 0 [])=aInts ((rfL r true).getD 0 [])/\iv (x2:Int)=iv (x2:Int)/\iv (x6:Int)=iv (x6:Int)/\True)/\Triple Try.prog 88 (c74 r x2 x6)/\(okRun r=true/\x2 < r.machines.length/\(x6:Int) < r.plates/\((rfL r true).getD 0 []).length<=r.found.length)/\True /\ ∀ (i10:Env),True)/\True/\True/\x6 + 1<=65536/\True/\True) (st':=ASt.mk [(1,.ptr 0 []),(2,.ptr 8 []),(4,aIntss (rfL r true)),(7,iv (x2:Int)),(6,.ptr 5000 []),(9,iv (x6:Int)),(8,.vec 20320)] [(0,.cells 25 (cRun r)),(8,.cells 56 [nilv,nilv]),(5000,.cells 56 [.vec 5001,aInts ((rfL r true).getD 0 [])]),(20320,.vec 3 1 (x6 + 1) (catF x6 (fun (k:Nat)=>[iv ((trRow r ((rfL r true).getD 0 []) x2 r.plates.toNat).getD k 0)]) fun (j:Nat)=>List.getD [[iv (spanOf r ((rfL r true).getD 0 []) x2 x6).lo]] j (TI.za ti3))),(5001,.vec 30 1 x2 fun (k:Nat)=>[aInts (trRow r ((rfL r true).getD 0 []) k r.plates.toNat)])] 20336) (by kernel_rfl) ⟨tv,tv,tv,⟨(by decide),(o7 hp h1 x2 hx2 h5 x6 hx6 h9)⟩,tv,tv,tv,⟨⟨rfl,rfl,rfl,rfl,tv⟩,(t88 _ _ _ _),⟨(o8 hp h1 x2 hx2 h5 x6 hx6 h9),(o9 hp h1 x2 hx2 h5 x6 hx6 h9),(o10 hp h1 x2 hx2 h5 x6 hx6 h9),(o11 hp h1 x2 hx2 h5 x6 hx6 h9)⟩,tv,(fun i10=>tv)⟩,tv,tv,(o12 hp h1 x2 hx2 h5 x6 hx6 h9),tv,tv⟩ ?_
    refine sR (kt:=[1,2,4,7,6,9,8]) (kh:=[0,8,5000,20320,5001]) (q:=True/\inI ((x6:Int) + 1)/\True/\True) (st':=ASt.mk [(1,.ptr 0 []),(2,.ptr 8 []),(4,aIntss (rfL r true)),(7,iv (x2:Int)),(6,.ptr 5000 []),(9,iv ((x6:Int) + 1)),(8,.vec 20320)] [(0,.cells 25 (cRun r)),(8,.cells 56 [nilv,nilv]),(5000,.cells 56 [.vec 5001,aInts ((rfL r true).getD 0 [])]),(20320,.vec 3 1 (x6 + 1) (catF x6 (fun (k:Nat)=>[iv ((trRow r ((rfL r true).getD 0 []) x2 r.plates.toNat).getD k 0)]) fun (j:Nat)=>List.getD [[iv (spanOf r ((rfL r true).getD 0 []) x2 x6).lo]] j (TI.za ti3))),(5001,.vec 30 1 x2 fun (k:Nat)=>[aInts (trRow r ((rfL r true).getD 0 []) k r.plates.toNat)])] 20360) (by kernel_rfl) ⟨tv,(o13 hp h1 x2 hx2 h5 x6 hx6 h9),tv,tv⟩ ?_
    exact loop_next (Hint.ann (h74b r x2) [(1,AV.ptr 0 []),(2,AV.ptr 8 []),(4,aIntss (rfL r true)),(7,iv (x2:Int)),(6,AV.ptr 5000 [])] [(0,OB.cells 25 (cRun r)),(8,OB.cells 56 [nilv,nilv]),(5000,OB.cells 56 [AV.vec 5001,aInts ((rfL r true).getD 0 [])]),(5001,OB.vec 30 1 x2 fun (k:Nat)=>[aInts (trRow r ((rfL r true).getD 0 []) k r.plates.toNat)])] 20208) x6 (ent_q hE [] [(0,.same 0),(8,.same 8),(5000,.same 5000),(5001,.same 5001),(5002,.same 20320)] [4,7] [0,8,5001] (((some (Src.same 0)=some (Src.same 0)/\nilP = [])/\(some (Src.same 8)=some (Src.same 8)/\nilP = [])/\(aIntss (rfL r true)=aIntss (rfL r true)/\true=true)/\(iv (x2:Int)=iv (x2:Int)/\true=true)/\(some (Src.same 5000)=some (Src.same 5000)/\nilP = [])/\(iv ((x6:Int) + 1)=iv (↑(x6 + 1):Int)/\nilN = [])/\some (Src.same 20320)=some (Src.same 20320)/\True)/\((OB.cells 25 (cRun r)=OB.cells 25 (cRun r)/\true=true)/\(OB.cells 56 [nilv,nilv]=OB.cells 56 [nilv,nilv]/\true=true)/\(56=56/\(some (Src.same 5001)=some (Src.same 5001)/\(1=1/\((rfL r true).getD 0 []).length=((rfL r true).getD 0 []).length /\ ∀ (i11:Nat),i11 < ((rfL r true).getD 0 []).length -> [iv (((rfL r true).getD 0 []).getD i11 0)] = [iv (((rfL r true).getD 0 []).getD i11 0)])/\True)/\true=true)/\(((OB.vec 30 1 x2 fun (k:Nat)=>[aInts (trRow r ((rfL r true).getD 0 []) k r.plates.toNat)])=OB.vec 30 1 x2 fun (k:Nat)=>[aInts (trRow r ((rfL r true).getD 0 []) k r.plates.toNat)])/\true=true)/\(3=3/\1=1/\x6 + 1=x6 + 1 /\ ∀ (i13:Nat),i13 < x6 + 1->catF x6 (fun (k:Nat)=>[iv ((trRow r ((rfL r true).getD 0 []) x2 r.plates.toNat).getD k 0)]) (fun (j:Nat)=>List.getD [[iv (spanOf r ((rfL r true).getD 0 []) x2 x6).lo]] j (TI.za ti3)) i13 = [iv ((trRow r ((rfL r true).getD 0 []) x2 r.plates.toNat).getD i13 0)])/\True)/\T2) (by kernel_rfl) (by kernel_rfl) ⟨⟨⟨rfl,rfl⟩,⟨rfl,rfl⟩,⟨rfl,rfl⟩,⟨rfl,rfl⟩,⟨rfl,rfl⟩,⟨(congrArg iv (o14 hp h1 x2 hx2 h5 x6 hx6 h9)),rfl⟩,rfl,tv⟩,⟨⟨rfl,rfl⟩,⟨rfl,rfl⟩,⟨rfl,⟨rfl,⟨rfl,rfl,(fun i11=>(fun h12=>rfl))⟩,tv⟩,rfl⟩,⟨rfl,rfl⟩,⟨rfl,rfl,rfl,(fun i13=>(fun h14=>(o15 hp h1 x2 hx2 h5 x6 hx6 h9 i13 h14)))⟩,tv⟩,rfl,rfl⟩) (o16 hp h1 x2 hx2 h5 x6 hx6 h9) (o17 hp h1 x2 hx2 h5 x6 hx6 h9)
   ·refine swp_exit ?_
    refine sR (kt:=[1,2,4,7,6]) (kh:=[0,8,5000,20272]) (q:=True/\True/\True/\True/\x2 + 1<=65536/\True/\True/\True) (st':=ASt.mk [(1,.ptr 0 []),(2,.ptr 8 []),(4,aIntss (rfL r true)),(7,iv (x2:Int)),(6,.ptr 5000 [])] [(0,.cells 25 (cRun r)),(8,.cells 56 [nilv,nilv]),(5000,.cells 56 [.vec 20272,aInts ((rfL r true).getD 0 [])]),(20272,.vec 30 1 (x2 + 1) (catF x2 (fun (k:Nat)=>[aInts (trRow r ((rfL r true).getD 0 []) k r.plates.toNat)]) fun (j:Nat)=>List.getD [[.sl 1 x6 fun (k:Nat)=>[iv ((trRow r ((rfL r true).getD 0 []) x2 r.plates.toNat).getD k 0)]]] j (TI.za ti30)))] 20296) (by kernel_rfl) ⟨tv,tv,tv,tv,(o18 hp h1 x2 hx2 h5 x6 hx6 h9),tv,tv,tv⟩ ?_
    refine sR (kt:=[1,2,4,7,6]) (kh:=[0,8,5000,20272]) (q:=True/\inI ((x2:Int) + 1)/\True/\True) (st':=ASt.mk [(1,.ptr 0 []),(2,.ptr 8 []),(4,aIntss (rfL r true)),(7,iv ((x2:Int) + 1)),(6,.ptr 5000 [])] [(0,.cells 25 (cRun r)),(8,.cells 56 [nilv,nilv]),(5000,.cells 56 [.vec 20272,aInts ((rfL r true).getD 0 [])]),(20272,.vec 30 1 (x2 + 1) (catF x2 (fun (k:Nat)=>[aInts (trRow r ((rfL r true).getD 0 []) k r.plates.toNat)]) fun (j:Nat)=>List.getD [[.sl 1 x6 fun (k:Nat)=>[iv ((trRow r ((rfL r true).getD 0 []) x2 r.plates.toNat).getD k 0)]]] j (TI.za ti30)))] 20320) (by kernel_rfl) ⟨tv,(o19 hp h1 x2 hx2 h5 x6 hx6 h9),tv,tv⟩ ?_
    exact loop_next (Hint.ann (h74a r) [(1,AV.ptr 0 []),(2,AV.ptr 8 []),(4,aIntss (rfL r true))] [(0,OB.cells 25 (cRun r)),(8,OB.cells 56 [nilv,nilv])] 10152) x2 (ent_q hE [] [(0,.same 0),(8,.same 8),(5000,.same 5000),(5001,.same 20272)] [4] [0,8] (((some (Src.same 0)=some (Src.same 0)/\nilP = [])/\(some (Src.same 8)=some (Src.same 8)/\nilP = [])/\(aIntss (rfL r true)=aIntss (rfL r true)/\true=true)/\(iv ((x2:Int) + 1)=iv (↑(x2 + 1):Int)/\nilN = [])/\(some (Src.same 5000)=some (Src.same 5000)/\nilP = [])/\True)/\((OB.cells 25 (cRun r)=OB.cells 25 (cRun r)/\true=true)/\(OB.cells 56 [nilv,nilv]=OB.cells 56 [nilv,nilv]/\true=true)/\(56=56/\(some (Src.same 20272)=some (Src.same 20272)/\(1=1/\((rfL r true).getD 0 []).length=((rfL r true).getD 0 []).length /\ ∀ (i15:Nat),i15 < ((rfL r true).getD 0 []).length -> [iv (((rfL r true).getD 0 []).getD i15 0)] = [iv (((rfL r true).getD 0 []).getD i15 0)])/\True)/\true=true)/\(30=30/\1=1/\x2 + 1=x2 + 1 /\ ∀ (i17:Nat),i17 < x2 + 1->catF x2 (fun (k:Nat)=>[aInts (trRow r ((rfL r true).getD 0 []) k r.plates.toNat)]) (fun (j:Nat)=>List.getD [[AV.sl 1 x6 fun (k:Nat)=>[iv ((trRow r ((rfL r true).getD 0 []) x2 r.plates.toNat).getD k 0)]]] j (TI.za ti30)) i17 = [aInts (trRow r ((rfL r true).getD 0 []) i17 r.plates.toNat)])/\True)/\T2) (by kernel_rfl) (by kernel_rfl) ⟨⟨⟨rfl,rfl⟩,⟨rfl,rfl⟩,⟨rfl,rfl⟩,⟨(congrArg iv (o20 hp h1 x2 hx2 h5 x6 hx6 h9)),rfl⟩,⟨rfl,rfl⟩,tv⟩,⟨⟨rfl,rfl⟩,⟨rfl,rfl⟩,⟨rfl,⟨rfl,⟨rfl,rfl,(fun i15=>(fun h16=>rfl))⟩,tv⟩,rfl⟩,⟨rfl,rfl,rfl,(fun i17=>(fun h18=>(o21 hp h1 x2 hx2 h5 x6 hx6 h9 i17 h18)))⟩,tv⟩,rfl,rfl⟩) (o22 hp h1 x2 hx2 h5 x6 hx6 h9) (o23 hp h1 x2 hx2 h5 x6 hx6 h9)
  ·refine swp_exit (swp_seq ?_)
   refine sR (kt:=[2,3]) (kh:=[8,5001]) (q:=True/\True/\True/\True) (st':=ASt.mk [(2,.ptr 8 []),(3,iv 0)] [(8,.cells 56 [.vec 5001,aInts ((rfL r true).getD 0 [])]),(5001,.vec 30 1 x2 fun (k:Nat)=>[aInts (trRow r ((rfL r true).getD 0 []) k r.plates.toNat)])] 10216) (by kernel_rfl) ⟨tv,tv,tv,tv⟩ ?_
   refine swp_ret ?_
   exact ret_q [5001] ((True/\True/\True)/\(((1=1/\x2=(truthR r).minutes.length /\ ∀ (i19:Nat),i19 < (truthR r).minutes.length -> [aInts (trRow r ((rfL r true).getD 0 []) i19 r.plates.toNat)] = [aInts ((truthR r).minutes.getD i19 [])])/\(1=1/\((rfL r true).getD 0 []).length=(truthR r).frm.length /\ ∀ (i21:Nat),i21 < (truthR r).frm.length -> [iv (((rfL r true).getD 0 []).getD i21 0)] = [iv ((truthR r).frm.getD i21 0)])/\True)/\(iv 0=iv (rfE r true)/\nilN = [])/\True)/\T3) (by kernel_rfl) ⟨⟨tv,tv,tv⟩,⟨⟨⟨rfl,(o24 hp h1 x2 hx2 h5),(fun i19=>(fun h20=>(o25 hp h1 x2 hx2 h5 i19 h20)))⟩,⟨rfl,(o26 hp h1 x2 hx2 h5),(fun i21=>(fun h22=>(o27 hp h1 x2 hx2 h5 i21 h22)))⟩,tv⟩,⟨(congrArg iv (o28 hp h1 x2 hx2 h5)),rfl⟩,tv⟩,rfl,rfl,rfl⟩
theorem t74 (r:Run):Triple Try.prog 74 (s74 r):=by
  apply w74
  all_goals (first
    | (intro _ h; rw [truthR,if_neg (knowBad h)] <;> rfl)
    | ((repeat intro _) <;> (try simp only [v0,v1,v2,v3,v4,v5,v6,v7,v8,v9,inI,fits,Go.Sh.small] at *) <;> first | (exact rfl) | omega | exact vz | (simp_all; done) | (simp_all; omega))
    | (intro _ h
       have F:=knowF h
       have h1:=F.pos
       have h2:=F.frm 0 F.pos
       have h3:=F.ok.plates
       have h4:=F.ok.machines
       first
       | omega
       | exact F.zero.symm
       | (intro m hm hl
          simp only [decide_eq_true_eq,decide_eq_false_iff_not] at hl
          first
          | exact F.zero.symm
          | (intro p hp hpl
             simp only [decide_eq_true_eq,decide_eq_false_iff_not] at hpl
             first
             | omega
             | exact F.okb
             | (simp only [inI]; omega)
             | (intro i hi; exact catF_idx (fun k=>[iv ((trRow r ((rfL r true).getD 0 []) m r.plates.toNat).getD k 0)]) (by rw [trRow_get _ _ _ (by omega)]) hi)
             | (intro i hi; exact catF_idx (fun k=>[aInts (trRow r ((rfL r true).getD 0 []) k r.plates.toNat)]) (by rw [aInts,trRow_len,show p=r.plates.toNat by omega]) hi))
          | (rw [truthR,if_pos F.zero]; simp [trRows]; omega)
          | (rw [truthR,if_pos F.zero,F.eq]; done)
          | (intro i hi; rw [truthR,if_pos F.zero] at hi ⊢; simp only [trRows,List.length_map,List.length_range] at hi; rw [F.eq]; simp [trRows,hi])
          | (intro i hi; rw [truthR,if_pos F.zero,F.eq]))))
abbrev q70_1 (t:Trth) (C:Nat->Prop):Prop:=tsmall t -> ∀ (x0:Nat),x0<=t.minutes.length->decide ((x0:Int) < (↑(t.minutes.length):Int))=true->C x0
abbrev q70_2 (t:Trth) (C:Nat->Prop):Prop:=tsmall t -> ∀ (x0:Nat),x0<=t.minutes.length->decide ((x0:Int) < (↑(t.minutes.length):Int))=false->C x0
theorem w70 (t:Trth)
 (o0:tsmall t->0 + List.length (Trth.frm t)<=65536)
 (o1:tsmall t->0=(↑0:Int))
 (o2:tsmall t->0 + t.frm.length=t.frm.length)
 (o3:tsmall t->0<=List.length (Trth.minutes t))
 (o4:q70_1 t fun x0=>0<=(x0:Int))
 (o5:q70_1 t fun x0=>(x0:Int) < (↑(t.minutes.length):Int))
 (o6:q70_1 t fun x0=>0 + (t.minutes.getD x0 []).length<=65536)
 (o7:q70_1 t fun x0=>x0 + 1<=65536)
 (o8:q70_1 t fun x0=>inI ((x0:Int) + 1))
 (o9:q70_1 t fun x0=>(x0:Int) + 1=(↑(x0 + 1):Int))
 (o10:q70_1 t fun x0 => ∀ (i4:Nat),i4 < x0 + 1->catF x0 (fun (k:Nat)=>[aInts (tmin t k)]) (fun (j:Nat)=>List.getD [[AV.sl 1 (0 + (t.minutes.getD x0 []).length) fun (i:Nat)=>[iv ((t.minutes.getD x0 []).getD i 0)]]] j (TI.za ti30)) i4 = [aInts (tmin t i4)])
 (o11:q70_1 t fun x0=>x0 + 1<=t.minutes.length)
 (o12:q70_1 t fun x0=>t.minutes.length - (x0 + 1) < t.minutes.length - x0)
 (o13:q70_2 t fun x0=>x0=t.minutes.length)
 (o14:q70_2 t fun x0 => ∀ (i6:Nat),i6 < t.minutes.length -> [aInts (tmin t i6)] = [aInts (t.minutes.getD i6 [])]) :
  Triple Try.prog 70 (s70 t):=by
 refine triple_of Try.func70 rfl Try.call70 T0_ok _ rfl rfl rfl rfl (Nat.le_of_ble_eq_true (by kernel_rfl)) (fun _ _ _ _ h=>h) ?_
 intro hp C hC _ hE
 obtain ⟨P,w0,E0,av,hA⟩:=C
 subst hC
 refine swp_seq ?_
 refine sR (kt:=[1,2]) (kh:=[0,8]) (q:=True/\True/\True) (st':=ASt.mk [(1,.ptr 0 []),(2,.ptr 8 [])] [(0,.cells 56 (cTrth t)),(8,.cells 56 [nilv,nilv])] 16) (by kernel_rfl) ⟨tv,tv,tv⟩ ?_
 refine swp_seq ?_
 refine sR (kt:=[1,2,3]) (kh:=[0,8,56,40]) (q:=True/\True/\True/\0 + t.frm.length<=65536/\True/\True/\True/\True) (st':=ASt.mk [(1,.ptr 0 []),(2,.ptr 8 []),(3,.ptr 56 [])] [(0,.cells 56 (cTrth t)),(8,.cells 56 [nilv,nilv]),(56,.cells 56 [nilv,.vec 40]),(40,.vec 3 1 (0 + t.frm.length) fun (i:Nat)=>[iv (t.frm.getD i 0)])] 72) (by kernel_rfl) ⟨tv,tv,tv,(o0 hp),tv,tv,tv,tv⟩ ?_
 refine swp_seq (swp_seq ?_)
 refine sR (kt:=[1,2,3,4]) (kh:=[0,8,56,40]) (q:=True/\True) (st':=ASt.mk [(1,.ptr 0 []),(2,.ptr 8 []),(3,.ptr 56 []),(4,iv 0)] [(0,.cells 56 (cTrth t)),(8,.cells 56 [nilv,nilv]),(56,.cells 56 [nilv,.vec 40]),(40,.vec 3 1 (0 + t.frm.length) fun (i:Nat)=>[iv (t.frm.getD i 0)])] 80) (by kernel_rfl) ⟨tv,tv⟩ ?_
 refine swp_block ?_
 refine swp_loopA (Hint.ann (h70 t) [(1,AV.ptr 0 []),(2,AV.ptr 8 [])] [(0,OB.cells 56 (cTrth t)),(8,OB.cells 56 [nilv,nilv])] 10080) (ent_q hE [] [(0,.same 0),(8,.same 8),(5000,.same 56),(5001,.nil),(5002,.same 40)] [] [0,8] (((some (Src.same 0)=some (Src.same 0)/\nilP = [])/\(some (Src.same 8)=some (Src.same 8)/\nilP = [])/\(iv 0=iv (↑0:Int)/\nilN = [])/\(some (Src.same 56)=some (Src.same 56)/\nilP = [])/\True)/\((OB.cells 56 (cTrth t)=OB.cells 56 (cTrth t)/\true=true)/\(OB.cells 56 [nilv,nilv]=OB.cells 56 [nilv,nilv]/\true=true)/\(56=56/\(some Src.nil=some Src.nil/\some (Src.same 40)=some (Src.same 40)/\True)/\true=true)/\0=0/\(3=3/\1=1/\0 + t.frm.length=t.frm.length /\ ∀ (i1:Nat),i1 < 0 + t.frm.length -> [iv (t.frm.getD i1 0)] = [iv (t.frm.getD i1 0)])/\True)/\T2) (by kernel_rfl) (by kernel_rfl) ⟨⟨⟨rfl,rfl⟩,⟨rfl,rfl⟩,⟨(congrArg iv (o1 hp)),rfl⟩,⟨rfl,rfl⟩,tv⟩,⟨⟨rfl,rfl⟩,⟨rfl,rfl⟩,⟨rfl,⟨rfl,rfl,tv⟩,rfl⟩,rfl,⟨rfl,rfl,(o2 hp),(fun i1=>(fun h2=>rfl))⟩,tv⟩,rfl,rfl⟩) (o3 hp) (fun (x0:Nat) hx0 => ?_)
 refine swp_seq (swp_seq ?_)
 refine sR (kt:=[1,2,4,3,14]) (kh:=[0,8,5000,5001,5002]) (q:=True/\True/\True/\True/\True/\True) (st':=ASt.mk [(1,.ptr 0 []),(2,.ptr 8 []),(4,iv (x0:Int)),(3,.ptr 5000 []),(14,bv (decide ((x0:Int) < (↑(t.minutes.length):Int))))] [(0,.cells 56 (cTrth t)),(8,.cells 56 [nilv,nilv]),(5000,.cells 56 [.vec 5001,.vec 5002]),(5001,.vec 30 1 x0 fun (k:Nat)=>[aInts (tmin t k)]),(5002,.vec 3 1 t.frm.length fun (k:Nat)=>[iv (t.frm.getD k 0)])] 10120) (by kernel_rfl) ⟨tv,tv,tv,tv,tv,tv⟩ ?_
 refine swp_cond (decide ((x0:Int) < (↑(t.minutes.length):Int))) (by kernel_rfl) (fun h3 => ?_) (fun h3 => ?_)
 ·refine swp_skip (swp_seq (swp_block ?_))
  refine sR (kt:=[1,2,4,3]) (kh:=[0,8,5000,10200,5002]) (q:=True/\True/\True/\True/\True/\True/\(0<=(x0:Int)/\(x0:Int) < (↑(t.minutes.length):Int))/\True/\0 + (t.minutes.getD x0 []).length<=65536/\True/\x0 + 1<=65536/\True/\True/\True) (st':=ASt.mk [(1,.ptr 0 []),(2,.ptr 8 []),(4,iv (x0:Int)),(3,.ptr 5000 [])] [(0,.cells 56 (cTrth t)),(8,.cells 56 [nilv,nilv]),(5000,.cells 56 [.vec 10200,.vec 5002]),(10200,.vec 30 1 (x0 + 1) (catF x0 (fun (k:Nat)=>[aInts (tmin t k)]) fun (j:Nat)=>List.getD [[.sl 1 (0 + (t.minutes.getD x0 []).length) fun (i:Nat)=>[iv ((t.minutes.getD x0 []).getD i 0)]]] j (TI.za ti30))),(5002,.vec 3 1 t.frm.length fun (k:Nat)=>[iv (t.frm.getD k 0)])] 10224) (by kernel_rfl) ⟨tv,tv,tv,tv,tv,tv,⟨(o4 hp x0 hx0 h3),(o5 hp x0 hx0 h3)⟩,tv,(o6 hp x0 hx0 h3),tv,(o7 hp x0 hx0 h3),tv,tv,tv⟩ ?_
  refine sR (kt:=[1,2,4,3]) (kh:=[0,8,5000,10200,5002]) (q:=True/\inI ((x0:Int) + 1)/\True/\True) (st':=ASt.mk [(1,.ptr 0 []),(2,.ptr 8 []),(4,iv ((x0:Int) + 1)),(3,.ptr 5000 [])] [(0,.cells 56 (cTrth t)),(8,.cells 56 [nilv,nilv]),(5000,.cells 56 [.vec 10200,.vec 5002]),(10200,.vec 30 1 (x0 + 1) (catF x0 (fun (k:Nat)=>[aInts (tmin t k)]) fun (j:Nat)=>List.getD [[.sl 1 (0 + (t.minutes.getD x0 []).length) fun (i:Nat)=>[iv ((t.minutes.getD x0 []).getD i 0)]]] j (TI.za ti30))),(5002,.vec 3 1 t.frm.length fun (k:Nat)=>[iv (t.frm.getD k 0)])] 10248) (by kernel_rfl) ⟨tv,(o8 hp x0 hx0 h3),tv,tv⟩ ?_
  exact loop_next (Hint.ann (h70 t) [(1,AV.ptr 0 []),(2,AV.ptr 8 [])] [(0,OB.cells 56 (cTrth t)),(8,OB.cells 56 [nilv,nilv])] 10080) x0 (ent_q hE [] [(0,.same 0),(8,.same 8),(5000,.same 5000),(5001,.same 10200),(5002,.same 5002)] [] [0,8,5002] (((some (Src.same 0)=some (Src.same 0)/\nilP = [])/\(some (Src.same 8)=some (Src.same 8)/\nilP = [])/\(iv ((x0:Int) + 1)=iv (↑(x0 + 1):Int)/\nilN = [])/\(some (Src.same 5000)=some (Src.same 5000)/\nilP = [])/\True)/\((OB.cells 56 (cTrth t)=OB.cells 56 (cTrth t)/\true=true)/\(OB.cells 56 [nilv,nilv]=OB.cells 56 [nilv,nilv]/\true=true)/\(56=56/\(some (Src.same 10200)=some (Src.same 10200)/\some (Src.same 5002)=some (Src.same 5002)/\True)/\true=true)/\(30=30/\1=1/\x0 + 1=x0 + 1 /\ ∀ (i4:Nat),i4 < x0 + 1->catF x0 (fun (k:Nat)=>[aInts (tmin t k)]) (fun (j:Nat)=>List.getD [[AV.sl 1 (0 + (t.minutes.getD x0 []).length) fun (i:Nat)=>[iv ((t.minutes.getD x0 []).getD i 0)]]] j (TI.za ti30)) i4 = [aInts (tmin t i4)])/\(((OB.vec 3 1 t.frm.length fun (k:Nat)=>[iv (t.frm.getD k 0)])=OB.vec 3 1 t.frm.length fun (k:Nat)=>[iv (t.frm.getD k 0)])/\true=true)/\True)/\T2) (by kernel_rfl) (by kernel_rfl) ⟨⟨⟨rfl,rfl⟩,⟨rfl,rfl⟩,⟨(congrArg iv (o9 hp x0 hx0 h3)),rfl⟩,⟨rfl,rfl⟩,tv⟩,⟨⟨rfl,rfl⟩,⟨rfl,rfl⟩,⟨rfl,⟨rfl,rfl,tv⟩,rfl⟩,⟨rfl,rfl,rfl,(fun i4=>(fun h5=>(o10 hp x0 hx0 h3 i4 h5)))⟩,⟨rfl,rfl⟩,tv⟩,rfl,rfl⟩) (o11 hp x0 hx0 h3) (o12 hp x0 hx0 h3)
 ·refine swp_exit (swp_seq ?_)
  refine sR (kt:=[2]) (kh:=[8,5001,5002]) (q:=True/\True/\True) (st':=ASt.mk [(2,.ptr 8 [])] [(8,.cells 56 [.vec 5001,.vec 5002]),(5001,.vec 30 1 x0 fun (k:Nat)=>[aInts (tmin t k)]),(5002,.vec 3 1 t.frm.length fun (k:Nat)=>[iv (t.frm.getD k 0)])] 10136) (by kernel_rfl) ⟨tv,tv,tv⟩ ?_
  refine swp_ret ?_
  exact ret_q [5001,5002] ((True/\True)/\((1=1/\x0=t.minutes.length /\ ∀ (i6:Nat),i6 < t.minutes.length -> [aInts (tmin t i6)] = [aInts (t.minutes.getD i6 [])])/\(1=1/\t.frm.length=t.frm.length /\ ∀ (i8:Nat),i8 < t.frm.length -> [iv (t.frm.getD i8 0)] = [iv (t.frm.getD i8 0)])/\True)/\T3) (by kernel_rfl) ⟨⟨tv,tv⟩,⟨⟨rfl,(o13 hp x0 hx0 h3),(fun i6=>(fun h7=>(o14 hp x0 hx0 h3 i6 h7)))⟩,⟨rfl,rfl,(fun i8=>(fun h9=>rfl))⟩,tv⟩,rfl,rfl,rfl⟩
theorem t70 (t:Trth):Triple Try.prog 70 (s70 t):=by
  apply w70
  all_goals (first
    | ((repeat intro _) <;> (try simp only [v0,v1,v2,v3,v4,v5,v6,v7,v8,v9,inI,fits,Go.Sh.small] at *) <;> first | (exact rfl) | omega | exact vz | (simp_all; done) | (simp_all; omega))
    | (intro hp; have h1:=hp.1; have h2:=hp.2.1
       first
       | omega
       | (intro x hx hl
          have h3:(t.minutes.getD x []).length<=65536:=hp.2.2 x
          simp only [decide_eq_true_eq,decide_eq_false_iff_not] at hl
          first
          | omega
          | (simp only [inI]; omega)
          | (intro i hi; exact catF_idx (fun k=>[aInts (tmin t k)]) (by simp only [aInts,tmin,Nat.zero_add]) hi))))
end Go.Ab
namespace Go.Sh
def eqv (v x:Int):Bool:=decide (v=x)
theorem isIn_any (l:List Int) (v:Int):decide (0<=idxF l (eqv v))=isIn l v:=by
 rw [idxF_any,isIn]
 congr 1
 funext x
 unfold eqv
 by_cases h:v=x
 ·simp [h]
 ·have:¬ x=v:=fun e=>h e.symm
  simp [h,this]
def showsP (c:Fnd) (p:Nat) (n:Int):Bool:=if c.new.getD p 0=0 then decide (c.minute < n) else if c.new.getD p 0=1 then decide (n<=c.minute) else true
theorem shows_eq {c:Fnd} {p:Nat} (n:Int) (h : -1<=c.new.getD p 0/\c.new.getD p 0<=1):showsP c p n=(decide (c.new.getD p 0 = -1) || (decide (c.new.getD p 0=1) == decide (n<=c.minute))):=by
 unfold showsP
 generalize c.new.getD p 0=x at *
 have:x = -1 ∨ x=0 ∨ x=1:=by omega
 rcases this with rfl | rfl | rfl
 ·simp
 ·by_cases e:n<=c.minute
  ·simp [e]; try omega
  ·simp [e]; try omega
 ·simp
def wRow (w:WayS) (m n:Nat):List Int:=(List.range n).map fun p=>(w.whn m p).lo
def wRows (w:WayS) (k n:Nat):List (List Int):=(List.range n).map fun m=>wRow w m k
theorem wRow_get (w:WayS) (m:Nat) {n k:Nat} (h:k < n):(wRow w m n).getD k 0=(w.whn m k).lo:=by
 rw [wRow,Go.Ab.getD_lt _ _ (by simpa using h)]; simp
theorem wRow_len (w:WayS) (m n:Nat):(wRow w m n).length=n:=by simp [wRow]
theorem wRows_len (w:WayS) (k n:Nat):(wRows w k n).length=n:=by simp [wRows]
theorem wRows_get (w:WayS) (k:Nat) {n i:Nat} (h:i < n):(wRows w k n).getD i []=wRow w i k:=by
 rw [wRows,Go.Ab.getD_lt _ _ (by simpa using h)]; simp
def truthP (r:Run):Trth:=if openE r true=0 then ⟨wRows ((waysOf r).getD 0 default) r.plates.toNat r.machines.length,((waysOf r).getD 0 default).frm⟩ else ⟨[],[]⟩
def logTo (l:List Int) (j:Nat):List (Int × Int):=(List.range j).foldl (fun es i=>es ++ [(l.getD i 0,Go.Ab.mlook es (l.getD i 0) + 1)]) []
theorem logTo_succ (l:List Int) (j:Nat):logTo l (j + 1)=logTo l j ++ [(l.getD j 0,Go.Ab.mlook (logTo l j) (l.getD j 0) + 1)]:=Go.Ab.foldl_range_succ _ _ _
theorem logTo_len (l:List Int):∀ j,(logTo l j).length=j:=by
 intro j
 induction j with
 | zero=>rfl
 | succ j ih=>rw [logTo_succ,List.length_append,ih]; rfl
theorem logTo_look (l:List Int) (k:Int):∀ j,0<=Go.Ab.mlook (logTo l j) k/\Go.Ab.mlook (logTo l j) k<=j:=by
 intro j
 induction j with
 | zero=>exact ⟨Int.le_refl 0,Int.le_refl 0⟩
 | succ j ih =>
  rw [logTo_succ,Go.Ab.mlook_snoc]
  split
  ·rename_i e
   simp only at e ⊢
   rw [e]; omega
  ·omega
def usedW (l:List Int):Nat:=(Go.Ab.mkeys (logTo l l.length)).length
def fewPTo (r:Run) (l:List WayS) (n:Nat):Int:=(List.range n).foldl (fun o i=>min o (usedW (l.getD i default).frm:Int)) r.machines.length
theorem fewPTo_succ (r:Run) (l:List WayS) (n:Nat):fewPTo r l (n + 1)=min (fewPTo r l n) (usedW (l.getD n default).frm:Int):=Go.Ab.foldl_range_succ _ _ _
def fewP (r:Run):Int:=if openE r true=0 then fewPTo r (waysOf r) (waysOf r).length else 0
end Go.Sh
namespace Go.Ab
open Go Go.RowKit Go.Proofs Go.Sh Go.En
def s145 (l:List Int) (v:Int):CallSpec:={ args:=[aInts l,iv v],res:=iv (idxF l (eqv v)),pre:=l.length<=1125899906842624 }
def h145 (l:List Int) (v:Int):Hint:={ X:=Nat,M:=fun i=>[(8,iv i)],I:=fun i=>i<=l.length /\ ∀ j,j < i->eqv v (l.getD j 0)=false,mu:=fun i=>l.length - i,x0:=(0:Nat),nx:=fun i=>i + 1 }
def s137 (l:List Int) (v:Int):CallSpec:={ args:=[aInts l,iv v],res:=bv (isIn l v),pre:=l.length<=1125899906842624 }
def s138 (c:Fnd) (p:Nat) (n:Int):CallSpec:={ args:=[vFnd c,iv p,iv n],res:=bv (showsP c p n),pre:=p < c.new.length }
def s115 (r:Run) (t:Trth):CallSpec:={ args:=[vRun r,vTrth t],res:=bv (isTruth r t),pre:=okRun r=true/\tfits t }
def h115a (r:Run) (t:Trth):Hint:={ X:=Nat,M:=fun i=>[(32,iv i)],I:=fun i=>i<=r.machines.length /\ ∀ j,j < i->trM r t j=true,mu:=fun i=>r.machines.length - i,x0:=(0:Nat),nx:=fun i=>i + 1 }
def h115b (r:Run) (t:Trth) (m:Nat):Hint:={ X:=Nat,M:=fun i=>[(44,iv i)],I:=fun i=>i<=r.plates.toNat /\ ∀ j,j < i->trM1 r t m j=true,mu:=fun i=>r.plates.toNat - i,x0:=(0:Nat),nx:=fun i=>i + 1 }
def h115c (r:Run) (t:Trth):Hint:={ X:=Nat,M:=fun i=>[(70,iv i)],I:=fun i=>i<=r.found.length /\ ∀ j,j < i->trF r t j=true,mu:=fun i=>r.found.length - i,x0:=(0:Nat),nx:=fun i=>i + 1 }
def h115d (r:Run) (t:Trth) (f:Nat):Hint:={ X:=Nat,M:=fun i=>[(87,iv i)],I:=fun i=>i<=r.plates.toNat /\ ∀ j,j < i->trF1 r t f j=true,mu:=fun i=>r.plates.toNat - i,x0:=(0:Nat),nx:=fun i=>i + 1 }
def c115 (r:Run) (t:Trth) (i p:Nat):CallSpec:=s138 (fnd r i) p (tAt t (t.frm.getD i 0).toNat p)
def s72 (r:Run) (t:Trth):CallSpec:={ args:=[vRun r,vTrth t],res := .tup [bv (holdsB r t),iv (check r)],pre:=fits r/\tfits t }
def s41 (r:Run):CallSpec:={ args:=[vRun r],res := .tup [vTrth (truthP r),iv (openE r true)],pre:=fits r }
def h41a (r:Run):Hint:={ X:=Nat,M:=fun m=>[(28,iv m),(6,.ptr 5000 [])],H:=fun m=>[(5000,.cells 56 [.vec 5001,aInts ((openL r true).getD 0 default).frm]),(5001,.vec 30 1 m (fun k=>[aInts (wRow ((openL r true).getD 0 default) k r.plates.toNat)]))],I:=fun m=>m<=r.machines.length,mu:=fun m=>r.machines.length - m,x0:=(0:Nat),nx:=fun m=>m + 1 }
def h41b (r:Run) (m:Nat):Hint:={ X:=Nat,M:=fun p=>[(40,iv p),(8,.vec 5002)],H:=fun p=>[(5002,.vec 3 1 p (fun k=>[iv ((wRow ((openL r true).getD 0 default) m r.plates.toNat).getD k 0)]))],I:=fun p=>p<=r.plates.toNat,mu:=fun p=>r.plates.toNat - p,x0:=(0:Nat),nx:=fun p=>p + 1 }
def s22 (r:Run):CallSpec:={ args:=[vRun r],res := .tup [iv (fewP r),iv (openE r true)],pre:=fits r }
def h22a (r:Run):Hint:={ X:=Nat,M:=fun i=>[(25,iv i),(6,iv (fewPTo r (openL r true) i))],I:=fun i=>i<=(openL r true).length,mu:=fun i=>(openL r true).length - i,x0:=(0:Nat),nx:=fun i=>i + 1 }
def h22b (r:Run) (i:Nat):Hint:={ X:=Nat,M:=fun j=>[(33,iv j),(9,.vec 5000)],H:=fun j=>[(5000,.mp 108 (logTo ((openL r true).getD i default).frm j))],I:=fun j=>j<=((openL r true).getD i default).frm.length,mu:=fun j=>((openL r true).getD i default).frm.length - j,x0:=(0:Nat),nx:=fun j=>j + 1 }
end Go.Ab
namespace Go.Ab
open Go Go.RowKit Go.Proofs Go.Sh Go.En
abbrev q145_1 (l:List Int) (v:Int) (C:Nat->Prop):Prop:=l.length<=1125899906842624 -> ∀ (x0:Nat),(x0<=l.length /\ ∀ (j:Nat),j < x0->eqv v (l.getD j 0)=false)->C x0
abbrev q145_2 (l:List Int) (v:Int) (C:Nat->Prop):Prop:=q145_1 l v fun x0=>decide ((x0:Int) < (↑(l.length):Int))=true->C x0
abbrev q145_3 (l:List Int) (v:Int) (C:Nat->Prop):Prop:=q145_2 l v fun x0=>decide (v=l.getD x0 0)=false->C x0
theorem w145 (l:List Int) (v:Int)
 (o0:List.length l<=1125899906842624->0=(↑0:Int))
 (o1:l.length<=1125899906842624->0<=l.length /\ ∀ (j:Nat),j < 0->eqv v (l.getD j 0)=false)
 (o2:q145_2 l v fun x0=>0<=(x0:Int))
 (o3:q145_2 l v fun x0=>(x0:Int) < (↑(l.length):Int))
 (o4:q145_2 l v fun x0=>decide (v=l.getD x0 0)=true->(x0:Int)=idxF l (eqv v))
 (o5:q145_3 l v fun x0=>inI ((x0:Int) + 1))
 (o6:q145_3 l v fun x0=>(x0:Int) + 1=(↑(x0 + 1):Int))
 (o7:q145_3 l v fun x0=>x0 + 1<=l.length /\ ∀ (j:Nat),j < x0 + 1->eqv v (l.getD j 0)=false)
 (o8:q145_3 l v fun x0=>l.length - (x0 + 1) < l.length - x0)
 (o9:q145_1 l v fun x0=>decide ((x0:Int) < (↑(l.length):Int))=false -> -1=idxF l (eqv v)) :
  Triple Try.prog 145 (s145 l v):=by
 refine triple_of Try.func145 rfl Try.call145 T0_ok _ rfl rfl rfl rfl (Nat.le_of_ble_eq_true (by kernel_rfl)) (fun _ _ _ _ h=>h) ?_
 intro hp C hC _ hE
 obtain ⟨P,w0,E0,av,hA⟩:=C
 subst hC
 refine swp_seq ?_
 refine sR (kt:=[0,1]) (kh:=[]) (q:=True/\True) (st':=ASt.mk [(0,aInts l),(1,iv v)] [] 8) (by kernel_rfl) ⟨tv,tv⟩ ?_
 refine swp_seq (swp_seq ?_)
 refine sR (kt:=[0,1,7,8]) (kh:=[]) (q:=True/\True/\True/\True) (st':=ASt.mk [(0,aInts l),(1,iv v),(7,iv (↑(l.length):Int)),(8,iv 0)] [] 32) (by kernel_rfl) ⟨tv,tv,tv,tv⟩ ?_
 refine swp_block ?_
 refine swp_loopA (Hint.ann (h145 l v) [(0,aInts l),(1,iv v),(7,iv (↑(l.length):Int))] [] 10032) (ent_q hE [] [] [0,1,7] [] (((aInts l=aInts l/\true=true)/\(iv v=iv v/\true=true)/\(iv (↑(l.length):Int)=iv (↑(l.length):Int)/\true=true)/\(iv 0=iv (↑0:Int)/\nilN = [])/\True)/\True/\T2) (by kernel_rfl) (by kernel_rfl) ⟨⟨⟨rfl,rfl⟩,⟨rfl,rfl⟩,⟨rfl,rfl⟩,⟨(congrArg iv (o0 hp)),rfl⟩,tv⟩,tv,rfl,rfl⟩) (o1 hp) (fun (x0:Nat) hx0 => ?_)
 refine swp_seq ?_
 refine sR (kt:=[0,1,7,8,9]) (kh:=[]) (q:=True/\True) (st':=ASt.mk [(0,aInts l),(1,iv v),(7,iv (↑(l.length):Int)),(8,iv (x0:Int)),(9,bv (decide ((x0:Int) < (↑(l.length):Int))))] [] 10040) (by kernel_rfl) ⟨tv,tv⟩ ?_
 refine swp_seq ?_
 refine swp_cond (decide ((x0:Int) < (↑(l.length):Int))) (by kernel_rfl) (fun h1 => ?_) (fun h1 => ?_)
 ·refine swp_skip (swp_seq (swp_block (swp_seq ?_)))
  refine sR (kt:=[0,1,7,8,5]) (kh:=[]) (q:=True/\True/\True) (st':=ASt.mk [(0,aInts l),(1,iv v),(7,iv (↑(l.length):Int)),(8,iv (x0:Int)),(5,iv (x0:Int))] [] 10056) (by kernel_rfl) ⟨tv,tv,tv⟩ ?_
  refine swp_seq ?_
  refine sR (kt:=[0,1,7,8,5,16]) (kh:=[]) (q:=True/\True/\True/\(0<=(x0:Int)/\(x0:Int) < (↑(l.length):Int))/\True/\True/\True) (st':=ASt.mk [(0,aInts l),(1,iv v),(7,iv (↑(l.length):Int)),(8,iv (x0:Int)),(5,iv (x0:Int)),(16,bv (decide (v=l.getD x0 0)))] [] 10104) (by kernel_rfl) ⟨tv,tv,tv,⟨(o2 hp x0 hx0 h1),(o3 hp x0 hx0 h1)⟩,tv,tv,tv⟩ ?_
  refine swp_cond (decide (v=l.getD x0 0)) (by kernel_rfl) (fun h2 => ?_) (fun h2 => ?_)
  ·refine swp_seq ?_
   refine sR (kt:=[4]) (kh:=[]) (q:=True/\True/\True) (st':=ASt.mk [(4,iv (x0:Int))] [] 10120) (by kernel_rfl) ⟨tv,tv,tv⟩ ?_
   refine swp_ret ?_
   exact ret_q [] ((True/\True)/\(iv (x0:Int)=iv (idxF l (eqv v))/\nilN = [])/\T3) (by kernel_rfl) ⟨⟨tv,tv⟩,⟨(congrArg iv (o4 hp x0 hx0 h1 h2)),rfl⟩,rfl,rfl,rfl⟩
  ·refine swp_skip ?_
   refine sR (kt:=[0,1,7,8]) (kh:=[]) (q:=inI ((x0:Int) + 1)/\True/\True) (st':=ASt.mk [(0,aInts l),(1,iv v),(7,iv (↑(l.length):Int)),(8,iv ((x0:Int) + 1))] [] 10120) (by kernel_rfl) ⟨(o5 hp x0 hx0 h1 h2),tv,tv⟩ ?_
   exact loop_next (Hint.ann (h145 l v) [(0,aInts l),(1,iv v),(7,iv (↑(l.length):Int))] [] 10032) x0 (ent_q hE [] [] [0,1,7] [] (((aInts l=aInts l/\true=true)/\(iv v=iv v/\true=true)/\(iv (↑(l.length):Int)=iv (↑(l.length):Int)/\true=true)/\(iv ((x0:Int) + 1)=iv (↑(x0 + 1):Int)/\nilN = [])/\True)/\True/\T2) (by kernel_rfl) (by kernel_rfl) ⟨⟨⟨rfl,rfl⟩,⟨rfl,rfl⟩,⟨rfl,rfl⟩,⟨(congrArg iv (o6 hp x0 hx0 h1 h2)),rfl⟩,tv⟩,tv,rfl,rfl⟩) (o7 hp x0 hx0 h1 h2) (o8 hp x0 hx0 h1 h2)
 ·refine swp_exit (swp_seq ?_)
  refine sR (kt:=[4]) (kh:=[]) (q:=True/\True) (st':=ASt.mk [(4,iv (-1))] [] 10048) (by kernel_rfl) ⟨tv,tv⟩ ?_
  refine swp_ret ?_
  exact ret_q [] ((True/\True)/\(iv (-1)=iv (idxF l (eqv v))/\nilN = [])/\T3) (by kernel_rfl) ⟨⟨tv,tv⟩,⟨(congrArg iv (o9 hp x0 hx0 h1)),rfl⟩,rfl,rfl,rfl⟩
theorem t145 (l:List Int) (v:Int):Triple Try.prog 145 (s145 l v):=by
  apply w145
  all_goals (first
    | ((repeat intro _) <;> (try simp only [v0,v1,v2,v3,v4,v5,v6,v7,v8,v9,inI,fits,Go.Sh.small] at *) <;> first | (exact rfl) | omega | exact vz | (simp_all; done) | (simp_all; omega))
    | (intro hp x hx hl e
       simp only [decide_eq_true_eq,decide_eq_false_iff_not] at hl
       first
       | (rw [idxF_found (by omega) hx.2 e]; done)
       | exact ⟨by omega,lt_succ_cases hx.2 e⟩)
    | (intro hp x hx hl
       simp only [decide_eq_false_iff_not] at hl
       rw [idxF_none (fun j hj=>hx.2 j (by omega))]))
theorem w137 (l:List Int) (v:Int)
  (o0:l.length<=1125899906842624->decide (0<=idxF l (eqv v))=isIn l v) :
  Triple Try.prog 137 (s137 l v):=by
 refine triple_of Try.func137 rfl Try.call137 T0_ok _ rfl rfl rfl rfl (Nat.le_of_ble_eq_true (by kernel_rfl)) (fun _ _ _ _ h=>h) ?_
 intro hp C hC _ hE
 obtain ⟨P,w0,E0,av,hA⟩:=C
 subst hC
 refine swp_seq ?_
 refine sR (kt:=[0,1]) (kh:=[]) (q:=True/\True) (st':=ASt.mk [(0,aInts l),(1,iv v)] [] 8) (by kernel_rfl) ⟨tv,tv⟩ ?_
 refine swp_seq ?_
 refine swp_region T0_ok mixed (cs:=[(2,CallSpec.eq (s145 l v) [true,true])]) (kt:=[4]) (kh:=[]) (q:=True/\True/\((aInts l=aInts l/\iv v=iv v/\True)/\Triple Try.prog 145 (s145 l v)/\l.length<=1125899906842624/\True /\ ∀ (i0:Env),True)/\True/\True/\True) (st':=ASt.mk [(4,bv (decide (0<=idxF l (eqv v))))] [] 48) (by kernel_rfl) ⟨tv,tv,⟨⟨rfl,rfl,tv⟩,(t145 (l) (v)),hp,tv,(fun i0=>tv)⟩,tv,tv,tv⟩ ?_
 refine swp_ret ?_
 exact ret_q [] ((True/\True)/\(bv (decide (0<=idxF l (eqv v)))=bv (isIn l v)/\nilN = [])/\T3) (by kernel_rfl) ⟨⟨tv,tv⟩,⟨(congrArg bv (o0 hp)),rfl⟩,rfl,rfl,rfl⟩
theorem t137 (l:List Int) (v:Int):Triple Try.prog 137 (s137 l v):=by
 apply w137
 all_goals ((repeat intro _); first | assumption | exact isIn_any l v)
theorem w138 (c:Fnd) (p:Nat) (n:Int)
 (o0:p < List.length (Fnd.new c)->0<=(↑p:Int))
 (o1:p < c.new.length->(p:Int) < (↑(c.new.length):Int))
 (o2:p < c.new.length->decide (c.new.getD p 0=0)=true->decide (c.minute < n)=showsP c p n)
 (o3:p < c.new.length->decide (c.new.getD p 0=0)=false->decide (c.new.getD p 0=1)=true->decide (n<=c.minute)=showsP c p n)
 (o4:p < c.new.length->decide (c.new.getD p 0=0)=false->decide (c.new.getD p 0=1)=false->true=showsP c p n) :
  Triple Try.prog 138 (s138 c p n):=by
 refine triple_of Try.func138 rfl Try.call138 T0_ok _ rfl rfl rfl rfl (Nat.le_of_ble_eq_true (by kernel_rfl)) (fun _ _ _ _ h=>h) ?_
 intro hp C hC _ hE
 obtain ⟨P,w0,E0,av,hA⟩:=C
 subst hC
 refine swp_seq ?_
 refine sR (kt:=[1,2,3]) (kh:=[0]) (q:=True/\True/\True) (st':=ASt.mk [(1,iv (p:Int)),(2,iv n),(3,.ptr 0 [])] [(0,.cells 32 (cFnd c))] 16) (by kernel_rfl) ⟨tv,tv,tv⟩ ?_
 refine swp_seq (swp_seq ?_)
 refine sR (kt:=[2,3,11]) (kh:=[0]) (q:=True/\True/\True/\(0<=(p:Int)/\(p:Int) < (↑(c.new.length):Int))/\True/\True) (st':=ASt.mk [(2,iv n),(3,.ptr 0 []),(11,iv (c.new.getD p 0))] [(0,.cells 32 (cFnd c))] 56) (by kernel_rfl) ⟨tv,tv,tv,⟨(o0 hp),(o1 hp)⟩,tv,tv⟩ ?_
 refine swp_block (swp_seq ?_)
 refine sR (kt:=[2,3,11,12]) (kh:=[0]) (q:=True/\True/\True) (st':=ASt.mk [(2,iv n),(3,.ptr 0 []),(11,iv (c.new.getD p 0)),(12,bv (decide (c.new.getD p 0=0)))] [(0,.cells 32 (cFnd c))] 72) (by kernel_rfl) ⟨tv,tv,tv⟩ ?_
 refine swp_cond (decide (c.new.getD p 0=0)) (by kernel_rfl) (fun h0 => ?_) (fun h0 => ?_)
 ·refine swp_seq ?_
  refine sR (kt:=[6]) (kh:=[]) (q:=True/\True/\True/\True/\True/\True) (st':=ASt.mk [(6,bv (decide (c.minute < n)))] [] 112) (by kernel_rfl) ⟨tv,tv,tv,tv,tv,tv⟩ ?_
  refine swp_ret ?_
  exact ret_q [] ((True/\True)/\(bv (decide (c.minute < n))=bv (showsP c p n)/\nilN = [])/\T3) (by kernel_rfl) ⟨⟨tv,tv⟩,⟨(congrArg bv (o2 hp h0)),rfl⟩,rfl,rfl,rfl⟩
 ·refine swp_seq ?_
  refine sR (kt:=[2,3,18]) (kh:=[0]) (q:=True/\True/\True) (st':=ASt.mk [(2,iv n),(3,.ptr 0 []),(18,bv (decide (c.new.getD p 0=1)))] [(0,.cells 32 (cFnd c))] 88) (by kernel_rfl) ⟨tv,tv,tv⟩ ?_
  refine swp_cond (decide (c.new.getD p 0=1)) (by kernel_rfl) (fun h1 => ?_) (fun h1 => ?_)
  ·refine swp_seq ?_
   refine sR (kt:=[6]) (kh:=[]) (q:=True/\True/\True/\True/\True/\True) (st':=ASt.mk [(6,bv (decide (n<=c.minute)))] [] 128) (by kernel_rfl) ⟨tv,tv,tv,tv,tv,tv⟩ ?_
   refine swp_ret ?_
   exact ret_q [] ((True/\True)/\(bv (decide (n<=c.minute))=bv (showsP c p n)/\nilN = [])/\T3) (by kernel_rfl) ⟨⟨tv,tv⟩,⟨(congrArg bv (o3 hp h0 h1)),rfl⟩,rfl,rfl,rfl⟩
  ·refine swp_skip (swp_seq ?_)
   refine sR (kt:=[6]) (kh:=[]) (q:=True/\True) (st':=ASt.mk [(6,bv true)] [] 96) (by kernel_rfl) ⟨tv,tv⟩ ?_
   refine swp_ret ?_
   exact ret_q [] ((True/\True)/\(bv true=bv (showsP c p n)/\nilN = [])/\T3) (by kernel_rfl) ⟨⟨tv,tv⟩,⟨(congrArg bv (o4 hp h0 h1)),rfl⟩,rfl,rfl,rfl⟩
theorem t138 (c:Fnd) (p:Nat) (n:Int):Triple Try.prog 138 (s138 c p n):=by
 apply w138
 all_goals (first
  | ((repeat intro _) <;> (try simp only [v0,v1,v2,v3,v4,v5,v6,v7,v8,v9,inI,fits,Go.Sh.small] at *) <;> first | (exact rfl) | omega | exact vz | (simp_all; done) | (simp_all; omega))
  | (intro hp e; simp only [decide_eq_true_eq] at e; rw [showsP,if_pos e]; done)
  | (intro hp e e2; simp only [decide_eq_true_eq,decide_eq_false_iff_not] at e e2; rw [showsP,if_neg e,if_pos e2]; done)
  | (intro hp e e2; simp only [decide_eq_true_eq,decide_eq_false_iff_not] at e e2; rw [showsP,if_neg e,if_neg e2]; done))
abbrev q115_1 (r:Run) (t:Trth) (C:Prop):Prop:=okRun r=true/\tfits t->(bif !decide ((↑(t.minutes.length):Int)=(↑(r.machines.length):Int)) then true else !decide ((↑(t.frm.length):Int)=(↑(r.found.length):Int)))=false->C
abbrev q115_2 (r:Run) (t:Trth) (C:Nat->Prop):Prop:=q115_1 r t (∀ (x16:Nat),(x16<=r.machines.length /\ ∀ (j:Nat),j < x16->trM r t j=true)->decide ((x16:Int) < (↑(t.minutes.length):Int))=true->C x16)
abbrev q115_3 (r:Run) (t:Trth) (C:Nat->Prop):Prop:=q115_2 r t fun x16=>(!decide ((↑((t.minutes.getD x16 []).length):Int)=r.plates))=false->C x16
abbrev q115_4 (r:Run) (t:Trth) (C:Nat->Nat->Prop):Prop:=q115_3 r t fun x16 => ∀ (x19:Nat),(x19<=r.plates.toNat /\ ∀ (j:Nat),j < x19->trM1 r t x16 j=true)->decide ((x19:Int) < (↑((t.minutes.getD x16 []).length):Int))=true->C x16 x19
abbrev q115_5 (r:Run) (t:Trth) (C:Nat->Nat->Prop):Prop:=q115_4 r t fun x16 x19=>(!within ((t.minutes.getD x16 []).getD x19 0) ((mach r x16).changes.getD x19 default).lo ((mach r x16).changes.getD x19 default).hi)=false->C x16 x19
abbrev q115_6 (r:Run) (t:Trth) (C:Nat->Nat->Prop):Prop:=q115_3 r t fun x16 => ∀ (x19:Nat),(x19<=r.plates.toNat /\ ∀ (j:Nat),j < x19->trM1 r t x16 j=true)->decide ((x19:Int) < (↑((t.minutes.getD x16 []).length):Int))=false->C x16 x19
abbrev q115_7 (r:Run) (t:Trth) (C:Nat->Prop):Prop:=q115_1 r t (∀ (x16:Nat),(x16<=r.machines.length /\ ∀ (j:Nat),j < x16->trM r t j=true)->decide ((x16:Int) < (↑(t.minutes.length):Int))=false->C x16)
abbrev q115_8 (r:Run) (t:Trth) (C:Nat->Nat->Prop):Prop:=q115_7 r t fun x16 => ∀ (x23:Nat),(x23<=r.found.length /\ ∀ (j:Nat),j < x23->trF r t j=true)->decide ((x23:Int) < (↑(r.found.length):Int))=true->C x16 x23
abbrev q115_9 (r:Run) (t:Trth) (C:Nat->Nat->Nat->Prop):Prop:=q115_8 r t fun x16 x23=>(!isIn (fnd r x23).frm (t.frm.getD x23 0))=false -> ∀ (x27:Nat),(x27<=r.plates.toNat /\ ∀ (j:Nat),j < x27->trF1 r t x23 j=true)->C x16 x23 x27
abbrev q115_10 (r:Run) (t:Trth) (C:Nat->Nat->Nat->Prop):Prop:=q115_9 r t fun x16 x23 x27=>decide ((x27:Int) < (↑((fnd r x23).new.length):Int))=true->C x16 x23 x27
abbrev q115_11 (r:Run) (t:Trth) (C:Nat->Nat->Nat->Prop):Prop:=q115_10 r t fun x16 x23 x27=>(!showsP (fnd r x23) x27 (tAt t (t.frm.getD x23 0).toNat x27))=false->C x16 x23 x27
abbrev q115_12 (r:Run) (t:Trth) (C:Nat->Nat->Nat->Prop):Prop:=q115_9 r t fun x16 x23 x27=>decide ((x27:Int) < (↑((fnd r x23).new.length):Int))=false->C x16 x23 x27
theorem w115 (r:Run) (t:Trth)
 (o0:okRun r=true/\tfits t->(!decide ((↑(t.minutes.length):Int)=(↑(r.machines.length):Int)))=false->(!!decide ((↑(t.minutes.length):Int)=(↑(r.machines.length):Int)))=true)
 (o1:okRun r=true/\tfits t->(bif !decide ((↑(t.minutes.length):Int)=(↑(r.machines.length):Int)) then true else !decide ((↑(t.frm.length):Int)=(↑(r.found.length):Int)))=true->false=isTruth r t)
 (o2:q115_1 r t (0=(↑0:Int)))
 (o3:q115_1 r t (0<=r.machines.length /\ ∀ (j:Nat),j < 0->trM r t j=true))
 (o4:q115_2 r t fun x16=>0<=(x16:Int))
 (o5:q115_2 r t fun x16=>(x16:Int) < (↑(t.minutes.length):Int))
 (o6:q115_2 r t fun x16=>(!decide ((↑((t.minutes.getD x16 []).length):Int)=r.plates))->false=isTruth r t)
 (o7:q115_3 r t fun x16=>0=(↑0:Int))
 (o8:q115_3 r t fun x16=>0<=r.plates.toNat /\ ∀ (j:Nat),j < 0->trM1 r t x16 j=true)
 (o9:q115_4 r t fun x16 x19=>0<=(x19:Int))
 (o10:q115_4 r t fun x16 x19=>(x19:Int) < (↑((t.minutes.getD x16 []).length):Int))
 (o11:q115_4 r t fun x16 x19=>0<=(x16:Int))
 (o12:q115_4 r t fun x16 x19=>(x16:Int) < (↑(r.machines.length):Int))
 (o13:q115_4 r t fun x16 x19=>0<=(x19:Int))
 (o14:q115_4 r t fun x16 x19=>(x19:Int) < (↑((mach r x16).changes.length):Int))
 (o15:q115_4 r t fun x16 x19=>(!within ((t.minutes.getD x16 []).getD x19 0) ((mach r x16).changes.getD x19 default).lo ((mach r x16).changes.getD x19 default).hi)=true->false=isTruth r t)
 (o16:q115_5 r t fun x16 x19=>inI ((x19:Int) + 1))
 (o17:q115_5 r t fun x16 x19=>(x19:Int) + 1=(↑(x19 + 1):Int))
 (o18:q115_5 r t fun x16 x19=>x19 + 1<=r.plates.toNat /\ ∀ (j:Nat),j < x19 + 1->trM1 r t x16 j=true)
 (o19:q115_5 r t fun x16 x19=>r.plates.toNat - (x19 + 1) < r.plates.toNat - x19)
 (o20:q115_6 r t fun x16 x19=>inI ((x16:Int) + 1))
 (o21:q115_6 r t fun x16 x19=>(x16:Int) + 1=(↑(x16 + 1):Int))
 (o22:q115_6 r t fun x16 x19=>x16 + 1<=r.machines.length /\ ∀ (j:Nat),j < x16 + 1->trM r t j=true)
 (o23:q115_6 r t fun x16 x19=>r.machines.length - (x16 + 1) < r.machines.length - x16)
 (o24:q115_7 r t fun x16=>0=(↑0:Int))
 (o25:q115_7 r t fun x16=>0<=r.found.length /\ ∀ (j:Nat),j < 0->trF r t j=true)
 (o26:q115_8 r t fun x16 x23=>0<=(x23:Int))
 (o27:q115_8 r t fun x16 x23=>(x23:Int) < (↑(r.found.length):Int))
 (o28:q115_8 r t fun x16 x23=>0<=(x23:Int))
 (o29:q115_8 r t fun x16 x23=>(x23:Int) < (↑(t.frm.length):Int))
 (o30:q115_8 r t fun x16 x23=>(fnd r x23).frm.length<=1125899906842624)
 (o31:q115_8 r t fun x16 x23=>(!isIn (fnd r x23).frm (t.frm.getD x23 0))=true->false=isTruth r t)
 (o32:q115_8 r t fun x16 x23=>(!isIn (fnd r x23).frm (t.frm.getD x23 0))=false->0=(↑0:Int))
 (o33:q115_8 r t fun x16 x23=>(!isIn (fnd r x23).frm (t.frm.getD x23 0))=false->0<=r.plates.toNat /\ ∀ (j:Nat),j < 0->trF1 r t x23 j=true)
 (o34:q115_10 r t fun x16 x23 x27=>0<=(x23:Int))
 (o35:q115_10 r t fun x16 x23 x27=>(x23:Int) < (↑(t.frm.length):Int))
 (o36:q115_10 r t fun x16 x23 x27=>0<=t.frm.getD x23 0)
 (o37:q115_10 r t fun x16 x23 x27=>t.frm.getD x23 0 < (↑(t.minutes.length):Int))
 (o38:q115_10 r t fun x16 x23 x27=>0<=(x27:Int))
 (o39:q115_10 r t fun x16 x23 x27=>(x27:Int) < (↑((t.minutes.getD (t.frm.getD x23 0).toNat []).length):Int))
 (o40:q115_10 r t fun x16 x23 x27=>(t.minutes.getD (t.frm.getD x23 0).toNat []).getD x27 0=tAt t (t.frm.getD x23 0).toNat x27)
 (o41:q115_10 r t fun x16 x23 x27=>x27 < (fnd r x23).new.length)
 (o42:q115_10 r t fun x16 x23 x27=>(!showsP (fnd r x23) x27 (tAt t (t.frm.getD x23 0).toNat x27))=true->false=isTruth r t)
 (o43:q115_11 r t fun x16 x23 x27=>inI ((x27:Int) + 1))
 (o44:q115_11 r t fun x16 x23 x27=>(x27:Int) + 1=(↑(x27 + 1):Int))
 (o45:q115_11 r t fun x16 x23 x27=>x27 + 1<=r.plates.toNat /\ ∀ (j:Nat),j < x27 + 1->trF1 r t x23 j=true)
 (o46:q115_11 r t fun x16 x23 x27=>r.plates.toNat - (x27 + 1) < r.plates.toNat - x27)
 (o47:q115_12 r t fun x16 x23 x27=>inI ((x23:Int) + 1))
 (o48:q115_12 r t fun x16 x23 x27=>(x23:Int) + 1=(↑(x23 + 1):Int))
 (o49:q115_12 r t fun x16 x23 x27=>x23 + 1<=r.found.length /\ ∀ (j:Nat),j < x23 + 1->trF r t j=true)
 (o50:q115_12 r t fun x16 x23 x27=>r.found.length - (x23 + 1) < r.found.length - x23)
 (o51:q115_7 r t fun x16 => ∀ (x23:Nat),(x23<=r.found.length /\ ∀ (j:Nat),j < x23->trF r t j=true)->decide ((x23:Int) < (↑(r.found.length):Int))=false->true=isTruth r t) :
  Triple Try.prog 115 (s115 r t):=by
 refine triple_of Try.func115 rfl Try.call115 T0_ok _ rfl rfl rfl rfl (Nat.le_of_ble_eq_true (by kernel_rfl)) (fun _ _ _ _ h=>h) ?_
 intro hp C hC _ hE
 obtain ⟨P,w0,E0,av,hA⟩:=C
 subst hC
 refine swp_seq ?_
 refine sR (kt:=[2,3]) (kh:=[0,8]) (q:=True/\True/\True/\True) (st':=ASt.mk [(2,.ptr 0 []),(3,.ptr 8 [])] [(0,.cells 25 (cRun r)),(8,.cells 56 (cTrth t))] 24) (by kernel_rfl) ⟨tv,tv,tv,tv⟩ ?_
 refine swp_seq (swp_seq ?_)
 refine sR (kt:=[2,3,28]) (kh:=[0,8]) (q:=True/\True/\True/\True/\True/\True/\True/\True/\((!!decide ((↑(t.minutes.length):Int)=(↑(r.machines.length):Int)))->(True/\True)/\True)/\((!!decide ((↑(t.minutes.length):Int)=(↑(r.machines.length):Int)))->(((!!decide ((↑(t.minutes.length):Int)=(↑(r.machines.length):Int)))->(!!decide ((↑(t.minutes.length):Int)=(↑(r.machines.length):Int)))=true)/\True)/\True)/\((!!decide ((↑(t.minutes.length):Int)=(↑(r.machines.length):Int)))->(((!!decide ((↑(t.minutes.length):Int)=(↑(r.machines.length):Int)))->(!!decide ((↑(t.minutes.length):Int)=(↑(r.machines.length):Int)))=true)/\True)/\True)/\((!!decide ((↑(t.minutes.length):Int)=(↑(r.machines.length):Int)))->(True/\True)/\True)/\((!!decide ((↑(t.minutes.length):Int)=(↑(r.machines.length):Int)))->(((!!decide ((↑(t.minutes.length):Int)=(↑(r.machines.length):Int)))->(!!decide ((↑(t.minutes.length):Int)=(↑(r.machines.length):Int)))=true)/\True)/\True)/\((!!decide ((↑(t.minutes.length):Int)=(↑(r.machines.length):Int)))->(((!!decide ((↑(t.minutes.length):Int)=(↑(r.machines.length):Int)))->(!!decide ((↑(t.minutes.length):Int)=(↑(r.machines.length):Int)))=true)/\True)/\True)/\((!!decide ((↑(t.minutes.length):Int)=(↑(r.machines.length):Int)))->(((!!decide ((↑(t.minutes.length):Int)=(↑(r.machines.length):Int)))->(!!decide ((↑(t.minutes.length):Int)=(↑(r.machines.length):Int)))=true)/\((!!decide ((↑(t.minutes.length):Int)=(↑(r.machines.length):Int)))->(!!decide ((↑(t.minutes.length):Int)=(↑(r.machines.length):Int)))=true)/\True)/\True)/\(((!decide ((↑(t.minutes.length):Int)=(↑(r.machines.length):Int)))->True)/\((!decide ((↑(t.minutes.length):Int)=(↑(r.machines.length):Int)))=false->(!!decide ((↑(t.minutes.length):Int)=(↑(r.machines.length):Int)))=true))/\True) (st':=ASt.mk [(2,.ptr 0 []),(3,.ptr 8 []),(28,bv (bif !decide ((↑(t.minutes.length):Int)=(↑(r.machines.length):Int)) then true else !decide ((↑(t.frm.length):Int)=(↑(r.found.length):Int))))] [(0,.cells 25 (cRun r)),(8,.cells 56 (cTrth t))] 152) (by kernel_rfl) ⟨tv,tv,tv,tv,tv,tv,tv,tv,(fun h0=>⟨⟨tv,tv⟩,tv⟩),(fun h1=>⟨⟨(fun h2=>h1),tv⟩,tv⟩),(fun h3=>⟨⟨(fun h4=>h3),tv⟩,tv⟩),(fun h5=>⟨⟨tv,tv⟩,tv⟩),(fun h6=>⟨⟨(fun h7=>h6),tv⟩,tv⟩),(fun h8=>⟨⟨(fun h9=>h8),tv⟩,tv⟩),(fun h10=>⟨⟨(fun h11=>h10),(fun h12=>h10),tv⟩,tv⟩),⟨(fun h13=>tv),(fun h14=>(o0 hp h14))⟩,tv⟩ ?_
 refine swp_cond (bif !decide ((↑(t.minutes.length):Int)=(↑(r.machines.length):Int)) then true else !decide ((↑(t.frm.length):Int)=(↑(r.found.length):Int))) (by kernel_rfl) (fun h15 => ?_) (fun h15 => ?_)
 ·refine swp_seq ?_
  refine sR (kt:=[4]) (kh:=[]) (q:=True/\True) (st':=ASt.mk [(4,bv false)] [] 160) (by kernel_rfl) ⟨tv,tv⟩ ?_
  refine swp_ret ?_
  exact ret_q [] ((True/\True)/\(bv false=bv (isTruth r t)/\nilN = [])/\T3) (by kernel_rfl) ⟨⟨tv,tv⟩,⟨(congrArg bv (o1 hp h15)),rfl⟩,rfl,rfl,rfl⟩
 ·refine swp_skip (swp_seq (swp_seq ?_))
  refine sR (kt:=[2,3,30,31,32]) (kh:=[0,8]) (q:=True/\True/\True/\True/\True) (st':=ASt.mk [(2,.ptr 0 []),(3,.ptr 8 []),(30,aIntss t.minutes),(31,iv (↑(t.minutes.length):Int)),(32,iv 0)] [(0,.cells 25 (cRun r)),(8,.cells 56 (cTrth t))] 184) (by kernel_rfl) ⟨tv,tv,tv,tv,tv⟩ ?_
  refine swp_block ?_
  refine swp_loopA (Hint.ann (h115a r t) [(2,AV.ptr 0 []),(3,AV.ptr 8 []),(30,aIntss t.minutes),(31,iv (↑(t.minutes.length):Int))] [(0,OB.cells 25 (cRun r)),(8,OB.cells 56 (cTrth t))] 10184) (ent_q hE [] [(0,.same 0),(8,.same 8)] [30,31] [0,8] (((some (Src.same 0)=some (Src.same 0)/\nilP = [])/\(some (Src.same 8)=some (Src.same 8)/\nilP = [])/\(aIntss t.minutes=aIntss t.minutes/\true=true)/\(iv (↑(t.minutes.length):Int)=iv (↑(t.minutes.length):Int)/\true=true)/\(iv 0=iv (↑0:Int)/\nilN = [])/\True)/\((OB.cells 25 (cRun r)=OB.cells 25 (cRun r)/\true=true)/\(OB.cells 56 (cTrth t)=OB.cells 56 (cTrth t)/\true=true)/\True)/\T2) (by kernel_rfl) (by kernel_rfl) ⟨⟨⟨rfl,rfl⟩,⟨rfl,rfl⟩,⟨rfl,rfl⟩,⟨rfl,rfl⟩,⟨(congrArg iv (o2 hp h15)),rfl⟩,tv⟩,⟨⟨rfl,rfl⟩,⟨rfl,rfl⟩,tv⟩,rfl,rfl⟩) (o3 hp h15) (fun (x16:Nat) hx16 => ?_)
  refine swp_seq ?_
  refine sR (kt:=[2,3,30,31,32,33]) (kh:=[0,8]) (q:=True/\True) (st':=ASt.mk [(2,.ptr 0 []),(3,.ptr 8 []),(30,aIntss t.minutes),(31,iv (↑(t.minutes.length):Int)),(32,iv (x16:Int)),(33,bv (decide ((x16:Int) < (↑(t.minutes.length):Int))))] [(0,.cells 25 (cRun r)),(8,.cells 56 (cTrth t))] 10192) (by kernel_rfl) ⟨tv,tv⟩ ?_
  refine swp_seq ?_
  refine swp_cond (decide ((x16:Int) < (↑(t.minutes.length):Int))) (by kernel_rfl) (fun h17 => ?_) (fun h17 => ?_)
  ·refine swp_skip (swp_seq (swp_block (swp_seq ?_)))
   refine sR (kt:=[2,3,30,31,32,5,6]) (kh:=[0,8]) (q:=True/\(0<=(x16:Int)/\(x16:Int) < (↑(t.minutes.length):Int))/\True/\True/\True/\True) (st':=ASt.mk [(2,.ptr 0 []),(3,.ptr 8 []),(30,aIntss t.minutes),(31,iv (↑(t.minutes.length):Int)),(32,iv (x16:Int)),(5,iv (x16:Int)),(6,aInts (t.minutes.getD x16 []))] [(0,.cells 25 (cRun r)),(8,.cells 56 (cTrth t))] 10232) (by kernel_rfl) ⟨tv,⟨(o4 hp h15 x16 hx16 h17),(o5 hp h15 x16 hx16 h17)⟩,tv,tv,tv,tv⟩ ?_
   refine swp_seq (swp_seq ?_)
   refine sR (kt:=[2,3,30,31,32,5,6,41]) (kh:=[0,8]) (q:=True/\True/\True/\True/\True/\True) (st':=ASt.mk [(2,.ptr 0 []),(3,.ptr 8 []),(30,aIntss t.minutes),(31,iv (↑(t.minutes.length):Int)),(32,iv (x16:Int)),(5,iv (x16:Int)),(6,aInts (t.minutes.getD x16 [])),(41,bv !decide ((↑((t.minutes.getD x16 []).length):Int)=r.plates))] [(0,.cells 25 (cRun r)),(8,.cells 56 (cTrth t))] 10272) (by kernel_rfl) ⟨tv,tv,tv,tv,tv,tv⟩ ?_
   refine swp_cond (!decide ((↑((t.minutes.getD x16 []).length):Int)=r.plates)) (by kernel_rfl) (fun h18 => ?_) (fun h18 => ?_)
   ·refine swp_seq ?_
    refine sR (kt:=[4]) (kh:=[]) (q:=True/\True) (st':=ASt.mk [(4,bv false)] [] 10280) (by kernel_rfl) ⟨tv,tv⟩ ?_
    refine swp_ret ?_
    exact ret_q [] ((True/\True)/\(bv false=bv (isTruth r t)/\nilN = [])/\T3) (by kernel_rfl) ⟨⟨tv,tv⟩,⟨(congrArg bv (o6 hp h15 x16 hx16 h17 h18)),rfl⟩,rfl,rfl,rfl⟩
   ·refine swp_skip (swp_seq ?_)
    refine sR (kt:=[2,3,30,31,32,5,42,43,44]) (kh:=[0,8]) (q:=True/\True/\True/\True) (st':=ASt.mk [(2,.ptr 0 []),(3,.ptr 8 []),(30,aIntss t.minutes),(31,iv (↑(t.minutes.length):Int)),(32,iv (x16:Int)),(5,iv (x16:Int)),(42,aInts (t.minutes.getD x16 [])),(43,iv (↑((t.minutes.getD x16 []).length):Int)),(44,iv 0)] [(0,.cells 25 (cRun r)),(8,.cells 56 (cTrth t))] 10296) (by kernel_rfl) ⟨tv,tv,tv,tv⟩ ?_
    refine swp_block ?_
    refine swp_loopA (Hint.ann (h115b r t x16) [(2,AV.ptr 0 []),(3,AV.ptr 8 []),(30,aIntss t.minutes),(31,iv (↑(t.minutes.length):Int)),(32,iv (x16:Int)),(5,iv (x16:Int)),(42,aInts (t.minutes.getD x16 [])),(43,iv (↑((t.minutes.getD x16 []).length):Int))] [(0,OB.cells 25 (cRun r)),(8,OB.cells 56 (cTrth t))] 20296) (ent_q hE [] [(0,.same 0),(8,.same 8)] [30,31,32,5,42,43] [0,8] (((some (Src.same 0)=some (Src.same 0)/\nilP = [])/\(some (Src.same 8)=some (Src.same 8)/\nilP = [])/\(aIntss t.minutes=aIntss t.minutes/\true=true)/\(iv (↑(t.minutes.length):Int)=iv (↑(t.minutes.length):Int)/\true=true)/\(iv (x16:Int)=iv (x16:Int)/\true=true)/\(iv (x16:Int)=iv (x16:Int)/\true=true)/\(aInts (t.minutes.getD x16 [])=aInts (t.minutes.getD x16 [])/\true=true)/\(iv (↑((t.minutes.getD x16 []).length):Int)=iv (↑((t.minutes.getD x16 []).length):Int)/\true=true)/\(iv 0=iv (↑0:Int)/\nilN = [])/\True)/\((OB.cells 25 (cRun r)=OB.cells 25 (cRun r)/\true=true)/\(OB.cells 56 (cTrth t)=OB.cells 56 (cTrth t)/\true=true)/\True)/\T2) (by kernel_rfl) (by kernel_rfl) ⟨⟨⟨rfl,rfl⟩,⟨rfl,rfl⟩,⟨rfl,rfl⟩,⟨rfl,rfl⟩,⟨rfl,rfl⟩,⟨rfl,rfl⟩,⟨rfl,rfl⟩,⟨rfl,rfl⟩,⟨(congrArg iv (o7 hp h15 x16 hx16 h17 h18)),rfl⟩,tv⟩,⟨⟨rfl,rfl⟩,⟨rfl,rfl⟩,tv⟩,rfl,rfl⟩) (o8 hp h15 x16 hx16 h17 h18) (fun (x19:Nat) hx19 => ?_)
    refine swp_seq ?_
    refine sR (kt:=[2,3,30,31,32,5,42,43,44,45]) (kh:=[0,8]) (q:=True/\True) (st':=ASt.mk [(2,.ptr 0 []),(3,.ptr 8 []),(30,aIntss t.minutes),(31,iv (↑(t.minutes.length):Int)),(32,iv (x16:Int)),(5,iv (x16:Int)),(42,aInts (t.minutes.getD x16 [])),(43,iv (↑((t.minutes.getD x16 []).length):Int)),(44,iv (x19:Int)),(45,bv (decide ((x19:Int) < (↑((t.minutes.getD x16 []).length):Int))))] [(0,.cells 25 (cRun r)),(8,.cells 56 (cTrth t))] 20304) (by kernel_rfl) ⟨tv,tv⟩ ?_
    refine swp_seq ?_
    refine swp_cond (decide ((x19:Int) < (↑((t.minutes.getD x16 []).length):Int))) (by kernel_rfl) (fun h20 => ?_) (fun h20 => ?_)
    ·refine swp_skip (swp_seq (swp_block (swp_seq ?_)))
     refine sR (kt:=[2,3,30,31,32,5,42,43,44,7,8]) (kh:=[0,8]) (q:=True/\(0<=(x19:Int)/\(x19:Int) < (↑((t.minutes.getD x16 []).length):Int))/\True/\True/\True/\True) (st':=ASt.mk [(2,.ptr 0 []),(3,.ptr 8 []),(30,aIntss t.minutes),(31,iv (↑(t.minutes.length):Int)),(32,iv (x16:Int)),(5,iv (x16:Int)),(42,aInts (t.minutes.getD x16 [])),(43,iv (↑((t.minutes.getD x16 []).length):Int)),(44,iv (x19:Int)),(7,iv (x19:Int)),(8,iv ((t.minutes.getD x16 []).getD x19 0))] [(0,.cells 25 (cRun r)),(8,.cells 56 (cTrth t))] 20344) (by kernel_rfl) ⟨tv,⟨(o9 hp h15 x16 hx16 h17 h18 x19 hx19 h20),(o10 hp h15 x16 hx16 h17 h18 x19 hx19 h20)⟩,tv,tv,tv,tv⟩ ?_
     refine swp_seq ?_
     refine sR (kt:=[2,3,30,31,32,5,42,43,44,8,9]) (kh:=[0,8,20416]) (q:=True/\True/\True/\(0<=(x16:Int)/\(x16:Int) < (↑(r.machines.length):Int))/\True/\True/\True/\(0<=(x19:Int)/\(x19:Int) < (↑((mach r x16).changes.length):Int))/\True/\True/\True/\True) (st':=ASt.mk [(2,.ptr 0 []),(3,.ptr 8 []),(30,aIntss t.minutes),(31,iv (↑(t.minutes.length):Int)),(32,iv (x16:Int)),(5,iv (x16:Int)),(42,aInts (t.minutes.getD x16 [])),(43,iv (↑((t.minutes.getD x16 []).length):Int)),(44,iv (x19:Int)),(8,iv ((t.minutes.getD x16 []).getD x19 0)),(9,.ptr 20416 [])] [(0,.cells 25 (cRun r)),(8,.cells 56 (cTrth t)),(20416,.cells 37 (cSpan ((mach r x16).changes.getD x19 default)))] 20432) (by kernel_rfl) ⟨tv,tv,tv,⟨(o11 hp h15 x16 hx16 h17 h18 x19 hx19 h20),(o12 hp h15 x16 hx16 h17 h18 x19 hx19 h20)⟩,tv,tv,tv,⟨(o13 hp h15 x16 hx16 h17 h18 x19 hx19 h20),(o14 hp h15 x16 hx16 h17 h18 x19 hx19 h20)⟩,tv,tv,tv,tv⟩ ?_
     refine swp_seq ?_
     refine swp_region T0_ok mixed (cs:=[(5,CallSpec.eq (s112 ((t.minutes.getD x16 []).getD x19 0) ((mach r x16).changes.getD x19 default).lo ((mach r x16).changes.getD x19 default).hi) [true,true,true])]) (kt:=[2,3,30,31,32,5,42,43,44,64]) (kh:=[0,8]) (q:=True/\True/\True/\True/\True/\((iv ((t.minutes.getD x16 []).getD x19 0)=iv ((t.minutes.getD x16 []).getD x19 0)/\iv ((mach r x16).changes.getD x19 default).lo=iv ((mach r x16).changes.getD x19 default).lo/\iv ((mach r x16).changes.getD x19 default).hi=iv ((mach r x16).changes.getD x19 default).hi/\True)/\Triple Try.prog 112 (s112 ((t.minutes.getD x16 []).getD x19 0) ((mach r x16).changes.getD x19 default).lo ((mach r x16).changes.getD x19 default).hi)/\True/\True /\ ∀ (i21:Env),True)/\True/\True) (st':=ASt.mk [(2,.ptr 0 []),(3,.ptr 8 []),(30,aIntss t.minutes),(31,iv (↑(t.minutes.length):Int)),(32,iv (x16:Int)),(5,iv (x16:Int)),(42,aInts (t.minutes.getD x16 [])),(43,iv (↑((t.minutes.getD x16 []).length):Int)),(44,iv (x19:Int)),(64,bv !within ((t.minutes.getD x16 []).getD x19 0) ((mach r x16).changes.getD x19 default).lo ((mach r x16).changes.getD x19 default).hi)] [(0,.cells 25 (cRun r)),(8,.cells 56 (cTrth t))] 20488) (by kernel_rfl) ⟨tv,tv,tv,tv,tv,⟨⟨rfl,rfl,rfl,tv⟩,(t112 ((t.minutes.getD x16 []).getD x19 0) ((mach r x16).changes.getD x19 default).lo ((mach r x16).changes.getD x19 default).hi),tv,tv,(fun i21=>tv)⟩,tv,tv⟩ ?_
     refine swp_cond (!within ((t.minutes.getD x16 []).getD x19 0) ((mach r x16).changes.getD x19 default).lo ((mach r x16).changes.getD x19 default).hi) (by kernel_rfl) (fun h22 => ?_) (fun h22 => ?_)
     ·refine swp_seq ?_
      refine sR (kt:=[4]) (kh:=[]) (q:=True/\True) (st':=ASt.mk [(4,bv false)] [] 20496) (by kernel_rfl) ⟨tv,tv⟩ ?_
      refine swp_ret ?_
      exact ret_q [] ((True/\True)/\(bv false=bv (isTruth r t)/\nilN = [])/\T3) (by kernel_rfl) ⟨⟨tv,tv⟩,⟨(congrArg bv (o15 hp h15 x16 hx16 h17 h18 x19 hx19 h20 h22)),rfl⟩,rfl,rfl,rfl⟩
     ·refine swp_skip ?_
      refine sR (kt:=[2,3,30,31,32,5,42,43,44]) (kh:=[0,8]) (q:=inI ((x19:Int) + 1)/\True/\True) (st':=ASt.mk [(2,.ptr 0 []),(3,.ptr 8 []),(30,aIntss t.minutes),(31,iv (↑(t.minutes.length):Int)),(32,iv (x16:Int)),(5,iv (x16:Int)),(42,aInts (t.minutes.getD x16 [])),(43,iv (↑((t.minutes.getD x16 []).length):Int)),(44,iv ((x19:Int) + 1))] [(0,.cells 25 (cRun r)),(8,.cells 56 (cTrth t))] 20504) (by kernel_rfl) ⟨(o16 hp h15 x16 hx16 h17 h18 x19 hx19 h20 h22),tv,tv⟩ ?_
      exact loop_next (Hint.ann (h115b r t x16) [(2,AV.ptr 0 []),(3,AV.ptr 8 []),(30,aIntss t.minutes),(31,iv (↑(t.minutes.length):Int)),(32,iv (x16:Int)),(5,iv (x16:Int)),(42,aInts (t.minutes.getD x16 [])),(43,iv (↑((t.minutes.getD x16 []).length):Int))] [(0,OB.cells 25 (cRun r)),(8,OB.cells 56 (cTrth t))] 20296) x19 (ent_q hE [] [(0,.same 0),(8,.same 8)] [30,31,32,5,42,43] [0,8] (((some (Src.same 0)=some (Src.same 0)/\nilP = [])/\(some (Src.same 8)=some (Src.same 8)/\nilP = [])/\(aIntss t.minutes=aIntss t.minutes/\true=true)/\(iv (↑(t.minutes.length):Int)=iv (↑(t.minutes.length):Int)/\true=true)/\(iv (x16:Int)=iv (x16:Int)/\true=true)/\(iv (x16:Int)=iv (x16:Int)/\true=true)/\(aInts (t.minutes.getD x16 [])=aInts (t.minutes.getD x16 [])/\true=true)/\(iv (↑((t.minutes.getD x16 []).length):Int)=iv (↑((t.minutes.getD x16 []).length):Int)/\true=true)/\(iv ((x19:Int) + 1)=iv (↑(x19 + 1):Int)/\nilN = [])/\True)/\((OB.cells 25 (cRun r)=OB.cells 25 (cRun r)/\true=true)/\(OB.cells 56 (cTrth t)=OB.cells 56 (cTrth t)/\true=true)/\True)/\T2) (by kernel_rfl) (by kernel_rfl) ⟨⟨⟨rfl,rfl⟩,⟨rfl,rfl⟩,⟨rfl,rfl⟩,⟨rfl,rfl⟩,⟨rfl,rfl⟩,⟨rfl,rfl⟩,⟨rfl,rfl⟩,⟨rfl,rfl⟩,⟨(congrArg iv (o17 hp h15 x16 hx16 h17 h18 x19 hx19 h20 h22)),rfl⟩,tv⟩,⟨⟨rfl,rfl⟩,⟨rfl,rfl⟩,tv⟩,rfl,rfl⟩) (o18 hp h15 x16 hx16 h17 h18 x19 hx19 h20 h22) (o19 hp h15 x16 hx16 h17 h18 x19 hx19 h20 h22)
    ·refine swp_exit ?_
     refine sR (kt:=[2,3,30,31,32]) (kh:=[0,8]) (q:=inI ((x16:Int) + 1)/\True/\True) (st':=ASt.mk [(2,.ptr 0 []),(3,.ptr 8 []),(30,aIntss t.minutes),(31,iv (↑(t.minutes.length):Int)),(32,iv ((x16:Int) + 1))] [(0,.cells 25 (cRun r)),(8,.cells 56 (cTrth t))] 20320) (by kernel_rfl) ⟨(o20 hp h15 x16 hx16 h17 h18 x19 hx19 h20),tv,tv⟩ ?_
     exact loop_next (Hint.ann (h115a r t) [(2,AV.ptr 0 []),(3,AV.ptr 8 []),(30,aIntss t.minutes),(31,iv (↑(t.minutes.length):Int))] [(0,OB.cells 25 (cRun r)),(8,OB.cells 56 (cTrth t))] 10184) x16 (ent_q hE [] [(0,.same 0),(8,.same 8)] [30,31] [0,8] (((some (Src.same 0)=some (Src.same 0)/\nilP = [])/\(some (Src.same 8)=some (Src.same 8)/\nilP = [])/\(aIntss t.minutes=aIntss t.minutes/\true=true)/\(iv (↑(t.minutes.length):Int)=iv (↑(t.minutes.length):Int)/\true=true)/\(iv ((x16:Int) + 1)=iv (↑(x16 + 1):Int)/\nilN = [])/\True)/\((OB.cells 25 (cRun r)=OB.cells 25 (cRun r)/\true=true)/\(OB.cells 56 (cTrth t)=OB.cells 56 (cTrth t)/\true=true)/\True)/\T2) (by kernel_rfl) (by kernel_rfl) ⟨⟨⟨rfl,rfl⟩,⟨rfl,rfl⟩,⟨rfl,rfl⟩,⟨rfl,rfl⟩,⟨(congrArg iv (o21 hp h15 x16 hx16 h17 h18 x19 hx19 h20)),rfl⟩,tv⟩,⟨⟨rfl,rfl⟩,⟨rfl,rfl⟩,tv⟩,rfl,rfl⟩) (o22 hp h15 x16 hx16 h17 h18 x19 hx19 h20) (o23 hp h15 x16 hx16 h17 h18 x19 hx19 h20)
  ·refine swp_exit (swp_seq (swp_seq ?_))
   refine sR (kt:=[3,68,69,70]) (kh:=[8]) (q:=True/\True/\True/\True/\True) (st':=ASt.mk [(3,.ptr 8 []),(68,.sl 3 r.found.length fun (i:Nat)=>cFnd (fnd r i)),(69,iv (↑(r.found.length):Int)),(70,iv 0)] [(8,.cells 56 (cTrth t))] 10224) (by kernel_rfl) ⟨tv,tv,tv,tv,tv⟩ ?_
   refine swp_block ?_
   refine swp_loopA (Hint.ann (h115c r t) [(3,AV.ptr 8 []),(68,AV.sl 3 r.found.length fun (i:Nat)=>cFnd (fnd r i)),(69,iv (↑(r.found.length):Int))] [(8,OB.cells 56 (cTrth t))] 20224) (ent_q hE [] [(8,.same 8)] [68,69] [8] (((some (Src.same 8)=some (Src.same 8)/\nilP = [])/\(((AV.sl 3 r.found.length fun (i:Nat)=>cFnd (fnd r i))=AV.sl 3 r.found.length fun (i:Nat)=>cFnd (fnd r i))/\true=true)/\(iv (↑(r.found.length):Int)=iv (↑(r.found.length):Int)/\true=true)/\(iv 0=iv (↑0:Int)/\nilN = [])/\True)/\((OB.cells 56 (cTrth t)=OB.cells 56 (cTrth t)/\true=true)/\True)/\T2) (by kernel_rfl) (by kernel_rfl) ⟨⟨⟨rfl,rfl⟩,⟨rfl,rfl⟩,⟨rfl,rfl⟩,⟨(congrArg iv (o24 hp h15 x16 hx16 h17)),rfl⟩,tv⟩,⟨⟨rfl,rfl⟩,tv⟩,rfl,rfl⟩) (o25 hp h15 x16 hx16 h17) (fun (x23:Nat) hx23 => ?_)
   refine swp_seq ?_
   refine sR (kt:=[3,68,69,70,71]) (kh:=[8]) (q:=True/\True) (st':=ASt.mk [(3,.ptr 8 []),(68,.sl 3 r.found.length fun (i:Nat)=>cFnd (fnd r i)),(69,iv (↑(r.found.length):Int)),(70,iv (x23:Int)),(71,bv (decide ((x23:Int) < (↑(r.found.length):Int))))] [(8,.cells 56 (cTrth t))] 20232) (by kernel_rfl) ⟨tv,tv⟩ ?_
   refine swp_seq ?_
   refine swp_cond (decide ((x23:Int) < (↑(r.found.length):Int))) (by kernel_rfl) (fun h24 => ?_) (fun h24 => ?_)
   ·refine swp_skip (swp_seq (swp_block (swp_seq ?_)))
    refine sR (kt:=[3,68,69,70,11,10]) (kh:=[8,20256]) (q:=True/\(0<=(x23:Int)/\(x23:Int) < (↑(r.found.length):Int))/\True/\True/\True/\True/\True) (st':=ASt.mk [(3,.ptr 8 []),(68,.sl 3 r.found.length fun (i:Nat)=>cFnd (fnd r i)),(69,iv (↑(r.found.length):Int)),(70,iv (x23:Int)),(11,.ptr 20256 []),(10,iv (x23:Int))] [(8,.cells 56 (cTrth t)),(20256,.cells 32 (cFnd (fnd r x23)))] 20280) (by kernel_rfl) ⟨tv,⟨(o26 hp h15 x16 hx16 h17 x23 hx23 h24),(o27 hp h15 x16 hx16 h17 x23 hx23 h24)⟩,tv,tv,tv,tv,tv⟩ ?_
    refine swp_seq (swp_seq ?_)
    refine swp_region T0_ok mixed (cs:=[(7,CallSpec.eq (s137 (fnd r x23).frm (t.frm.getD x23 0)) [true,true])]) (kt:=[3,68,69,70,11,10,83]) (kh:=[8,20256]) (q:=True/\True/\True/\True/\True/\(0<=(x23:Int)/\(x23:Int) < (↑(t.frm.length):Int))/\True/\((aInts (fnd r x23).frm=aInts (fnd r x23).frm/\iv (t.frm.getD x23 0)=iv (t.frm.getD x23 0)/\True)/\Triple Try.prog 137 (s137 (fnd r x23).frm (t.frm.getD x23 0))/\(fnd r x23).frm.length<=1125899906842624/\True /\ ∀ (i25:Env),True)/\True/\True) (st':=ASt.mk [(3,.ptr 8 []),(68,.sl 3 r.found.length fun (i:Nat)=>cFnd (fnd r i)),(69,iv (↑(r.found.length):Int)),(70,iv (x23:Int)),(11,.ptr 20256 []),(10,iv (x23:Int)),(83,bv !isIn (fnd r x23).frm (t.frm.getD x23 0))] [(8,.cells 56 (cTrth t)),(20256,.cells 32 (cFnd (fnd r x23)))] 20352) (by kernel_rfl) ⟨tv,tv,tv,tv,tv,⟨(o28 hp h15 x16 hx16 h17 x23 hx23 h24),(o29 hp h15 x16 hx16 h17 x23 hx23 h24)⟩,tv,⟨⟨rfl,rfl,tv⟩,(t137 (fnd r x23).frm (t.frm.getD x23 0)),(o30 hp h15 x16 hx16 h17 x23 hx23 h24),tv,(fun i25=>tv)⟩,tv,tv⟩ ?_
    refine swp_cond (!isIn (fnd r x23).frm (t.frm.getD x23 0)) (by kernel_rfl) (fun h26 => ?_) (fun h26 => ?_)
    ·refine swp_seq ?_
     refine sR (kt:=[4]) (kh:=[]) (q:=True/\True) (st':=ASt.mk [(4,bv false)] [] 20360) (by kernel_rfl) ⟨tv,tv⟩ ?_
     refine swp_ret ?_
     exact ret_q [] ((True/\True)/\(bv false=bv (isTruth r t)/\nilN = [])/\T3) (by kernel_rfl) ⟨⟨tv,tv⟩,⟨(congrArg bv (o31 hp h15 x16 hx16 h17 x23 hx23 h24 h26)),rfl⟩,rfl,rfl,rfl⟩
    ·refine swp_skip (swp_seq ?_)
     refine sR (kt:=[3,68,69,70,11,10,86,87]) (kh:=[8,20256]) (q:=True/\True/\True/\True/\True) (st':=ASt.mk [(3,.ptr 8 []),(68,.sl 3 r.found.length fun (i:Nat)=>cFnd (fnd r i)),(69,iv (↑(r.found.length):Int)),(70,iv (x23:Int)),(11,.ptr 20256 []),(10,iv (x23:Int)),(86,iv (↑((fnd r x23).new.length):Int)),(87,iv 0)] [(8,.cells 56 (cTrth t)),(20256,.cells 32 (cFnd (fnd r x23)))] 20384) (by kernel_rfl) ⟨tv,tv,tv,tv,tv⟩ ?_
     refine swp_block ?_
     refine swp_loopA (Hint.ann (h115d r t x23) [(3,AV.ptr 8 []),(68,AV.sl 3 r.found.length fun (i:Nat)=>cFnd (fnd r i)),(69,iv (↑(r.found.length):Int)),(70,iv (x23:Int)),(11,AV.ptr 20256 []),(10,iv (x23:Int)),(86,iv (↑((fnd r x23).new.length):Int))] [(8,OB.cells 56 (cTrth t)),(20256,OB.cells 32 (cFnd (fnd r x23)))] 30384) (ent_q hE [] [(8,.same 8),(20256,.same 20256)] [68,69,70,10,86] [8,20256] (((some (Src.same 8)=some (Src.same 8)/\nilP = [])/\(((AV.sl 3 r.found.length fun (i:Nat)=>cFnd (fnd r i))=AV.sl 3 r.found.length fun (i:Nat)=>cFnd (fnd r i))/\true=true)/\(iv (↑(r.found.length):Int)=iv (↑(r.found.length):Int)/\true=true)/\(iv (x23:Int)=iv (x23:Int)/\true=true)/\(some (Src.same 20256)=some (Src.same 20256)/\nilP = [])/\(iv (x23:Int)=iv (x23:Int)/\true=true)/\(iv (↑((fnd r x23).new.length):Int)=iv (↑((fnd r x23).new.length):Int)/\true=true)/\(iv 0=iv (↑0:Int)/\nilN = [])/\True)/\((OB.cells 56 (cTrth t)=OB.cells 56 (cTrth t)/\true=true)/\(OB.cells 32 (cFnd (fnd r x23))=OB.cells 32 (cFnd (fnd r x23))/\true=true)/\True)/\T2) (by kernel_rfl) (by kernel_rfl) ⟨⟨⟨rfl,rfl⟩,⟨rfl,rfl⟩,⟨rfl,rfl⟩,⟨rfl,rfl⟩,⟨rfl,rfl⟩,⟨rfl,rfl⟩,⟨rfl,rfl⟩,⟨(congrArg iv (o32 hp h15 x16 hx16 h17 x23 hx23 h24 h26)),rfl⟩,tv⟩,⟨⟨rfl,rfl⟩,⟨rfl,rfl⟩,tv⟩,rfl,rfl⟩) (o33 hp h15 x16 hx16 h17 x23 hx23 h24 h26) (fun (x27:Nat) hx27 => ?_)
     refine swp_seq ?_
     refine sR (kt:=[3,68,69,70,11,10,86,87,88]) (kh:=[8,20256]) (q:=True/\True) (st':=ASt.mk [(3,.ptr 8 []),(68,.sl 3 r.found.length fun (i:Nat)=>cFnd (fnd r i)),(69,iv (↑(r.found.length):Int)),(70,iv (x23:Int)),(11,.ptr 20256 []),(10,iv (x23:Int)),(86,iv (↑((fnd r x23).new.length):Int)),(87,iv (x27:Int)),(88,bv (decide ((x27:Int) < (↑((fnd r x23).new.length):Int))))] [(8,.cells 56 (cTrth t)),(20256,.cells 32 (cFnd (fnd r x23)))] 30392) (by kernel_rfl) ⟨tv,tv⟩ ?_
     refine swp_seq ?_
     refine swp_cond (decide ((x27:Int) < (↑((fnd r x23).new.length):Int))) (by kernel_rfl) (fun h28 => ?_) (fun h28 => ?_)
     ·refine swp_skip (swp_seq (swp_block (swp_seq ?_)))
      refine sR (kt:=[3,68,69,70,11,10,86,87,12]) (kh:=[8,20256]) (q:=True/\True/\True) (st':=ASt.mk [(3,.ptr 8 []),(68,.sl 3 r.found.length fun (i:Nat)=>cFnd (fnd r i)),(69,iv (↑(r.found.length):Int)),(70,iv (x23:Int)),(11,.ptr 20256 []),(10,iv (x23:Int)),(86,iv (↑((fnd r x23).new.length):Int)),(87,iv (x27:Int)),(12,iv (x27:Int))] [(8,.cells 56 (cTrth t)),(20256,.cells 32 (cFnd (fnd r x23)))] 30408) (by kernel_rfl) ⟨tv,tv,tv⟩ ?_
      refine swp_seq ?_
      refine swp_region T0_ok mixed (cs:=[(14,CallSpec.eq (c115 r t x23 x27) [true,true,false])]) (kt:=[3,68,69,70,11,10,86,87,105]) (kh:=[8,20256]) (q:=True/\True/\True/\True/\True/\True/\True/\(0<=(x23:Int)/\(x23:Int) < (↑(t.frm.length):Int))/\True/\(0<=t.frm.getD x23 0/\t.frm.getD x23 0 < (↑(t.minutes.length):Int))/\True/\True/\(0<=(x27:Int)/\(x27:Int) < (↑((t.minutes.getD (t.frm.getD x23 0).toNat []).length):Int))/\True/\((AV.agg (cFnd (fnd r x23))=AV.agg (cFnd (fnd r x23))/\iv (x27:Int)=iv (x27:Int)/\iv ((t.minutes.getD (t.frm.getD x23 0).toNat []).getD x27 0)=iv (tAt t (t.frm.getD x23 0).toNat x27)/\True)/\Triple Try.prog 138 (c115 r t x23 x27)/\x27 < (fnd r x23).new.length/\True /\ ∀ (i29:Env),True)/\True/\True) (st':=ASt.mk [(3,.ptr 8 []),(68,.sl 3 r.found.length fun (i:Nat)=>cFnd (fnd r i)),(69,iv (↑(r.found.length):Int)),(70,iv (x23:Int)),(11,.ptr 20256 []),(10,iv (x23:Int)),(86,iv (↑((fnd r x23).new.length):Int)),(87,iv (x27:Int)),(105,bv !showsP (fnd r x23) x27 (tAt t (t.frm.getD x23 0).toNat x27))] [(8,.cells 56 (cTrth t)),(20256,.cells 32 (cFnd (fnd r x23)))] 30536) (by kernel_rfl) ⟨tv,tv,tv,tv,tv,tv,tv,⟨(o34 hp h15 x16 hx16 h17 x23 hx23 h24 h26 x27 hx27 h28),(o35 hp h15 x16 hx16 h17 x23 hx23 h24 h26 x27 hx27 h28)⟩,tv,⟨(o36 hp h15 x16 hx16 h17 x23 hx23 h24 h26 x27 hx27 h28),(o37 hp h15 x16 hx16 h17 x23 hx23 h24 h26 x27 hx27 h28)⟩,tv,tv,⟨(o38 hp h15 x16 hx16 h17 x23 hx23 h24 h26 x27 hx27 h28),(o39 hp h15 x16 hx16 h17 x23 hx23 h24 h26 x27 hx27 h28)⟩,tv,⟨⟨rfl,rfl,(congrArg iv (o40 hp h15 x16 hx16 h17 x23 hx23 h24 h26 x27 hx27 h28)),tv⟩,(t138 _ _ _),(o41 hp h15 x16 hx16 h17 x23 hx23 h24 h26 x27 hx27 h28),tv,(fun i29=>tv)⟩,tv,tv⟩ ?_
      refine swp_cond (!showsP (fnd r x23) x27 (tAt t (t.frm.getD x23 0).toNat x27)) (by kernel_rfl) (fun h30 => ?_) (fun h30 => ?_)
      ·refine swp_seq ?_
       refine sR (kt:=[4]) (kh:=[]) (q:=True/\True) (st':=ASt.mk [(4,bv false)] [] 30544) (by kernel_rfl) ⟨tv,tv⟩ ?_
       refine swp_ret ?_
       exact ret_q [] ((True/\True)/\(bv false=bv (isTruth r t)/\nilN = [])/\T3) (by kernel_rfl) ⟨⟨tv,tv⟩,⟨(congrArg bv (o42 hp h15 x16 hx16 h17 x23 hx23 h24 h26 x27 hx27 h28 h30)),rfl⟩,rfl,rfl,rfl⟩
      ·refine swp_skip ?_
       refine sR (kt:=[3,68,69,70,11,10,86,87]) (kh:=[8,20256]) (q:=inI ((x27:Int) + 1)/\True/\True) (st':=ASt.mk [(3,.ptr 8 []),(68,.sl 3 r.found.length fun (i:Nat)=>cFnd (fnd r i)),(69,iv (↑(r.found.length):Int)),(70,iv (x23:Int)),(11,.ptr 20256 []),(10,iv (x23:Int)),(86,iv (↑((fnd r x23).new.length):Int)),(87,iv ((x27:Int) + 1))] [(8,.cells 56 (cTrth t)),(20256,.cells 32 (cFnd (fnd r x23)))] 30552) (by kernel_rfl) ⟨(o43 hp h15 x16 hx16 h17 x23 hx23 h24 h26 x27 hx27 h28 h30),tv,tv⟩ ?_
       exact loop_next (Hint.ann (h115d r t x23) [(3,AV.ptr 8 []),(68,AV.sl 3 r.found.length fun (i:Nat)=>cFnd (fnd r i)),(69,iv (↑(r.found.length):Int)),(70,iv (x23:Int)),(11,AV.ptr 20256 []),(10,iv (x23:Int)),(86,iv (↑((fnd r x23).new.length):Int))] [(8,OB.cells 56 (cTrth t)),(20256,OB.cells 32 (cFnd (fnd r x23)))] 30384) x27 (ent_q hE [] [(8,.same 8),(20256,.same 20256)] [68,69,70,10,86] [8,20256] (((some (Src.same 8)=some (Src.same 8)/\nilP = [])/\(((AV.sl 3 r.found.length fun (i:Nat)=>cFnd (fnd r i))=AV.sl 3 r.found.length fun (i:Nat)=>cFnd (fnd r i))/\true=true)/\(iv (↑(r.found.length):Int)=iv (↑(r.found.length):Int)/\true=true)/\(iv (x23:Int)=iv (x23:Int)/\true=true)/\(some (Src.same 20256)=some (Src.same 20256)/\nilP = [])/\(iv (x23:Int)=iv (x23:Int)/\true=true)/\(iv (↑((fnd r x23).new.length):Int)=iv (↑((fnd r x23).new.length):Int)/\true=true)/\(iv ((x27:Int) + 1)=iv (↑(x27 + 1):Int)/\nilN = [])/\True)/\((OB.cells 56 (cTrth t)=OB.cells 56 (cTrth t)/\true=true)/\(OB.cells 32 (cFnd (fnd r x23))=OB.cells 32 (cFnd (fnd r x23))/\true=true)/\True)/\T2) (by kernel_rfl) (by kernel_rfl) ⟨⟨⟨rfl,rfl⟩,⟨rfl,rfl⟩,⟨rfl,rfl⟩,⟨rfl,rfl⟩,⟨rfl,rfl⟩,⟨rfl,rfl⟩,⟨rfl,rfl⟩,⟨(congrArg iv (o44 hp h15 x16 hx16 h17 x23 hx23 h24 h26 x27 hx27 h28 h30)),rfl⟩,tv⟩,⟨⟨rfl,rfl⟩,⟨rfl,rfl⟩,tv⟩,rfl,rfl⟩) (o45 hp h15 x16 hx16 h17 x23 hx23 h24 h26 x27 hx27 h28 h30) (o46 hp h15 x16 hx16 h17 x23 hx23 h24 h26 x27 hx27 h28 h30)
     ·refine swp_exit ?_
      refine sR (kt:=[3,68,69,70]) (kh:=[8]) (q:=inI ((x23:Int) + 1)/\True/\True) (st':=ASt.mk [(3,.ptr 8 []),(68,.sl 3 r.found.length fun (i:Nat)=>cFnd (fnd r i)),(69,iv (↑(r.found.length):Int)),(70,iv ((x23:Int) + 1))] [(8,.cells 56 (cTrth t))] 30408) (by kernel_rfl) ⟨(o47 hp h15 x16 hx16 h17 x23 hx23 h24 h26 x27 hx27 h28),tv,tv⟩ ?_
      exact loop_next (Hint.ann (h115c r t) [(3,AV.ptr 8 []),(68,AV.sl 3 r.found.length fun (i:Nat)=>cFnd (fnd r i)),(69,iv (↑(r.found.length):Int))] [(8,OB.cells 56 (cTrth t))] 20224) x23 (ent_q hE [] [(8,.same 8)] [68,69] [8] (((some (Src.same 8)=some (Src.same 8)/\nilP = [])/\(((AV.sl 3 r.found.length fun (i:Nat)=>cFnd (fnd r i))=AV.sl 3 r.found.length fun (i:Nat)=>cFnd (fnd r i))/\true=true)/\(iv (↑(r.found.length):Int)=iv (↑(r.found.length):Int)/\true=true)/\(iv ((x23:Int) + 1)=iv (↑(x23 + 1):Int)/\nilN = [])/\True)/\((OB.cells 56 (cTrth t)=OB.cells 56 (cTrth t)/\true=true)/\True)/\T2) (by kernel_rfl) (by kernel_rfl) ⟨⟨⟨rfl,rfl⟩,⟨rfl,rfl⟩,⟨rfl,rfl⟩,⟨(congrArg iv (o48 hp h15 x16 hx16 h17 x23 hx23 h24 h26 x27 hx27 h28)),rfl⟩,tv⟩,⟨⟨rfl,rfl⟩,tv⟩,rfl,rfl⟩) (o49 hp h15 x16 hx16 h17 x23 hx23 h24 h26 x27 hx27 h28) (o50 hp h15 x16 hx16 h17 x23 hx23 h24 h26 x27 hx27 h28)
   ·refine swp_exit (swp_seq ?_)
    refine sR (kt:=[4]) (kh:=[]) (q:=True/\True) (st':=ASt.mk [(4,bv true)] [] 20240) (by kernel_rfl) ⟨tv,tv⟩ ?_
    refine swp_ret ?_
    exact ret_q [] ((True/\True)/\(bv true=bv (isTruth r t)/\nilN = [])/\T3) (by kernel_rfl) ⟨⟨tv,tv⟩,⟨(congrArg bv (o51 hp h15 x16 hx16 h17 x23 hx23 h24)),rfl⟩,rfl,rfl,rfl⟩
theorem t115 (r:Run) (t:Trth):Triple Try.prog 115 (s115 r t):=by
  have hd:∀ {b:Bool},(bif !decide ((t.minutes.length:Int)=r.machines.length) then true else !decide ((t.frm.length:Int)=r.found.length))=b->trHead r t = !b:=by
    intro b h
    rw [← h,trHead]
    by_cases e1:t.minutes.length=r.machines.length <;> by_cases e2:t.frm.length=r.found.length <;> simp [e1,e2] <;> omega
  apply w115
  all_goals (first
    | ((repeat intro _) <;> (try simp only [v0,v1,v2,v3,v4,v5,v6,v7,v8,v9,inI,fits,Go.Sh.small] at *) <;> first | (exact rfl) | omega | exact vz | (simp_all; done) | (simp_all; omega))
    | (intro hp h; rw [trHead_bad (hd h)]; done)
    | (intro hp h
       have h0:=hd h
       have h1:=h0
       simp only [trHead,Bool.not_false,Bool.and_eq_true,decide_eq_true_eq] at h1
       have ok:=ok_of hp.1
       have hpl:=ok.plates
       have h7:=ok.machines
       have h8:=ok.found
       intro m hm hml
       simp only [decide_eq_true_eq,decide_eq_false_iff_not] at hml
       first
       | (intro e
          have ek:=ok.mach m (by omega)
          simp only [Bool.not_eq_true',Bool.not_eq_false',decide_eq_true_eq,decide_eq_false_iff_not] at e
          have e':((t.minutes.getD m []).length:Int)=r.plates ∨ ¬ ((t.minutes.getD m []).length:Int)=r.plates:=by omega
          first
          | (rw [trM_bad (by omega) (trM_len e)]; done)
          | (intro p hpp hpl2
             simp only [decide_eq_true_eq,decide_eq_false_iff_not] at hpl2
             first
             | omega
             | ((repeat intro _); simp only [inI]; omega)
             | (intro e2
                simp only [Bool.not_eq_true'] at e2
                have e3:trM1 r t m p=false:=e2
                rw [trM_bad (by omega) (trM_one (by omega) e3)]; done)
             | (intro e2
                simp only [Bool.not_eq_false'] at e2
                have e3:trM1 r t m p=true:=e2
                exact ⟨by omega,lt_succ_cases hpp.2 e3⟩)
             | exact ⟨by omega,lt_succ_cases hm.2 (trM_of e (fun j hj=>hpp.2 j (by omega)))⟩
             | skip))
       | (intro i hi hil
          simp only [decide_eq_true_eq,decide_eq_false_iff_not] at hil
          first
          | (rw [isTruth_of h0 (fun j hj=>hm.2 j (by omega)) (fun j hj=>hi.2 j (by omega))]; done)
          | (have ef:=ok.fnd i (by omega)
             have e3:=frm_len ok (i:=i) (by omega)
             first
             | omega
             | (intro e
                simp only [Bool.not_eq_true',Bool.not_eq_false'] at e
                first
                | (rw [trF_bad (by omega) (trF_in e)]; done)
                | (intro p hpp hpl2
                   have hin:0<=t.frm.getD i 0/\t.frm.getD i 0 < r.machines.length:=by
                     refine frm_range ok (i:=i) (by omega) ?_
                     simpa [isIn] using e
                   have hmm:=hm.2 (t.frm.getD i 0).toNat (by omega)
                   simp only [trM,Bool.and_eq_true] at hmm
                   have hm1:=of_decide_eq_true hmm.1
                   rw [tmin] at hm1
                   simp only [decide_eq_true_eq,decide_eq_false_iff_not] at hpl2
                   first
                   | omega
                   | ((repeat intro _); simp only [inI]; omega)
                   | exact ⟨by omega,lt_succ_cases hi.2 (trF_of e (fun j hj=>hpp.2 j (by omega)))⟩
                   | (intro e2
                      rw [shows_eq _ (ok.new i (by omega) p (by omega))] at e2
                      simp only [Bool.not_eq_true'] at e2
                      have e3:trF1 r t i p=false:=e2
                      rw [trF_bad (by omega) (trF_one (by omega) e3)]; done)
                   | (intro e2
                      rw [shows_eq _ (ok.new i (by omega) p (by omega))] at e2
                      simp only [Bool.not_eq_false'] at e2
                      have e3:trF1 r t i p=true:=e2
                      exact ⟨by omega,lt_succ_cases hpp.2 e3⟩)
                   | skip))))))
abbrev q72_1 (r:Run) (t:Trth) (C:Prop):Prop:=fits r/\tfits t->(!decide (check r=0))=false->C
theorem w72 (r:Run) (t:Trth)
 (o0:fits r/\tfits t->(!decide (check r=0))->false=holdsB r t)
 (o1:q72_1 r t (okRun r=true))
 (o2:q72_1 r t (isTruth r t=holdsB r t))
 (o3:q72_1 r t (0=check r)) :
  Triple Try.prog 72 (s72 r t):=by
 refine triple_of Try.func72 rfl Try.call72 T0_ok _ rfl rfl rfl rfl (Nat.le_of_ble_eq_true (by kernel_rfl)) (fun _ _ _ _ h=>h) ?_
 intro hp C hC _ hE
 obtain ⟨P,w0,E0,av,hA⟩:=C
 subst hC
 refine swp_seq ?_
 refine sR (kt:=[2,3]) (kh:=[0,8]) (q:=True/\True/\True/\True/\True) (st':=ASt.mk [(2,.ptr 0 []),(3,.ptr 8 [])] [(0,.cells 25 (cRun r)),(8,.cells 56 (cTrth t))] 32) (by kernel_rfl) ⟨tv,tv,tv,tv,tv⟩ ?_
 refine swp_seq (swp_seq ?_)
 refine swp_region T0_ok mixed (cs:=[(1,CallSpec.eq (s71 r) [true])]) (kt:=[2,3,6]) (kh:=[0,8]) (q:=True/\((AV.agg (cRun r)=AV.agg (cRun r)/\True)/\Triple Try.prog 71 (s71 r)/\fits r/\True /\ ∀ (i0:Env),True)/\True/\True) (st':=ASt.mk [(2,.ptr 0 []),(3,.ptr 8 []),(6,iv (check r))] [(0,.cells 25 (cRun r)),(8,.cells 56 (cTrth t))] 56) (by kernel_rfl) ⟨tv,⟨⟨rfl,tv⟩,(t71 (r)),hp.1,tv,(fun i0=>tv)⟩,tv,tv⟩ ?_
 refine swp_seq ?_
 refine sR (kt:=[2,3,6,10]) (kh:=[0,8]) (q:=True/\True/\True) (st':=ASt.mk [(2,.ptr 0 []),(3,.ptr 8 []),(6,iv (check r)),(10,bv !decide (check r=0))] [(0,.cells 25 (cRun r)),(8,.cells 56 (cTrth t))] 72) (by kernel_rfl) ⟨tv,tv,tv⟩ ?_
 refine swp_cond (!decide (check r=0)) (by kernel_rfl) (fun h1 => ?_) (fun h1 => ?_)
 ·refine swp_seq ?_
  refine sR (kt:=[4,5]) (kh:=[]) (q:=True/\True/\True/\True) (st':=ASt.mk [(4,bv false),(5,iv (check r))] [] 96) (by kernel_rfl) ⟨tv,tv,tv,tv⟩ ?_
  refine swp_ret ?_
  exact ret_q [] ((True/\True/\True)/\((bv false=bv (holdsB r t)/\nilN = [])/\(iv (check r)=iv (check r)/\nilN = [])/\True)/\T3) (by kernel_rfl) ⟨⟨tv,tv,tv⟩,⟨⟨(congrArg bv (o0 hp h1)),rfl⟩,⟨rfl,rfl⟩,tv⟩,rfl,rfl,rfl⟩
 ·refine swp_skip (swp_seq ?_)
  refine swp_region T0_ok mixed (cs:=[(2,CallSpec.eq (s115 r t) [true,true])]) (kt:=[4,5]) (kh:=[]) (q:=True/\True/\((AV.agg (cRun r)=AV.agg (cRun r)/\AV.agg (cTrth t)=AV.agg (cTrth t)/\True)/\Triple Try.prog 115 (s115 r t)/\(okRun r=true/\tfits t)/\True /\ ∀ (i2:Env),True)/\True/\True/\True) (st':=ASt.mk [(4,bv (isTruth r t)),(5,iv 0)] [] 112) (by kernel_rfl) ⟨tv,tv,⟨⟨rfl,rfl,tv⟩,(t115 (r) (t)),⟨(o1 hp h1),hp.2⟩,tv,(fun i2=>tv)⟩,tv,tv,tv⟩ ?_
  refine swp_ret ?_
  exact ret_q [] ((True/\True/\True)/\((bv (isTruth r t)=bv (holdsB r t)/\nilN = [])/\(iv 0=iv (check r)/\nilN = [])/\True)/\T3) (by kernel_rfl) ⟨⟨tv,tv,tv⟩,⟨⟨(congrArg bv (o2 hp h1)),rfl⟩,⟨(congrArg iv (o3 hp h1)),rfl⟩,tv⟩,rfl,rfl,rfl⟩
theorem t72 (r:Run) (t:Trth):Triple Try.prog 72 (s72 r t):=by
 apply w72
 all_goals (first
  | ((repeat intro _) <;> (try simp only [v0,v1,v2,v3,v4,v5,v6,v7,v8,v9,inI,fits,Go.Sh.small] at *) <;> first | (exact rfl) | omega | exact vz | (simp_all; done) | (simp_all; omega))
  | (intro _ h; rw [holdsB,if_neg (by simpa using h)]; done)
  | (intro hp h; exact check_zero.1 (by simpa using h))
  | (intro _ h; rw [holdsB,if_pos (by simpa using h)]; done)
  | (intro _ h; symm; simpa using h))
abbrev q41_1 (r:Run) (C:Prop):Prop:=fits r->(!decide (openE r true=0))=false->C
abbrev q41_2 (r:Run) (C:Nat->Prop):Prop:=q41_1 r (∀ (x2:Nat),x2<=r.machines.length->decide ((x2:Int) < (↑(r.machines.length):Int))=true->C x2)
abbrev q41_3 (r:Run) (C:Nat->Nat->Prop):Prop:=q41_2 r fun x2 => ∀ (x6:Nat),x6<=r.plates.toNat->decide ((x6:Int) < (↑(r.plates.toNat):Int))=true->C x2 x6
abbrev q41_4 (r:Run) (C:Nat->Nat->Prop):Prop:=q41_2 r fun x2 => ∀ (x6:Nat),x6<=r.plates.toNat->decide ((x6:Int) < (↑(r.plates.toNat):Int))=false->C x2 x6
abbrev q41_5 (r:Run) (C:Nat->Prop):Prop:=q41_1 r (∀ (x2:Nat),x2<=r.machines.length->decide ((x2:Int) < (↑(r.machines.length):Int))=false->C x2)
theorem w41 (r:Run)
 (o0:fits r->(!decide (openE r true=0))->(truthP r).minutes.length=0)
 (o1:fits r->(!decide (openE r true=0))->(truthP r).frm.length=0)
 (o2:q41_1 r (0 < (↑((openL r true).length):Int)))
 (o3:q41_1 r (0=(↑0:Int)))
 (o4:q41_1 r (0<=r.machines.length))
 (o5:q41_2 r fun x2=>0 < (↑((openL r true).length):Int))
 (o6:q41_2 r fun x2=>0<=(x2:Int))
 (o7:q41_2 r fun x2=>(x2:Int) < (↑3:Int))
 (o8:q41_2 r fun x2=>(x2:Int) < (↑3:Int))
 (o9:q41_2 r fun x2=>0<=r.plates)
 (o10:q41_2 r fun x2=>r.plates<=(↑3:Int))
 (o11:q41_2 r fun x2=>0=(↑0:Int))
 (o12:q41_2 r fun x2=>0<=r.plates.toNat)
 (o13:q41_3 r fun x2 x6=>0<=(x6:Int))
 (o14:q41_3 r fun x2 x6=>(x6:Int) < (↑(r.plates.toNat):Int))
 (o15:q41_3 r fun x2 x6=>x6 + 1<=65536)
 (o16:q41_3 r fun x2 x6=>inI ((x6:Int) + 1))
 (o17:q41_3 r fun x2 x6=>(x6:Int) + 1=(↑(x6 + 1):Int))
 (o18:q41_3 r fun x2 x6 => ∀ (i12:Nat),i12 < x6 + 1->catF x6 (fun (k:Nat)=>[iv ((wRow ((openL r true).getD 0 default) x2 r.plates.toNat).getD k 0)]) (fun (j:Nat)=>List.getD [[iv (((openL r true).getD 0 default).whn x2 x6).lo]] j (TI.za ti3)) i12 = [iv ((wRow ((openL r true).getD 0 default) x2 r.plates.toNat).getD i12 0)])
 (o19:q41_3 r fun x2 x6=>x6 + 1<=r.plates.toNat)
 (o20:q41_3 r fun x2 x6=>r.plates.toNat - (x6 + 1) < r.plates.toNat - x6)
 (o21:q41_4 r fun x2 x6=>x2 + 1<=65536)
 (o22:q41_4 r fun x2 x6=>inI ((x2:Int) + 1))
 (o23:q41_4 r fun x2 x6=>(x2:Int) + 1=(↑(x2 + 1):Int))
 (o24:q41_4 r fun x2 x6 => ∀ (i16:Nat),i16 < x2 + 1->catF x2 (fun (k:Nat)=>[aInts (wRow ((openL r true).getD 0 default) k r.plates.toNat)]) (fun (j:Nat)=>List.getD [[AV.sl 1 x6 fun (k:Nat)=>[iv ((wRow ((openL r true).getD 0 default) x2 r.plates.toNat).getD k 0)]]] j (TI.za ti30)) i16 = [aInts (wRow ((openL r true).getD 0 default) i16 r.plates.toNat)])
 (o25:q41_4 r fun x2 x6=>x2 + 1<=r.machines.length)
 (o26:q41_4 r fun x2 x6=>r.machines.length - (x2 + 1) < r.machines.length - x2)
 (o27:q41_5 r fun x2=>x2=(truthP r).minutes.length)
 (o28:q41_5 r fun x2 => ∀ (i18:Nat),i18 < (truthP r).minutes.length -> [aInts (wRow ((openL r true).getD 0 default) i18 r.plates.toNat)] = [aInts ((truthP r).minutes.getD i18 [])])
 (o29:q41_5 r fun x2=>((openL r true).getD 0 default).frm.length=(truthP r).frm.length)
 (o30:q41_5 r fun x2 => ∀ (i20:Nat),i20 < (truthP r).frm.length -> [iv (((openL r true).getD 0 default).frm.getD i20 0)] = [iv ((truthP r).frm.getD i20 0)])
 (o31:q41_5 r fun x2=>0=openE r true) :
  Triple Try.prog 41 (s41 r):=by
 refine triple_of Try.func41 rfl Try.call41 T0_ok _ rfl rfl rfl rfl (Nat.le_of_ble_eq_true (by kernel_rfl)) (fun _ _ _ _ h=>h) ?_
 intro hp C hC _ hE
 obtain ⟨P,w0,E0,av,hA⟩:=C
 subst hC
 refine swp_seq ?_
 refine sR (kt:=[1,2]) (kh:=[0,8]) (q:=True/\True/\True/\True) (st':=ASt.mk [(1,.ptr 0 []),(2,.ptr 8 [])] [(0,.cells 25 (cRun r)),(8,.cells 56 [nilv,nilv])] 24) (by kernel_rfl) ⟨tv,tv,tv,tv⟩ ?_
 refine swp_seq ?_
 refine swp_region T0_ok mixed (cs:=[(1,CallSpec.eq (s78 r true) [true,true])]) (kt:=[1,2,4,5]) (kh:=[0,8]) (q:=True/\((AV.agg (cRun r)=AV.agg (cRun r)/\bv true=bv true/\True)/\Triple Try.prog 78 (s78 r true)/\fits r/\True /\ ∀ (i0:Env),True)/\True/\True/\True/\True/\True/\True) (st':=ASt.mk [(1,.ptr 0 []),(2,.ptr 8 []),(4,aWays (openL r true)),(5,iv (openE r true))] [(0,.cells 25 (cRun r)),(8,.cells 56 [nilv,nilv])] 80) (by kernel_rfl) ⟨tv,⟨⟨rfl,rfl,tv⟩,(t78 (r) (true)),hp,tv,(fun i0=>tv)⟩,tv,tv,tv,tv,tv,tv⟩ ?_
 refine swp_seq (swp_seq ?_)
 refine sR (kt:=[1,2,4,5,17]) (kh:=[0,8]) (q:=True/\True/\True) (st':=ASt.mk [(1,.ptr 0 []),(2,.ptr 8 []),(4,aWays (openL r true)),(5,iv (openE r true)),(17,bv !decide (openE r true=0))] [(0,.cells 25 (cRun r)),(8,.cells 56 [nilv,nilv])] 96) (by kernel_rfl) ⟨tv,tv,tv⟩ ?_
 refine swp_cond (!decide (openE r true=0)) (by kernel_rfl) (fun h1 => ?_) (fun h1 => ?_)
 ·refine swp_seq ?_
  refine sR (kt:=[2,3]) (kh:=[8]) (q:=True/\True/\True/\True/\True) (st':=ASt.mk [(2,.ptr 8 []),(3,iv (openE r true))] [(8,.cells 56 [nilv,nilv])] 128) (by kernel_rfl) ⟨tv,tv,tv,tv,tv⟩ ?_
  refine swp_ret ?_
  exact ret_q [] ((True/\True/\True)/\(((truthP r).minutes.length=0/\(truthP r).frm.length=0/\True)/\(iv (openE r true)=iv (openE r true)/\nilN = [])/\True)/\T3) (by kernel_rfl) ⟨⟨tv,tv,tv⟩,⟨⟨(o0 hp h1),(o1 hp h1),tv⟩,⟨rfl,rfl⟩,tv⟩,rfl,rfl,rfl⟩
 ·refine swp_skip (swp_seq ?_)
  refine sR (kt:=[1,2,4,6]) (kh:=[0,8,136]) (q:=True/\(Int.ofNat 0<=Int.ofNat 0/\0 < (↑((openL r true).length):Int))/\True/\True/\True/\True/\True/\True) (st':=ASt.mk [(1,.ptr 0 []),(2,.ptr 8 []),(4,aWays (openL r true)),(6,.ptr 136 [])] [(0,.cells 25 (cRun r)),(8,.cells 56 [nilv,nilv]),(136,.cells 56 [nilv,aInts ((openL r true).getD 0 default).frm])] 152) (by kernel_rfl) ⟨tv,⟨(by decide),(o2 hp h1)⟩,tv,tv,tv,tv,tv,tv⟩ ?_
  refine swp_seq (swp_seq ?_)
  refine sR (kt:=[1,2,4,6,27,28]) (kh:=[0,8,136]) (q:=True/\True/\True/\True/\True) (st':=ASt.mk [(1,.ptr 0 []),(2,.ptr 8 []),(4,aWays (openL r true)),(6,.ptr 136 []),(27,iv (↑(r.machines.length):Int)),(28,iv 0)] [(0,.cells 25 (cRun r)),(8,.cells 56 [nilv,nilv]),(136,.cells 56 [nilv,aInts ((openL r true).getD 0 default).frm])] 184) (by kernel_rfl) ⟨tv,tv,tv,tv,tv⟩ ?_
  refine swp_block ?_
  refine swp_loopA (Hint.ann (h41a r) [(1,AV.ptr 0 []),(2,AV.ptr 8 []),(4,aWays (openL r true)),(27,iv (↑(r.machines.length):Int))] [(0,OB.cells 25 (cRun r)),(8,OB.cells 56 [nilv,nilv])] 10184) (ent_q hE [] [(0,.same 0),(8,.same 8),(5000,.same 136),(5001,.nil)] [4,27] [0,8] (((some (Src.same 0)=some (Src.same 0)/\nilP = [])/\(some (Src.same 8)=some (Src.same 8)/\nilP = [])/\(aWays (openL r true)=aWays (openL r true)/\true=true)/\(iv (↑(r.machines.length):Int)=iv (↑(r.machines.length):Int)/\true=true)/\(iv 0=iv (↑0:Int)/\nilN = [])/\(some (Src.same 136)=some (Src.same 136)/\nilP = [])/\True)/\((OB.cells 25 (cRun r)=OB.cells 25 (cRun r)/\true=true)/\(OB.cells 56 [nilv,nilv]=OB.cells 56 [nilv,nilv]/\true=true)/\(56=56/\(some Src.nil=some Src.nil/\(1=1/\((openL r true).getD 0 default).frm.length=((openL r true).getD 0 default).frm.length /\ ∀ (i3:Nat),i3 < ((openL r true).getD 0 default).frm.length -> [iv (((openL r true).getD 0 default).frm.getD i3 0)] = [iv (((openL r true).getD 0 default).frm.getD i3 0)])/\True)/\true=true)/\0=0/\True)/\T2) (by kernel_rfl) (by kernel_rfl) ⟨⟨⟨rfl,rfl⟩,⟨rfl,rfl⟩,⟨rfl,rfl⟩,⟨rfl,rfl⟩,⟨(congrArg iv (o3 hp h1)),rfl⟩,⟨rfl,rfl⟩,tv⟩,⟨⟨rfl,rfl⟩,⟨rfl,rfl⟩,⟨rfl,⟨rfl,⟨rfl,rfl,(fun i3=>(fun h4=>rfl))⟩,tv⟩,rfl⟩,rfl,tv⟩,rfl,rfl⟩) (o4 hp h1) (fun (x2:Nat) hx2 => ?_)
  refine swp_seq ?_
  refine sR (kt:=[1,2,4,27,28,6,29]) (kh:=[0,8,5000,5001]) (q:=True/\True) (st':=ASt.mk [(1,.ptr 0 []),(2,.ptr 8 []),(4,aWays (openL r true)),(27,iv (↑(r.machines.length):Int)),(28,iv (x2:Int)),(6,.ptr 5000 []),(29,bv (decide ((x2:Int) < (↑(r.machines.length):Int))))] [(0,.cells 25 (cRun r)),(8,.cells 56 [nilv,nilv]),(5000,.cells 56 [.vec 5001,aInts ((openL r true).getD 0 default).frm]),(5001,.vec 30 1 x2 fun (k:Nat)=>[aInts (wRow ((openL r true).getD 0 default) k r.plates.toNat)])] 10192) (by kernel_rfl) ⟨tv,tv⟩ ?_
  refine swp_seq ?_
  refine swp_cond (decide ((x2:Int) < (↑(r.machines.length):Int))) (by kernel_rfl) (fun h5 => ?_) (fun h5 => ?_)
  ·refine swp_skip (swp_seq (swp_block (swp_seq ?_)))
   refine sR (kt:=[1,2,4,27,28,6,7]) (kh:=[0,8,5000,5001]) (q:=True/\True/\True) (st':=ASt.mk [(1,.ptr 0 []),(2,.ptr 8 []),(4,aWays (openL r true)),(27,iv (↑(r.machines.length):Int)),(28,iv (x2:Int)),(6,.ptr 5000 []),(7,iv (x2:Int))] [(0,.cells 25 (cRun r)),(8,.cells 56 [nilv,nilv]),(5000,.cells 56 [.vec 5001,aInts ((openL r true).getD 0 default).frm]),(5001,.vec 30 1 x2 fun (k:Nat)=>[aInts (wRow ((openL r true).getD 0 default) k r.plates.toNat)])] 10208) (by kernel_rfl) ⟨tv,tv,tv⟩ ?_
   refine swp_seq ?_
   refine sR (kt:=[1,2,4,27,28,6,7,8]) (kh:=[0,8,5000,5001]) (q:=True/\True) (st':=ASt.mk [(1,.ptr 0 []),(2,.ptr 8 []),(4,aWays (openL r true)),(27,iv (↑(r.machines.length):Int)),(28,iv (x2:Int)),(6,.ptr 5000 []),(7,iv (x2:Int)),(8,nilv)] [(0,.cells 25 (cRun r)),(8,.cells 56 [nilv,nilv]),(5000,.cells 56 [.vec 5001,aInts ((openL r true).getD 0 default).frm]),(5001,.vec 30 1 x2 fun (k:Nat)=>[aInts (wRow ((openL r true).getD 0 default) k r.plates.toNat)])] 10216) (by kernel_rfl) ⟨tv,tv⟩ ?_
   refine swp_seq (swp_seq ?_)
   refine sR (kt:=[1,2,4,27,28,6,8,38,39,40]) (kh:=[0,8,5000,5001]) (q:=True/\True/\(Int.ofNat 0<=Int.ofNat 0/\0 < (↑((openL r true).length):Int))/\True/\(0<=(x2:Int)/\(x2:Int) < (↑3:Int)/\(x2:Int) < (↑3:Int))/\True/\True/\(0<=r.plates/\r.plates<=(↑3:Int))/\True/\True/\True) (st':=ASt.mk [(1,.ptr 0 []),(2,.ptr 8 []),(4,aWays (openL r true)),(27,iv (↑(r.machines.length):Int)),(28,iv (x2:Int)),(6,.ptr 5000 []),(8,nilv),(38,.sl 2 r.plates.toNat fun (p:Nat)=>cSpan (((openL r true).getD 0 default).whn x2 p)),(39,iv (↑(r.plates.toNat):Int)),(40,iv 0)] [(0,.cells 25 (cRun r)),(8,.cells 56 [nilv,nilv]),(5000,.cells 56 [.vec 5001,aInts ((openL r true).getD 0 default).frm]),(5001,.vec 30 1 x2 fun (k:Nat)=>[aInts (wRow ((openL r true).getD 0 default) k r.plates.toNat)])] 10296) (by kernel_rfl) ⟨tv,tv,⟨(by decide),(o5 hp h1 x2 hx2 h5)⟩,tv,⟨(o6 hp h1 x2 hx2 h5),(o7 hp h1 x2 hx2 h5),(o8 hp h1 x2 hx2 h5)⟩,tv,tv,⟨(o9 hp h1 x2 hx2 h5),(o10 hp h1 x2 hx2 h5)⟩,tv,tv,tv⟩ ?_
   refine swp_block ?_
   refine swp_loopA (Hint.ann (h41b r x2) [(1,AV.ptr 0 []),(2,AV.ptr 8 []),(4,aWays (openL r true)),(27,iv (↑(r.machines.length):Int)),(28,iv (x2:Int)),(6,AV.ptr 5000 []),(38,AV.sl 2 r.plates.toNat fun (p:Nat)=>cSpan (((openL r true).getD 0 default).whn x2 p)),(39,iv (↑(r.plates.toNat):Int))] [(0,OB.cells 25 (cRun r)),(8,OB.cells 56 [nilv,nilv]),(5000,OB.cells 56 [AV.vec 5001,aInts ((openL r true).getD 0 default).frm]),(5001,OB.vec 30 1 x2 fun (k:Nat)=>[aInts (wRow ((openL r true).getD 0 default) k r.plates.toNat)])] 20296) (ent_q hE [] [(0,.same 0),(8,.same 8),(5000,.same 5000),(5001,.same 5001),(5002,.nil)] [4,27,28,38,39] [0,8,5001] (((some (Src.same 0)=some (Src.same 0)/\nilP = [])/\(some (Src.same 8)=some (Src.same 8)/\nilP = [])/\(aWays (openL r true)=aWays (openL r true)/\true=true)/\(iv (↑(r.machines.length):Int)=iv (↑(r.machines.length):Int)/\true=true)/\(iv (x2:Int)=iv (x2:Int)/\true=true)/\(some (Src.same 5000)=some (Src.same 5000)/\nilP = [])/\(((AV.sl 2 r.plates.toNat fun (p:Nat)=>cSpan (((openL r true).getD 0 default).whn x2 p))=AV.sl 2 r.plates.toNat fun (p:Nat)=>cSpan (((openL r true).getD 0 default).whn x2 p))/\true=true)/\(iv (↑(r.plates.toNat):Int)=iv (↑(r.plates.toNat):Int)/\true=true)/\(iv 0=iv (↑0:Int)/\nilN = [])/\some Src.nil=some Src.nil/\True)/\((OB.cells 25 (cRun r)=OB.cells 25 (cRun r)/\true=true)/\(OB.cells 56 [nilv,nilv]=OB.cells 56 [nilv,nilv]/\true=true)/\(56=56/\(some (Src.same 5001)=some (Src.same 5001)/\(1=1/\((openL r true).getD 0 default).frm.length=((openL r true).getD 0 default).frm.length /\ ∀ (i7:Nat),i7 < ((openL r true).getD 0 default).frm.length -> [iv (((openL r true).getD 0 default).frm.getD i7 0)] = [iv (((openL r true).getD 0 default).frm.getD i7 0)])/\True)/\true=true)/\(((OB.vec 30 1 x2 fun (k:Nat)=>[aInts (wRow ((openL r true).getD 0 default) k r.plates.toNat)])=OB.vec 30 1 x2 fun (k:Nat)=>[aInts (wRow ((openL r true).getD 0 default) k r.plates.toNat)])/\true=true)/\0=0/\True)/\T2) (by kernel_rfl) (by kernel_rfl) ⟨⟨⟨rfl,rfl⟩,⟨rfl,rfl⟩,⟨rfl,rfl⟩,⟨rfl,rfl⟩,⟨rfl,rfl⟩,⟨rfl,rfl⟩,⟨rfl,rfl⟩,⟨rfl,rfl⟩,⟨(congrArg iv (o11 hp h1 x2 hx2 h5)),rfl⟩,rfl,tv⟩,⟨⟨rfl,rfl⟩,⟨rfl,rfl⟩,⟨rfl,⟨rfl,⟨rfl,rfl,(fun i7=>(fun h8=>rfl))⟩,tv⟩,rfl⟩,⟨rfl,rfl⟩,rfl,tv⟩,rfl,rfl⟩) (o12 hp h1 x2 hx2 h5) (fun (x6:Nat) hx6 => ?_)
   refine swp_seq ?_
   refine sR (kt:=[1,2,4,27,28,6,38,39,40,8,41]) (kh:=[0,8,5000,5002,5001]) (q:=True/\True) (st':=ASt.mk [(1,.ptr 0 []),(2,.ptr 8 []),(4,aWays (openL r true)),(27,iv (↑(r.machines.length):Int)),(28,iv (x2:Int)),(6,.ptr 5000 []),(38,.sl 2 r.plates.toNat fun (p:Nat)=>cSpan (((openL r true).getD 0 default).whn x2 p)),(39,iv (↑(r.plates.toNat):Int)),(40,iv (x6:Int)),(8,.vec 5002),(41,bv (decide ((x6:Int) < (↑(r.plates.toNat):Int))))] [(0,.cells 25 (cRun r)),(8,.cells 56 [nilv,nilv]),(5000,.cells 56 [.vec 5001,aInts ((openL r true).getD 0 default).frm]),(5002,.vec 3 1 x6 fun (k:Nat)=>[iv ((wRow ((openL r true).getD 0 default) x2 r.plates.toNat).getD k 0)]),(5001,.vec 30 1 x2 fun (k:Nat)=>[aInts (wRow ((openL r true).getD 0 default) k r.plates.toNat)])] 20304) (by kernel_rfl) ⟨tv,tv⟩ ?_
   refine swp_seq ?_
   refine swp_cond (decide ((x6:Int) < (↑(r.plates.toNat):Int))) (by kernel_rfl) (fun h9 => ?_) (fun h9 => ?_)
   ·refine swp_skip (swp_seq (swp_block (swp_seq ?_)))
    refine sR (kt:=[1,2,4,27,28,6,38,39,40,8,10]) (kh:=[0,8,5000,5002,20320,5001]) (q:=(0<=(x6:Int)/\(x6:Int) < (↑(r.plates.toNat):Int))/\True/\True/\True/\True) (st':=ASt.mk [(1,.ptr 0 []),(2,.ptr 8 []),(4,aWays (openL r true)),(27,iv (↑(r.machines.length):Int)),(28,iv (x2:Int)),(6,.ptr 5000 []),(38,.sl 2 r.plates.toNat fun (p:Nat)=>cSpan (((openL r true).getD 0 default).whn x2 p)),(39,iv (↑(r.plates.toNat):Int)),(40,iv (x6:Int)),(8,.vec 5002),(10,.ptr 20320 [])] [(0,.cells 25 (cRun r)),(8,.cells 56 [nilv,nilv]),(5000,.cells 56 [.vec 5001,aInts ((openL r true).getD 0 default).frm]),(5002,.vec 3 1 x6 fun (k:Nat)=>[iv ((wRow ((openL r true).getD 0 default) x2 r.plates.toNat).getD k 0)]),(20320,.cells 37 (cSpan (((openL r true).getD 0 default).whn x2 x6))),(5001,.vec 30 1 x2 fun (k:Nat)=>[aInts (wRow ((openL r true).getD 0 default) k r.plates.toNat)])] 20336) (by kernel_rfl) ⟨⟨(o13 hp h1 x2 hx2 h5 x6 hx6 h9),(o14 hp h1 x2 hx2 h5 x6 hx6 h9)⟩,tv,tv,tv,tv⟩ ?_
    refine sR (kt:=[1,2,4,27,28,6,38,39,40,8]) (kh:=[0,8,5000,20368,5001]) (q:=True/\True/\True/\True/\x6 + 1<=65536/\True/\True) (st':=ASt.mk [(1,.ptr 0 []),(2,.ptr 8 []),(4,aWays (openL r true)),(27,iv (↑(r.machines.length):Int)),(28,iv (x2:Int)),(6,.ptr 5000 []),(38,.sl 2 r.plates.toNat fun (p:Nat)=>cSpan (((openL r true).getD 0 default).whn x2 p)),(39,iv (↑(r.plates.toNat):Int)),(40,iv (x6:Int)),(8,.vec 20368)] [(0,.cells 25 (cRun r)),(8,.cells 56 [nilv,nilv]),(5000,.cells 56 [.vec 5001,aInts ((openL r true).getD 0 default).frm]),(20368,.vec 3 1 (x6 + 1) (catF x6 (fun (k:Nat)=>[iv ((wRow ((openL r true).getD 0 default) x2 r.plates.toNat).getD k 0)]) fun (j:Nat)=>List.getD [[iv (((openL r true).getD 0 default).whn x2 x6).lo]] j (TI.za ti3))),(5001,.vec 30 1 x2 fun (k:Nat)=>[aInts (wRow ((openL r true).getD 0 default) k r.plates.toNat)])] 20384) (by kernel_rfl) ⟨tv,tv,tv,tv,(o15 hp h1 x2 hx2 h5 x6 hx6 h9),tv,tv⟩ ?_
    refine sR (kt:=[1,2,4,27,28,6,38,39,40,8]) (kh:=[0,8,5000,20368,5001]) (q:=inI ((x6:Int) + 1)/\True/\True) (st':=ASt.mk [(1,.ptr 0 []),(2,.ptr 8 []),(4,aWays (openL r true)),(27,iv (↑(r.machines.length):Int)),(28,iv (x2:Int)),(6,.ptr 5000 []),(38,.sl 2 r.plates.toNat fun (p:Nat)=>cSpan (((openL r true).getD 0 default).whn x2 p)),(39,iv (↑(r.plates.toNat):Int)),(40,iv ((x6:Int) + 1)),(8,.vec 20368)] [(0,.cells 25 (cRun r)),(8,.cells 56 [nilv,nilv]),(5000,.cells 56 [.vec 5001,aInts ((openL r true).getD 0 default).frm]),(20368,.vec 3 1 (x6 + 1) (catF x6 (fun (k:Nat)=>[iv ((wRow ((openL r true).getD 0 default) x2 r.plates.toNat).getD k 0)]) fun (j:Nat)=>List.getD [[iv (((openL r true).getD 0 default).whn x2 x6).lo]] j (TI.za ti3))),(5001,.vec 30 1 x2 fun (k:Nat)=>[aInts (wRow ((openL r true).getD 0 default) k r.plates.toNat)])] 20400) (by kernel_rfl) ⟨(o16 hp h1 x2 hx2 h5 x6 hx6 h9),tv,tv⟩ ?_
    exact loop_next (Hint.ann (h41b r x2) [(1,AV.ptr 0 []),(2,AV.ptr 8 []),(4,aWays (openL r true)),(27,iv (↑(r.machines.length):Int)),(28,iv (x2:Int)),(6,AV.ptr 5000 []),(38,AV.sl 2 r.plates.toNat fun (p:Nat)=>cSpan (((openL r true).getD 0 default).whn x2 p)),(39,iv (↑(r.plates.toNat):Int))] [(0,OB.cells 25 (cRun r)),(8,OB.cells 56 [nilv,nilv]),(5000,OB.cells 56 [AV.vec 5001,aInts ((openL r true).getD 0 default).frm]),(5001,OB.vec 30 1 x2 fun (k:Nat)=>[aInts (wRow ((openL r true).getD 0 default) k r.plates.toNat)])] 20296) x6 (ent_q hE [] [(0,.same 0),(8,.same 8),(5000,.same 5000),(5001,.same 5001),(5002,.same 20368)] [4,27,28,38,39] [0,8,5001] (((some (Src.same 0)=some (Src.same 0)/\nilP = [])/\(some (Src.same 8)=some (Src.same 8)/\nilP = [])/\(aWays (openL r true)=aWays (openL r true)/\true=true)/\(iv (↑(r.machines.length):Int)=iv (↑(r.machines.length):Int)/\true=true)/\(iv (x2:Int)=iv (x2:Int)/\true=true)/\(some (Src.same 5000)=some (Src.same 5000)/\nilP = [])/\(((AV.sl 2 r.plates.toNat fun (p:Nat)=>cSpan (((openL r true).getD 0 default).whn x2 p))=AV.sl 2 r.plates.toNat fun (p:Nat)=>cSpan (((openL r true).getD 0 default).whn x2 p))/\true=true)/\(iv (↑(r.plates.toNat):Int)=iv (↑(r.plates.toNat):Int)/\true=true)/\(iv ((x6:Int) + 1)=iv (↑(x6 + 1):Int)/\nilN = [])/\some (Src.same 20368)=some (Src.same 20368)/\True)/\((OB.cells 25 (cRun r)=OB.cells 25 (cRun r)/\true=true)/\(OB.cells 56 [nilv,nilv]=OB.cells 56 [nilv,nilv]/\true=true)/\(56=56/\(some (Src.same 5001)=some (Src.same 5001)/\(1=1/\((openL r true).getD 0 default).frm.length=((openL r true).getD 0 default).frm.length /\ ∀ (i10:Nat),i10 < ((openL r true).getD 0 default).frm.length -> [iv (((openL r true).getD 0 default).frm.getD i10 0)] = [iv (((openL r true).getD 0 default).frm.getD i10 0)])/\True)/\true=true)/\(((OB.vec 30 1 x2 fun (k:Nat)=>[aInts (wRow ((openL r true).getD 0 default) k r.plates.toNat)])=OB.vec 30 1 x2 fun (k:Nat)=>[aInts (wRow ((openL r true).getD 0 default) k r.plates.toNat)])/\true=true)/\(3=3/\1=1/\x6 + 1=x6 + 1 /\ ∀ (i12:Nat),i12 < x6 + 1->catF x6 (fun (k:Nat)=>[iv ((wRow ((openL r true).getD 0 default) x2 r.plates.toNat).getD k 0)]) (fun (j:Nat)=>List.getD [[iv (((openL r true).getD 0 default).whn x2 x6).lo]] j (TI.za ti3)) i12 = [iv ((wRow ((openL r true).getD 0 default) x2 r.plates.toNat).getD i12 0)])/\True)/\T2) (by kernel_rfl) (by kernel_rfl) ⟨⟨⟨rfl,rfl⟩,⟨rfl,rfl⟩,⟨rfl,rfl⟩,⟨rfl,rfl⟩,⟨rfl,rfl⟩,⟨rfl,rfl⟩,⟨rfl,rfl⟩,⟨rfl,rfl⟩,⟨(congrArg iv (o17 hp h1 x2 hx2 h5 x6 hx6 h9)),rfl⟩,rfl,tv⟩,⟨⟨rfl,rfl⟩,⟨rfl,rfl⟩,⟨rfl,⟨rfl,⟨rfl,rfl,(fun i10=>(fun h11=>rfl))⟩,tv⟩,rfl⟩,⟨rfl,rfl⟩,⟨rfl,rfl,rfl,(fun i12=>(fun h13=>(o18 hp h1 x2 hx2 h5 x6 hx6 h9 i12 h13)))⟩,tv⟩,rfl,rfl⟩) (o19 hp h1 x2 hx2 h5 x6 hx6 h9) (o20 hp h1 x2 hx2 h5 x6 hx6 h9)
   ·refine swp_exit ?_
    refine sR (kt:=[1,2,4,27,28,6]) (kh:=[0,8,5000,20336]) (q:=True/\True/\True/\True/\x2 + 1<=65536/\True/\True/\True) (st':=ASt.mk [(1,.ptr 0 []),(2,.ptr 8 []),(4,aWays (openL r true)),(27,iv (↑(r.machines.length):Int)),(28,iv (x2:Int)),(6,.ptr 5000 [])] [(0,.cells 25 (cRun r)),(8,.cells 56 [nilv,nilv]),(5000,.cells 56 [.vec 20336,aInts ((openL r true).getD 0 default).frm]),(20336,.vec 30 1 (x2 + 1) (catF x2 (fun (k:Nat)=>[aInts (wRow ((openL r true).getD 0 default) k r.plates.toNat)]) fun (j:Nat)=>List.getD [[.sl 1 x6 fun (k:Nat)=>[iv ((wRow ((openL r true).getD 0 default) x2 r.plates.toNat).getD k 0)]]] j (TI.za ti30)))] 20360) (by kernel_rfl) ⟨tv,tv,tv,tv,(o21 hp h1 x2 hx2 h5 x6 hx6 h9),tv,tv,tv⟩ ?_
    refine sR (kt:=[1,2,4,27,28,6]) (kh:=[0,8,5000,20336]) (q:=inI ((x2:Int) + 1)/\True/\True) (st':=ASt.mk [(1,.ptr 0 []),(2,.ptr 8 []),(4,aWays (openL r true)),(27,iv (↑(r.machines.length):Int)),(28,iv ((x2:Int) + 1)),(6,.ptr 5000 [])] [(0,.cells 25 (cRun r)),(8,.cells 56 [nilv,nilv]),(5000,.cells 56 [.vec 20336,aInts ((openL r true).getD 0 default).frm]),(20336,.vec 30 1 (x2 + 1) (catF x2 (fun (k:Nat)=>[aInts (wRow ((openL r true).getD 0 default) k r.plates.toNat)]) fun (j:Nat)=>List.getD [[.sl 1 x6 fun (k:Nat)=>[iv ((wRow ((openL r true).getD 0 default) x2 r.plates.toNat).getD k 0)]]] j (TI.za ti30)))] 20376) (by kernel_rfl) ⟨(o22 hp h1 x2 hx2 h5 x6 hx6 h9),tv,tv⟩ ?_
    exact loop_next (Hint.ann (h41a r) [(1,AV.ptr 0 []),(2,AV.ptr 8 []),(4,aWays (openL r true)),(27,iv (↑(r.machines.length):Int))] [(0,OB.cells 25 (cRun r)),(8,OB.cells 56 [nilv,nilv])] 10184) x2 (ent_q hE [] [(0,.same 0),(8,.same 8),(5000,.same 5000),(5001,.same 20336)] [4,27] [0,8] (((some (Src.same 0)=some (Src.same 0)/\nilP = [])/\(some (Src.same 8)=some (Src.same 8)/\nilP = [])/\(aWays (openL r true)=aWays (openL r true)/\true=true)/\(iv (↑(r.machines.length):Int)=iv (↑(r.machines.length):Int)/\true=true)/\(iv ((x2:Int) + 1)=iv (↑(x2 + 1):Int)/\nilN = [])/\(some (Src.same 5000)=some (Src.same 5000)/\nilP = [])/\True)/\((OB.cells 25 (cRun r)=OB.cells 25 (cRun r)/\true=true)/\(OB.cells 56 [nilv,nilv]=OB.cells 56 [nilv,nilv]/\true=true)/\(56=56/\(some (Src.same 20336)=some (Src.same 20336)/\(1=1/\((openL r true).getD 0 default).frm.length=((openL r true).getD 0 default).frm.length /\ ∀ (i14:Nat),i14 < ((openL r true).getD 0 default).frm.length -> [iv (((openL r true).getD 0 default).frm.getD i14 0)] = [iv (((openL r true).getD 0 default).frm.getD i14 0)])/\True)/\true=true)/\(30=30/\1=1/\x2 + 1=x2 + 1 /\ ∀ (i16:Nat),i16 < x2 + 1->catF x2 (fun (k:Nat)=>[aInts (wRow ((openL r true).getD 0 default) k r.plates.toNat)]) (fun (j:Nat)=>List.getD [[AV.sl 1 x6 fun (k:Nat)=>[iv ((wRow ((openL r true).getD 0 default) x2 r.plates.toNat).getD k 0)]]] j (TI.za ti30)) i16 = [aInts (wRow ((openL r true).getD 0 default) i16 r.plates.toNat)])/\True)/\T2) (by kernel_rfl) (by kernel_rfl) ⟨⟨⟨rfl,rfl⟩,⟨rfl,rfl⟩,⟨rfl,rfl⟩,⟨rfl,rfl⟩,⟨(congrArg iv (o23 hp h1 x2 hx2 h5 x6 hx6 h9)),rfl⟩,⟨rfl,rfl⟩,tv⟩,⟨⟨rfl,rfl⟩,⟨rfl,rfl⟩,⟨rfl,⟨rfl,⟨rfl,rfl,(fun i14=>(fun h15=>rfl))⟩,tv⟩,rfl⟩,⟨rfl,rfl,rfl,(fun i16=>(fun h17=>(o24 hp h1 x2 hx2 h5 x6 hx6 h9 i16 h17)))⟩,tv⟩,rfl,rfl⟩) (o25 hp h1 x2 hx2 h5 x6 hx6 h9) (o26 hp h1 x2 hx2 h5 x6 hx6 h9)
  ·refine swp_exit (swp_seq ?_)
   refine sR (kt:=[2,3]) (kh:=[8,5001]) (q:=True/\True/\True/\True) (st':=ASt.mk [(2,.ptr 8 []),(3,iv 0)] [(8,.cells 56 [.vec 5001,aInts ((openL r true).getD 0 default).frm]),(5001,.vec 30 1 x2 fun (k:Nat)=>[aInts (wRow ((openL r true).getD 0 default) k r.plates.toNat)])] 10216) (by kernel_rfl) ⟨tv,tv,tv,tv⟩ ?_
   refine swp_ret ?_
   exact ret_q [5001] ((True/\True/\True)/\(((1=1/\x2=(truthP r).minutes.length /\ ∀ (i18:Nat),i18 < (truthP r).minutes.length -> [aInts (wRow ((openL r true).getD 0 default) i18 r.plates.toNat)] = [aInts ((truthP r).minutes.getD i18 [])])/\(1=1/\((openL r true).getD 0 default).frm.length=(truthP r).frm.length /\ ∀ (i20:Nat),i20 < (truthP r).frm.length -> [iv (((openL r true).getD 0 default).frm.getD i20 0)] = [iv ((truthP r).frm.getD i20 0)])/\True)/\(iv 0=iv (openE r true)/\nilN = [])/\True)/\T3) (by kernel_rfl) ⟨⟨tv,tv,tv⟩,⟨⟨⟨rfl,(o27 hp h1 x2 hx2 h5),(fun i18=>(fun h19=>(o28 hp h1 x2 hx2 h5 i18 h19)))⟩,⟨rfl,(o29 hp h1 x2 hx2 h5),(fun i20=>(fun h21=>(o30 hp h1 x2 hx2 h5 i20 h21)))⟩,tv⟩,⟨(congrArg iv (o31 hp h1 x2 hx2 h5)),rfl⟩,tv⟩,rfl,rfl,rfl⟩
theorem t41 (r:Run):Triple Try.prog 41 (s41 r):=by
  apply w41
  all_goals (first
    | (intro _ h; rw [truthP,if_neg (openBad h)] <;> rfl)
    | ((repeat intro _) <;> (try simp only [v0,v1,v2,v3,v4,v5,v6,v7,v8,v9,inI,fits,Go.Sh.small] at *) <;> first | (exact rfl) | omega | exact vz | (simp_all; done) | (simp_all; omega))
    | (intro _ h
       have F:=openF h
       have h1:=F.pos
       have h3:=F.ok.plates
       have h4:=F.ok.machines
       first
       | omega
       | exact F.zero.symm
       | (intro m hm hl
          simp only [decide_eq_true_eq,decide_eq_false_iff_not] at hl
          first
          | exact F.zero.symm
          | omega
          | (intro p hp hpl
             simp only [decide_eq_true_eq,decide_eq_false_iff_not] at hpl
             first
             | omega
             | (simp only [inI]; omega)
             | (intro i hi; exact catF_idx (fun k=>[iv ((wRow ((openL r true).getD 0 default) m r.plates.toNat).getD k 0)]) (by rw [wRow_get _ _ (by omega)]) hi)
             | (intro i hi; exact catF_idx (fun k=>[aInts (wRow ((openL r true).getD 0 default) k r.plates.toNat)]) (by rw [aInts,wRow_len,show p=r.plates.toNat by omega]) hi))
          | (rw [truthP,if_pos F.zero,wRows_len]; omega)
          | (rw [truthP,if_pos F.zero,F.eq]; done)
          | (intro i hi; rw [truthP,if_pos F.zero] at hi ⊢; rw [wRows_len] at hi; rw [F.eq,wRows_get _ _ hi])
          | (intro i hi; rw [truthP,if_pos F.zero,F.eq]))))
abbrev q22_1 (r:Run) (C:Prop):Prop:=fits r->(!decide (openE r true=0))=false->C
abbrev q22_2 (r:Run) (C:Nat->Prop):Prop:=q22_1 r (∀ (x2:Nat),x2<=(openL r true).length->decide ((x2:Int) < (↑((openL r true).length):Int))=true->C x2)
abbrev q22_3 (r:Run) (C:Nat->Nat->Prop):Prop:=q22_2 r fun x2 => ∀ (x4:Nat),x4<=((openL r true).getD x2 default).frm.length->decide ((x4:Int) < (↑(((openL r true).getD x2 default).frm.length):Int))=true->C x2 x4
abbrev q22_4 (r:Run) (C:Nat->Nat->Prop):Prop:=q22_2 r fun x2 => ∀ (x4:Nat),x4<=((openL r true).getD x2 default).frm.length->decide ((x4:Int) < (↑(((openL r true).getD x2 default).frm.length):Int))=false->C x2 x4
abbrev q22_5 (r:Run) (C:Nat->Prop):Prop:=q22_1 r (∀ (x2:Nat),x2<=(openL r true).length->decide ((x2:Int) < (↑((openL r true).length):Int))=false->C x2)
theorem w22 (r:Run)
 (o0:fits r->(!decide (openE r true=0))->0=fewP r)
 (o1:q22_1 r (0=(↑0:Int)))
 (o2:q22_1 r ((↑(r.machines.length):Int)=fewPTo r (openL r true) 0))
 (o3:q22_1 r (0<=(openL r true).length))
 (o4:q22_2 r fun x2=>0<=(x2:Int))
 (o5:q22_2 r fun x2=>(x2:Int) < (↑((openL r true).length):Int))
 (o6:q22_2 r fun x2=>0=(↑0:Int))
 (o7:q22_2 r fun x2=>[]=logTo ((openL r true).getD x2 default).frm 0)
 (o8:q22_2 r fun x2=>0<=((openL r true).getD x2 default).frm.length)
 (o9:q22_3 r fun x2 x4=>0<=(x4:Int))
 (o10:q22_3 r fun x2 x4=>(x4:Int) < (↑(((openL r true).getD x2 default).frm.length):Int))
 (o11:q22_3 r fun x2 x4=>inI (((openL r true).getD x2 default).frm.getD x4 0))
 (o12:q22_3 r fun x2 x4=>inI (mlook (logTo ((openL r true).getD x2 default).frm x4) (((openL r true).getD x2 default).frm.getD x4 0) + 1))
 (o13:q22_3 r fun x2 x4=>inI (((openL r true).getD x2 default).frm.getD x4 0))
 (o14:q22_3 r fun x2 x4=>inI (mlook (logTo ((openL r true).getD x2 default).frm x4) (((openL r true).getD x2 default).frm.getD x4 0) + 1))
 (o15:q22_3 r fun x2 x4=>(logTo ((openL r true).getD x2 default).frm x4).length < 65536)
 (o16:q22_3 r fun x2 x4=>inI ((x4:Int) + 1))
 (o17:q22_3 r fun x2 x4=>(x4:Int) + 1=(↑(x4 + 1):Int))
 (o18:q22_3 r fun x2 x4=>logTo ((openL r true).getD x2 default).frm x4 ++ [(((openL r true).getD x2 default).frm.getD x4 0,mlook (logTo ((openL r true).getD x2 default).frm x4) (((openL r true).getD x2 default).frm.getD x4 0) + 1)]=logTo ((openL r true).getD x2 default).frm (x4 + 1))
 (o19:q22_3 r fun x2 x4=>x4 + 1<=((openL r true).getD x2 default).frm.length)
 (o20:q22_3 r fun x2 x4=>((openL r true).getD x2 default).frm.length - (x4 + 1) < ((openL r true).getD x2 default).frm.length - x4)
 (o21:q22_4 r fun x2 x4=>inI ((x2:Int) + 1))
 (o22:q22_4 r fun x2 x4=>(x2:Int) + 1=(↑(x2 + 1):Int))
 (o23:q22_4 r fun x2 x4=>min (fewPTo r (openL r true) x2) (↑((mkeys (logTo ((openL r true).getD x2 default).frm x4)).length):Int)=fewPTo r (openL r true) (x2 + 1))
 (o24:q22_4 r fun x2 x4=>x2 + 1<=(openL r true).length)
 (o25:q22_4 r fun x2 x4=>(openL r true).length - (x2 + 1) < (openL r true).length - x2)
 (o26:q22_5 r fun x2=>fewPTo r (openL r true) x2=fewP r)
 (o27:q22_5 r fun x2=>0=openE r true) :
  Triple Try.prog 22 (s22 r):=by
 refine triple_of Try.func22 rfl Try.call22 T0_ok _ rfl rfl rfl rfl (Nat.le_of_ble_eq_true (by kernel_rfl)) (fun _ _ _ _ h=>h) ?_
 intro hp C hC _ hE
 obtain ⟨P,w0,E0,av,hA⟩:=C
 subst hC
 refine swp_seq ?_
 refine sR (kt:=[1]) (kh:=[0]) (q:=True/\True/\True/\True) (st':=ASt.mk [(1,.ptr 0 [])] [(0,.cells 25 (cRun r))] 24) (by kernel_rfl) ⟨tv,tv,tv,tv⟩ ?_
 refine swp_seq ?_
 refine swp_region T0_ok mixed (cs:=[(1,CallSpec.eq (s78 r true) [true,true])]) (kt:=[1,4,5]) (kh:=[0]) (q:=True/\((AV.agg (cRun r)=AV.agg (cRun r)/\bv true=bv true/\True)/\Triple Try.prog 78 (s78 r true)/\fits r/\True /\ ∀ (i0:Env),True)/\True/\True/\True/\True/\True/\True) (st':=ASt.mk [(1,.ptr 0 []),(4,aWays (openL r true)),(5,iv (openE r true))] [(0,.cells 25 (cRun r))] 80) (by kernel_rfl) ⟨tv,⟨⟨rfl,rfl,tv⟩,(t78 (r) (true)),hp,tv,(fun i0=>tv)⟩,tv,tv,tv,tv,tv,tv⟩ ?_
 refine swp_seq (swp_seq ?_)
 refine sR (kt:=[1,4,5,18]) (kh:=[0]) (q:=True/\True/\True) (st':=ASt.mk [(1,.ptr 0 []),(4,aWays (openL r true)),(5,iv (openE r true)),(18,bv !decide (openE r true=0))] [(0,.cells 25 (cRun r))] 96) (by kernel_rfl) ⟨tv,tv,tv⟩ ?_
 refine swp_cond (!decide (openE r true=0)) (by kernel_rfl) (fun h1 => ?_) (fun h1 => ?_)
 ·refine swp_seq ?_
  refine sR (kt:=[2,3]) (kh:=[]) (q:=True/\True/\True/\True) (st':=ASt.mk [(2,iv 0),(3,iv (openE r true))] [] 120) (by kernel_rfl) ⟨tv,tv,tv,tv⟩ ?_
  refine swp_ret ?_
  exact ret_q [] ((True/\True/\True)/\((iv 0=iv (fewP r)/\nilN = [])/\(iv (openE r true)=iv (openE r true)/\nilN = [])/\True)/\T3) (by kernel_rfl) ⟨⟨tv,tv,tv⟩,⟨⟨(congrArg iv (o0 hp h1)),rfl⟩,⟨rfl,rfl⟩,tv⟩,rfl,rfl,rfl⟩
 ·refine swp_skip (swp_seq ?_)
  refine sR (kt:=[4,6]) (kh:=[]) (q:=True/\True/\True/\True/\True) (st':=ASt.mk [(4,aWays (openL r true)),(6,iv (↑(r.machines.length):Int))] [] 128) (by kernel_rfl) ⟨tv,tv,tv,tv,tv⟩ ?_
  refine swp_seq (swp_seq ?_)
  refine sR (kt:=[6,23,24,25]) (kh:=[]) (q:=True/\True/\True/\True) (st':=ASt.mk [(6,iv (↑(r.machines.length):Int)),(23,aWays (openL r true)),(24,iv (↑((openL r true).length):Int)),(25,iv 0)] [] 152) (by kernel_rfl) ⟨tv,tv,tv,tv⟩ ?_
  refine swp_block ?_
  refine swp_loopA (Hint.ann (h22a r) [(23,aWays (openL r true)),(24,iv (↑((openL r true).length):Int))] [] 10152) (ent_q hE [] [] [23,24] [] (((aWays (openL r true)=aWays (openL r true)/\true=true)/\(iv (↑((openL r true).length):Int)=iv (↑((openL r true).length):Int)/\true=true)/\(iv 0=iv (↑0:Int)/\nilN = [])/\(iv (↑(r.machines.length):Int)=iv (fewPTo r (openL r true) 0)/\nilN = [])/\True)/\True/\T2) (by kernel_rfl) (by kernel_rfl) ⟨⟨⟨rfl,rfl⟩,⟨rfl,rfl⟩,⟨(congrArg iv (o1 hp h1)),rfl⟩,⟨(congrArg iv (o2 hp h1)),rfl⟩,tv⟩,tv,rfl,rfl⟩) (o3 hp h1) (fun (x2:Nat) hx2 => ?_)
  refine swp_seq ?_
  refine sR (kt:=[23,24,25,6,26]) (kh:=[]) (q:=True/\True) (st':=ASt.mk [(23,aWays (openL r true)),(24,iv (↑((openL r true).length):Int)),(25,iv (x2:Int)),(6,iv (fewPTo r (openL r true) x2)),(26,bv (decide ((x2:Int) < (↑((openL r true).length):Int))))] [] 10160) (by kernel_rfl) ⟨tv,tv⟩ ?_
  refine swp_seq ?_
  refine swp_cond (decide ((x2:Int) < (↑((openL r true).length):Int))) (by kernel_rfl) (fun h3 => ?_) (fun h3 => ?_)
  ·refine swp_skip (swp_seq (swp_block (swp_seq ?_)))
   refine sR (kt:=[23,24,25,6,8]) (kh:=[10176]) (q:=(0<=(x2:Int)/\(x2:Int) < (↑((openL r true).length):Int))/\True/\True/\True/\True) (st':=ASt.mk [(23,aWays (openL r true)),(24,iv (↑((openL r true).length):Int)),(25,iv (x2:Int)),(6,iv (fewPTo r (openL r true) x2)),(8,.ptr 10176 [])] [(10176,.cells 107 (cWay ((openL r true).getD x2 default)))] 10192) (by kernel_rfl) ⟨⟨(o4 hp h1 x2 hx2 h3),(o5 hp h1 x2 hx2 h3)⟩,tv,tv,tv,tv⟩ ?_
   refine swp_seq ?_
   refine sR (kt:=[23,24,25,6,8,9]) (kh:=[10176,10192]) (q:=True/\True/\True) (st':=ASt.mk [(23,aWays (openL r true)),(24,iv (↑((openL r true).length):Int)),(25,iv (x2:Int)),(6,iv (fewPTo r (openL r true) x2)),(8,.ptr 10176 []),(9,.vec 10192)] [(10176,.cells 107 (cWay ((openL r true).getD x2 default))),(10192,.mp 108 [])] 10208) (by kernel_rfl) ⟨tv,tv,tv⟩ ?_
   refine swp_seq (swp_seq ?_)
   refine sR (kt:=[23,24,25,6,9,31,32,33]) (kh:=[10192]) (q:=True/\True/\True/\True/\True) (st':=ASt.mk [(23,aWays (openL r true)),(24,iv (↑((openL r true).length):Int)),(25,iv (x2:Int)),(6,iv (fewPTo r (openL r true) x2)),(9,.vec 10192),(31,aInts ((openL r true).getD x2 default).frm),(32,iv (↑(((openL r true).getD x2 default).frm.length):Int)),(33,iv 0)] [(10192,.mp 108 [])] 10240) (by kernel_rfl) ⟨tv,tv,tv,tv,tv⟩ ?_
   refine swp_block ?_
   refine swp_loopA (Hint.ann (h22b r x2) [(23,aWays (openL r true)),(24,iv (↑((openL r true).length):Int)),(25,iv (x2:Int)),(6,iv (fewPTo r (openL r true) x2)),(31,aInts ((openL r true).getD x2 default).frm),(32,iv (↑(((openL r true).getD x2 default).frm.length):Int))] [] 20240) (ent_q hE [] [(5000,.same 10192)] [23,24,25,6,31,32] [] (((aWays (openL r true)=aWays (openL r true)/\true=true)/\(iv (↑((openL r true).length):Int)=iv (↑((openL r true).length):Int)/\true=true)/\(iv (x2:Int)=iv (x2:Int)/\true=true)/\(iv (fewPTo r (openL r true) x2)=iv (fewPTo r (openL r true) x2)/\true=true)/\(aInts ((openL r true).getD x2 default).frm=aInts ((openL r true).getD x2 default).frm/\true=true)/\(iv (↑(((openL r true).getD x2 default).frm.length):Int)=iv (↑(((openL r true).getD x2 default).frm.length):Int)/\true=true)/\(iv 0=iv (↑0:Int)/\nilN = [])/\some (Src.same 10192)=some (Src.same 10192)/\True)/\((108=108 /\ []=logTo ((openL r true).getD x2 default).frm 0)/\True)/\T2) (by kernel_rfl) (by kernel_rfl) ⟨⟨⟨rfl,rfl⟩,⟨rfl,rfl⟩,⟨rfl,rfl⟩,⟨rfl,rfl⟩,⟨rfl,rfl⟩,⟨rfl,rfl⟩,⟨(congrArg iv (o6 hp h1 x2 hx2 h3)),rfl⟩,rfl,tv⟩,⟨⟨rfl,(o7 hp h1 x2 hx2 h3)⟩,tv⟩,rfl,rfl⟩) (o8 hp h1 x2 hx2 h3) (fun (x4:Nat) hx4 => ?_)
   refine swp_seq ?_
   refine sR (kt:=[23,24,25,6,31,32,33,9,34]) (kh:=[5000]) (q:=True/\True) (st':=ASt.mk [(23,aWays (openL r true)),(24,iv (↑((openL r true).length):Int)),(25,iv (x2:Int)),(6,iv (fewPTo r (openL r true) x2)),(31,aInts ((openL r true).getD x2 default).frm),(32,iv (↑(((openL r true).getD x2 default).frm.length):Int)),(33,iv (x4:Int)),(9,.vec 5000),(34,bv (decide ((x4:Int) < (↑(((openL r true).getD x2 default).frm.length):Int))))] [(5000,.mp 108 (logTo ((openL r true).getD x2 default).frm x4))] 20248) (by kernel_rfl) ⟨tv,tv⟩ ?_
   refine swp_seq ?_
   refine swp_cond (decide ((x4:Int) < (↑(((openL r true).getD x2 default).frm.length):Int))) (by kernel_rfl) (fun h5 => ?_) (fun h5 => ?_)
   ·refine swp_skip (swp_seq (swp_block (swp_seq ?_)))
    refine sR (kt:=[23,24,25,6,31,32,33,9,11]) (kh:=[5000]) (q:=(0<=(x4:Int)/\(x4:Int) < (↑(((openL r true).getD x2 default).frm.length):Int))/\True/\True/\True) (st':=ASt.mk [(23,aWays (openL r true)),(24,iv (↑((openL r true).length):Int)),(25,iv (x2:Int)),(6,iv (fewPTo r (openL r true) x2)),(31,aInts ((openL r true).getD x2 default).frm),(32,iv (↑(((openL r true).getD x2 default).frm.length):Int)),(33,iv (x4:Int)),(9,.vec 5000),(11,iv (((openL r true).getD x2 default).frm.getD x4 0))] [(5000,.mp 108 (logTo ((openL r true).getD x2 default).frm x4))] 20272) (by kernel_rfl) ⟨⟨(o9 hp h1 x2 hx2 h3 x4 hx4 h5),(o10 hp h1 x2 hx2 h3 x4 hx4 h5)⟩,tv,tv,tv⟩ ?_
    refine sR (kt:=[23,24,25,6,31,32,33,9]) (kh:=[5000]) (q:=True/\True/\inI (((openL r true).getD x2 default).frm.getD x4 0)/\inI (mlook (logTo ((openL r true).getD x2 default).frm x4) (((openL r true).getD x2 default).frm.getD x4 0) + 1)/\(inI (((openL r true).getD x2 default).frm.getD x4 0)/\inI (mlook (logTo ((openL r true).getD x2 default).frm x4) (((openL r true).getD x2 default).frm.getD x4 0) + 1)/\(logTo ((openL r true).getD x2 default).frm x4).length < 65536)/\True) (st':=ASt.mk [(23,aWays (openL r true)),(24,iv (↑((openL r true).length):Int)),(25,iv (x2:Int)),(6,iv (fewPTo r (openL r true) x2)),(31,aInts ((openL r true).getD x2 default).frm),(32,iv (↑(((openL r true).getD x2 default).frm.length):Int)),(33,iv (x4:Int)),(9,.vec 5000)] [(5000,.mp 108 (logTo ((openL r true).getD x2 default).frm x4 ++ [(((openL r true).getD x2 default).frm.getD x4 0,mlook (logTo ((openL r true).getD x2 default).frm x4) (((openL r true).getD x2 default).frm.getD x4 0) + 1)]))] 20312) (by kernel_rfl) ⟨tv,tv,(o11 hp h1 x2 hx2 h3 x4 hx4 h5),(o12 hp h1 x2 hx2 h3 x4 hx4 h5),⟨(o13 hp h1 x2 hx2 h3 x4 hx4 h5),(o14 hp h1 x2 hx2 h3 x4 hx4 h5),(o15 hp h1 x2 hx2 h3 x4 hx4 h5)⟩,tv⟩ ?_
    refine sR (kt:=[23,24,25,6,31,32,33,9]) (kh:=[5000]) (q:=inI ((x4:Int) + 1)/\True/\True) (st':=ASt.mk [(23,aWays (openL r true)),(24,iv (↑((openL r true).length):Int)),(25,iv (x2:Int)),(6,iv (fewPTo r (openL r true) x2)),(31,aInts ((openL r true).getD x2 default).frm),(32,iv (↑(((openL r true).getD x2 default).frm.length):Int)),(33,iv ((x4:Int) + 1)),(9,.vec 5000)] [(5000,.mp 108 (logTo ((openL r true).getD x2 default).frm x4 ++ [(((openL r true).getD x2 default).frm.getD x4 0,mlook (logTo ((openL r true).getD x2 default).frm x4) (((openL r true).getD x2 default).frm.getD x4 0) + 1)]))] 20328) (by kernel_rfl) ⟨(o16 hp h1 x2 hx2 h3 x4 hx4 h5),tv,tv⟩ ?_
    exact loop_next (Hint.ann (h22b r x2) [(23,aWays (openL r true)),(24,iv (↑((openL r true).length):Int)),(25,iv (x2:Int)),(6,iv (fewPTo r (openL r true) x2)),(31,aInts ((openL r true).getD x2 default).frm),(32,iv (↑(((openL r true).getD x2 default).frm.length):Int))] [] 20240) x4 (ent_q hE [] [(5000,.same 5000)] [23,24,25,6,31,32] [] (((aWays (openL r true)=aWays (openL r true)/\true=true)/\(iv (↑((openL r true).length):Int)=iv (↑((openL r true).length):Int)/\true=true)/\(iv (x2:Int)=iv (x2:Int)/\true=true)/\(iv (fewPTo r (openL r true) x2)=iv (fewPTo r (openL r true) x2)/\true=true)/\(aInts ((openL r true).getD x2 default).frm=aInts ((openL r true).getD x2 default).frm/\true=true)/\(iv (↑(((openL r true).getD x2 default).frm.length):Int)=iv (↑(((openL r true).getD x2 default).frm.length):Int)/\true=true)/\(iv ((x4:Int) + 1)=iv (↑(x4 + 1):Int)/\nilN = [])/\some (Src.same 5000)=some (Src.same 5000)/\True)/\((108=108/\logTo ((openL r true).getD x2 default).frm x4 ++ [(((openL r true).getD x2 default).frm.getD x4 0,mlook (logTo ((openL r true).getD x2 default).frm x4) (((openL r true).getD x2 default).frm.getD x4 0) + 1)]=logTo ((openL r true).getD x2 default).frm (x4 + 1))/\True)/\T2) (by kernel_rfl) (by kernel_rfl) ⟨⟨⟨rfl,rfl⟩,⟨rfl,rfl⟩,⟨rfl,rfl⟩,⟨rfl,rfl⟩,⟨rfl,rfl⟩,⟨rfl,rfl⟩,⟨(congrArg iv (o17 hp h1 x2 hx2 h3 x4 hx4 h5)),rfl⟩,rfl,tv⟩,⟨⟨rfl,(o18 hp h1 x2 hx2 h3 x4 hx4 h5)⟩,tv⟩,rfl,rfl⟩) (o19 hp h1 x2 hx2 h3 x4 hx4 h5) (o20 hp h1 x2 hx2 h3 x4 hx4 h5)
   ·refine swp_exit ?_
    refine sR (kt:=[23,24,25,6]) (kh:=[]) (q:=True/\True/\True/\True/\True/\True) (st':=ASt.mk [(23,aWays (openL r true)),(24,iv (↑((openL r true).length):Int)),(25,iv (x2:Int)),(6,iv (min (fewPTo r (openL r true) x2) (↑((mkeys (logTo ((openL r true).getD x2 default).frm x4)).length):Int)))] [] 20288) (by kernel_rfl) ⟨tv,tv,tv,tv,tv,tv⟩ ?_
    refine sR (kt:=[23,24,25,6]) (kh:=[]) (q:=inI ((x2:Int) + 1)/\True/\True) (st':=ASt.mk [(23,aWays (openL r true)),(24,iv (↑((openL r true).length):Int)),(25,iv ((x2:Int) + 1)),(6,iv (min (fewPTo r (openL r true) x2) (↑((mkeys (logTo ((openL r true).getD x2 default).frm x4)).length):Int)))] [] 20304) (by kernel_rfl) ⟨(o21 hp h1 x2 hx2 h3 x4 hx4 h5),tv,tv⟩ ?_
    exact loop_next (Hint.ann (h22a r) [(23,aWays (openL r true)),(24,iv (↑((openL r true).length):Int))] [] 10152) x2 (ent_q hE [] [] [23,24] [] (((aWays (openL r true)=aWays (openL r true)/\true=true)/\(iv (↑((openL r true).length):Int)=iv (↑((openL r true).length):Int)/\true=true)/\(iv ((x2:Int) + 1)=iv (↑(x2 + 1):Int)/\nilN = [])/\(iv (min (fewPTo r (openL r true) x2) (↑((mkeys (logTo ((openL r true).getD x2 default).frm x4)).length):Int))=iv (fewPTo r (openL r true) (x2 + 1))/\nilN = [])/\True)/\True/\T2) (by kernel_rfl) (by kernel_rfl) ⟨⟨⟨rfl,rfl⟩,⟨rfl,rfl⟩,⟨(congrArg iv (o22 hp h1 x2 hx2 h3 x4 hx4 h5)),rfl⟩,⟨(congrArg iv (o23 hp h1 x2 hx2 h3 x4 hx4 h5)),rfl⟩,tv⟩,tv,rfl,rfl⟩) (o24 hp h1 x2 hx2 h3 x4 hx4 h5) (o25 hp h1 x2 hx2 h3 x4 hx4 h5)
  ·refine swp_exit (swp_seq ?_)
   refine sR (kt:=[2,3]) (kh:=[]) (q:=True/\True/\True/\True) (st':=ASt.mk [(2,iv (fewPTo r (openL r true) x2)),(3,iv 0)] [] 10184) (by kernel_rfl) ⟨tv,tv,tv,tv⟩ ?_
   refine swp_ret ?_
   exact ret_q [] ((True/\True/\True)/\((iv (fewPTo r (openL r true) x2)=iv (fewP r)/\nilN = [])/\(iv 0=iv (openE r true)/\nilN = [])/\True)/\T3) (by kernel_rfl) ⟨⟨tv,tv,tv⟩,⟨⟨(congrArg iv (o26 hp h1 x2 hx2 h3)),rfl⟩,⟨(congrArg iv (o27 hp h1 x2 hx2 h3)),rfl⟩,tv⟩,rfl,rfl,rfl⟩
theorem t22 (r:Run):Triple Try.prog 22 (s22 r):=by
  apply w22
  all_goals (first
    | (intro _ h; rw [fewP,if_neg (openBad h)]; done)
    | ((repeat intro _) <;> (try simp only [v0,v1,v2,v3,v4,v5,v6,v7,v8,v9,inI,fits,Go.Sh.small] at *) <;> first | (exact rfl) | omega | exact vz | (simp_all; done) | (simp_all; omega))
    | (intro _ h
       have F:=openF h
       have h2:=F.len
       have h3:=F.ok.machines
       have h4:=F.ok.found
       first
       | exact F.zero.symm
       | (intro x hx hl
          simp only [decide_eq_true_eq,decide_eq_false_iff_not] at hl
          first
          | exact F.zero.symm
          | omega
          | (simp only [inI]; omega)
          | (rw [fewP,if_pos F.zero,← F.eq,show x=(openL r true).length by omega]; done)
          | (intro j hj hjl
             have h5:=F.frm x (by omega)
             simp only [decide_eq_true_eq,decide_eq_false_iff_not] at hjl
             have h6:=logTo_look ((openL r true).getD x default).frm (((openL r true).getD x default).frm.getD j 0) j
             have h7:=logTo_len ((openL r true).getD x default).frm j
             first
             | omega
             | (simp only [inI]; omega)
             | (simp only [inI]; have h8:=F.mach x (by omega) j (by omega); omega)
             | (rw [logTo_succ]; done)
             | (rw [fewPTo_succ,usedW,show ((openL r true).getD x default).frm.length=j by omega]; done))))
    | skip)
end Go.Ab
