/- Part 4 of the proof: own library, plain forms and walks. -/
import Derived.Test.YtcbgfmalillplaaQEach3
import Derived.Shelf.Sort.Plain
import Derived.Shelf.Slices.CompactI
import Derived.Test.YtcbgfmalillplaaProg
import Derived.Sort.Grow
import Derived.Lib.SlicesCompact
set_option linter.all false
set_option linter.deprecated false
namespace Go.Ab
open Go Go.RowKit Go.Proofs Go.Sh Go.En
abbrev q108_1 (w:WayS) (m:Nat) (p:Nat) (C:Prop):Prop:=wb w/\m < 3/\1<=p/\p<=3->C
abbrev q108_2 (w:WayS) (m:Nat) (p:Nat) (C:Nat->Prop):Prop:=q108_1 w m p (∀ (x0:Nat),x0<=p->decide ((x0:Int) < p)=true->C x0)
abbrev q108_3 (w:WayS) (m:Nat) (p:Nat) (C:Nat->Nat->Prop):Prop:=q108_2 w m p fun x0 => ∀ (x2:Nat),x2<=p->decide ((x2:Int) < p)=true->C x0 x2
abbrev q108_4 (w:WayS) (m:Nat) (p:Nat) (C:Nat->Nat->Prop):Prop:=q108_3 w m p fun x0 x2=>(!decide ((x0:Int)=x2))->C x0 x2
abbrev q108_5 (w:WayS) (m:Nat) (p:Nat) (C:Nat->Nat->Prop):Prop:=q108_3 w m p fun x0 x2=>(!decide ((x0:Int)=x2))=false->C x0 x2
abbrev q108_6 (w:WayS) (m:Nat) (p:Nat) (C:Nat->Nat->Prop):Prop:=q108_2 w m p fun x0 => ∀ (x2:Nat),x2<=p->decide ((x2:Int) < p)=false->C x0 x2
abbrev q108_7 (w:WayS) (m:Nat) (p:Nat) (C:Nat->Prop):Prop:=q108_1 w m p (∀ (x0:Nat),x0<=p->decide ((x0:Int) < p)=false->C x0)
theorem w108 (w:WayS) (m:Nat) (p:Nat)
 (o0:q108_1 w m p (0<=(↑m:Int)))
 (o1:q108_1 w m p ((m:Int) < (↑3:Int)))
 (o2:q108_1 w m p (0<=(↑p:Int)))
 (o3:q108_1 w m p ((p:Int)<=(↑3:Int)))
 (o4:q108_1 w m p (0 < (↑p:Int)))
 (o5:q108_1 w m p (m < 3))
 (o6:q108_1 w m p (0 < (↑p:Int)))
 (o7:q108_1 w m p (m < 3))
 (o8:q108_1 w m p ((w.whn m 0).hi=(sprTo (w.whn m) p 0).first))
 (o9:q108_1 w m p ((w.whn m 0).lo=(sprTo (w.whn m) p 0).last))
 (o10:q108_1 w m p (0=(sprTo (w.whn m) p 0).high))
 (o11:q108_1 w m p (0=(↑0:Int)))
 (o12:q108_1 w m p (0<=p))
 (o13:q108_2 w m p fun x0=>0<=(x0:Int))
 (o14:q108_2 w m p fun x0=>(x0:Int) < p)
 (o15:q108_2 w m p fun x0=>m < 3)
 (o16:q108_2 w m p fun x0=>x0 < 3)
 (o17:q108_2 w m p fun x0=>(sprTo (w.whn m) p x0).high=sprIn (w.whn m) x0 (sprTo (w.whn m) p x0).high 0)
 (o18:q108_2 w m p fun x0=>0=(↑0:Int))
 (o19:q108_2 w m p fun x0=>0<=p)
 (o20:q108_3 w m p fun x0 x2=>0<=(x2:Int))
 (o21:q108_3 w m p fun x0 x2=>(x2:Int) < p)
 (o22:q108_3 w m p fun x0 x2=>m < 3)
 (o23:q108_3 w m p fun x0 x2=>x2 < 3)
 (o24:q108_4 w m p fun x0 x2=>inI ((w.whn m x0).hi - (w.whn m x2).lo))
 (o25:q108_4 w m p fun x0 x2=>inI ((x2:Int) + 1))
 (o26:q108_4 w m p fun x0 x2=>max (sprIn (w.whn m) x0 (sprTo (w.whn m) p x0).high x2) ((w.whn m x0).hi - (w.whn m x2).lo)=sprIn (w.whn m) x0 (sprTo (w.whn m) p x0).high (x2 + 1))
 (o27:q108_4 w m p fun x0 x2=>(x2:Int) + 1=(↑(x2 + 1):Int))
 (o28:q108_4 w m p fun x0 x2=>x2 + 1<=p)
 (o29:q108_4 w m p fun x0 x2=>p - (x2 + 1) < p - x2)
 (o30:q108_5 w m p fun x0 x2=>inI ((x2:Int) + 1))
 (o31:q108_5 w m p fun x0 x2=>sprIn (w.whn m) x0 (sprTo (w.whn m) p x0).high x2=sprIn (w.whn m) x0 (sprTo (w.whn m) p x0).high (x2 + 1))
 (o32:q108_5 w m p fun x0 x2=>(x2:Int) + 1=(↑(x2 + 1):Int))
 (o33:q108_5 w m p fun x0 x2=>x2 + 1<=p)
 (o34:q108_5 w m p fun x0 x2=>p - (x2 + 1) < p - x2)
 (o35:q108_6 w m p fun x0 x2=>inI ((x0:Int) + 1))
 (o36:q108_6 w m p fun x0 x2=>min (sprTo (w.whn m) p x0).first (w.whn m x0).hi=(sprTo (w.whn m) p (x0 + 1)).first)
 (o37:q108_6 w m p fun x0 x2=>max (sprTo (w.whn m) p x0).last (w.whn m x0).lo=(sprTo (w.whn m) p (x0 + 1)).last)
 (o38:q108_6 w m p fun x0 x2=>sprIn (w.whn m) x0 (sprTo (w.whn m) p x0).high x2=(sprTo (w.whn m) p (x0 + 1)).high)
 (o39:q108_6 w m p fun x0 x2=>(x0:Int) + 1=(↑(x0 + 1):Int))
 (o40:q108_6 w m p fun x0 x2=>x0 + 1<=p)
 (o41:q108_6 w m p fun x0 x2=>p - (x0 + 1) < p - x0)
 (o42:q108_7 w m p fun x0=>inI ((sprTo (w.whn m) p x0).last - (sprTo (w.whn m) p x0).first))
 (o43:q108_7 w m p fun x0=>max 0 ((sprTo (w.whn m) p x0).last - (sprTo (w.whn m) p x0).first)=(spread (w.whn m) p).lo)
 (o44:q108_7 w m p fun x0=>(sprTo (w.whn m) p x0).high=(spread (w.whn m) p).hi) :
  Triple Try.prog 108 (s108 w m p):=by
 refine triple_of Try.func108 rfl Try.call108 T0_ok _ rfl rfl rfl rfl (Nat.le_of_ble_eq_true (by kernel_rfl)) (fun _ _ _ _ h=>h) ?_
 intro hp C hC _ hE
 obtain ⟨P,w0,E0,av,hA⟩:=C
 subst hC
 refine swp_seq ?_
 refine sR (kt:=[1,2,3,6]) (kh:=[0,8]) (q:=True/\True/\True) (st':=ASt.mk [(1,iv (m:Int)),(2,iv (p:Int)),(3,.ptr 0 []),(6,.ptr 8 [])] [(0,.cells 107 (cWay w)),(8,.cells 37 [iv 0,iv 0])] 16) (by kernel_rfl) ⟨tv,tv,tv⟩ ?_
 refine swp_seq ?_
 refine sR (kt:=[6,7]) (kh:=[8,0]) (q:=True/\True/\(0<=(m:Int)/\(m:Int) < (↑3:Int))/\True/\(0<=(p:Int)/\(p:Int)<=(↑3:Int))/\True/\True) (st':=ASt.mk [(6,.ptr 8 []),(7,.win 0 [PS.fld 1,PS.idx m 6] 2 p)] [(8,.cells 37 [iv 0,iv 0]),(0,.cells 107 (cWay w))] 64) (by kernel_rfl) ⟨tv,tv,⟨(o0 hp),(o1 hp)⟩,tv,⟨(o2 hp),(o3 hp)⟩,tv,tv⟩ ?_
 refine swp_seq ?_
 refine sR (kt:=[6,7,8,9,10]) (kh:=[8,0]) (q:=True/\(Int.ofNat 0<=Int.ofNat 0/\0 < (p:Int))/\True/\(m < 3/\0 < 3/\True)/\True/\(Int.ofNat 0<=Int.ofNat 0/\0 < (p:Int))/\True/\(m < 3/\0 < 3/\True)/\True/\True/\True/\True) (st':=ASt.mk [(6,.ptr 8 []),(7,.win 0 [PS.fld 1,PS.idx m 6] 2 p),(8,iv (w.whn m 0).hi),(9,iv (w.whn m 0).lo),(10,iv 0)] [(8,.cells 37 [iv 0,iv 0]),(0,.cells 107 (cWay w))] 152) (by kernel_rfl) ⟨tv,⟨(by decide),(o4 hp)⟩,tv,⟨(o5 hp),(by decide),tv⟩,tv,⟨(by decide),(o6 hp)⟩,tv,⟨(o7 hp),(by decide),tv⟩,tv,tv,tv,tv⟩ ?_
 refine swp_seq (swp_seq ?_)
 refine sR (kt:=[6,7,8,9,10,28,29,30]) (kh:=[8,0]) (q:=True/\True/\True/\True) (st':=ASt.mk [(6,.ptr 8 []),(7,.win 0 [PS.fld 1,PS.idx m 6] 2 p),(8,iv (w.whn m 0).hi),(9,iv (w.whn m 0).lo),(10,iv 0),(28,.win 0 [PS.fld 1,PS.idx m 6] 2 p),(29,iv (p:Int)),(30,iv 0)] [(8,.cells 37 [iv 0,iv 0]),(0,.cells 107 (cWay w))] 176) (by kernel_rfl) ⟨tv,tv,tv,tv⟩ ?_
 refine swp_block ?_
 refine swp_loopA (Hint.ann (h108a w m p) [(6,AV.ptr 8 []),(7,AV.win 0 [PS.fld 1,PS.idx m 6] 2 p),(28,AV.win 0 [PS.fld 1,PS.idx m 6] 2 p),(29,iv (p:Int))] [(8,OB.cells 37 [iv 0,iv 0]),(0,OB.cells 107 (cWay w))] 10176) (ent_q hE [] [(8,.same 8),(0,.same 0)] [29] [8,0] (((some (Src.same 8)=some (Src.same 8)/\nilP = [])/\(some (Src.same 0)=some (Src.same 0) /\ [PS.fld 1,PS.idx m 6] = [PS.fld 1,PS.idx m 6]/\2=2/\p=p)/\(some (Src.same 0)=some (Src.same 0) /\ [PS.fld 1,PS.idx m 6] = [PS.fld 1,PS.idx m 6]/\2=2/\p=p)/\(iv (p:Int)=iv (p:Int)/\true=true)/\(iv (w.whn m 0).hi=iv (sprTo (w.whn m) p 0).first/\nilN = [])/\(iv (w.whn m 0).lo=iv (sprTo (w.whn m) p 0).last/\nilN = [])/\(iv 0=iv (sprTo (w.whn m) p 0).high/\nilN = [])/\(iv 0=iv (↑0:Int)/\nilN = [])/\True)/\((OB.cells 37 [iv 0,iv 0]=OB.cells 37 [iv 0,iv 0]/\true=true)/\(OB.cells 107 (cWay w)=OB.cells 107 (cWay w)/\true=true)/\True)/\T2) (by kernel_rfl) (by kernel_rfl) ⟨⟨⟨rfl,rfl⟩,⟨rfl,rfl,rfl,rfl⟩,⟨rfl,rfl,rfl,rfl⟩,⟨rfl,rfl⟩,⟨(congrArg iv (o8 hp)),rfl⟩,⟨(congrArg iv (o9 hp)),rfl⟩,⟨(congrArg iv (o10 hp)),rfl⟩,⟨(congrArg iv (o11 hp)),rfl⟩,tv⟩,⟨⟨rfl,rfl⟩,⟨rfl,rfl⟩,tv⟩,rfl,rfl⟩) (o12 hp) (fun (x0:Nat) hx0 => ?_)
 refine swp_seq ?_
 refine sR (kt:=[6,7,28,29,8,9,10,30,31]) (kh:=[8,0]) (q:=True/\True) (st':=ASt.mk [(6,.ptr 8 []),(7,.win 0 [PS.fld 1,PS.idx m 6] 2 p),(28,.win 0 [PS.fld 1,PS.idx m 6] 2 p),(29,iv (p:Int)),(8,iv (sprTo (w.whn m) p x0).first),(9,iv (sprTo (w.whn m) p x0).last),(10,iv (sprTo (w.whn m) p x0).high),(30,iv (x0:Int)),(31,bv (decide ((x0:Int) < p)))] [(8,.cells 37 [iv 0,iv 0]),(0,.cells 107 (cWay w))] 10184) (by kernel_rfl) ⟨tv,tv⟩ ?_
 refine swp_seq ?_
 refine swp_cond (decide ((x0:Int) < p)) (by kernel_rfl) (fun h1 => ?_) (fun h1 => ?_)
 ·refine swp_skip (swp_seq (swp_block (swp_seq ?_)))
  refine sR (kt:=[6,7,28,29,8,9,10,30,12,11]) (kh:=[8,0,10208]) (q:=True/\(0<=(x0:Int)/\(x0:Int) < p)/\(m < 3/\x0 < 3/\True)/\True/\True/\True/\True) (st':=ASt.mk [(6,.ptr 8 []),(7,.win 0 [PS.fld 1,PS.idx m 6] 2 p),(28,.win 0 [PS.fld 1,PS.idx m 6] 2 p),(29,iv (p:Int)),(8,iv (sprTo (w.whn m) p x0).first),(9,iv (sprTo (w.whn m) p x0).last),(10,iv (sprTo (w.whn m) p x0).high),(30,iv (x0:Int)),(12,.ptr 10208 []),(11,iv (x0:Int))] [(8,.cells 37 [iv 0,iv 0]),(0,.cells 107 (cWay w)),(10208,.cells 37 (cSpan (w.whn m x0)))] 10232) (by kernel_rfl) ⟨tv,⟨(o13 hp x0 hx0 h1),(o14 hp x0 hx0 h1)⟩,⟨(o15 hp x0 hx0 h1),(o16 hp x0 hx0 h1),tv⟩,tv,tv,tv,tv⟩ ?_
  refine swp_seq ?_
  refine sR (kt:=[6,7,28,29,8,9,10,30,12,11]) (kh:=[8,0,10208]) (q:=True/\True/\True/\True/\True/\True/\True/\True/\True/\True/\True) (st':=ASt.mk [(6,.ptr 8 []),(7,.win 0 [PS.fld 1,PS.idx m 6] 2 p),(28,.win 0 [PS.fld 1,PS.idx m 6] 2 p),(29,iv (p:Int)),(8,iv (min (sprTo (w.whn m) p x0).first (w.whn m x0).hi)),(9,iv (max (sprTo (w.whn m) p x0).last (w.whn m x0).lo)),(10,iv (sprTo (w.whn m) p x0).high),(30,iv (x0:Int)),(12,.ptr 10208 []),(11,iv (x0:Int))] [(8,.cells 37 [iv 0,iv 0]),(0,.cells 107 (cWay w)),(10208,.cells 37 (cSpan (w.whn m x0)))] 10312) (by kernel_rfl) ⟨tv,tv,tv,tv,tv,tv,tv,tv,tv,tv,tv⟩ ?_
  refine swp_seq ?_
  refine sR (kt:=[6,7,28,29,8,9,10,30,12,11,43,44,45]) (kh:=[8,0,10208]) (q:=True/\True/\True/\True) (st':=ASt.mk [(6,.ptr 8 []),(7,.win 0 [PS.fld 1,PS.idx m 6] 2 p),(28,.win 0 [PS.fld 1,PS.idx m 6] 2 p),(29,iv (p:Int)),(8,iv (min (sprTo (w.whn m) p x0).first (w.whn m x0).hi)),(9,iv (max (sprTo (w.whn m) p x0).last (w.whn m x0).lo)),(10,iv (sprTo (w.whn m) p x0).high),(30,iv (x0:Int)),(12,.ptr 10208 []),(11,iv (x0:Int)),(43,.win 0 [PS.fld 1,PS.idx m 6] 2 p),(44,iv (p:Int)),(45,iv 0)] [(8,.cells 37 [iv 0,iv 0]),(0,.cells 107 (cWay w)),(10208,.cells 37 (cSpan (w.whn m x0)))] 10336) (by kernel_rfl) ⟨tv,tv,tv,tv⟩ ?_
  refine swp_block ?_
  refine swp_loopA (Hint.ann (h108b w m p x0) [(6,AV.ptr 8 []),(7,AV.win 0 [PS.fld 1,PS.idx m 6] 2 p),(28,AV.win 0 [PS.fld 1,PS.idx m 6] 2 p),(29,iv (p:Int)),(8,iv (min (sprTo (w.whn m) p x0).first (w.whn m x0).hi)),(9,iv (max (sprTo (w.whn m) p x0).last (w.whn m x0).lo)),(30,iv (x0:Int)),(12,AV.ptr 10208 []),(11,iv (x0:Int)),(43,AV.win 0 [PS.fld 1,PS.idx m 6] 2 p),(44,iv (p:Int))] [(8,OB.cells 37 [iv 0,iv 0]),(0,OB.cells 107 (cWay w)),(10208,OB.cells 37 (cSpan (w.whn m x0)))] 20336) (ent_q hE [] [(8,.same 8),(0,.same 0),(10208,.same 10208)] [29,8,9,30,11,44] [8,0,10208] (((some (Src.same 8)=some (Src.same 8)/\nilP = [])/\(some (Src.same 0)=some (Src.same 0) /\ [PS.fld 1,PS.idx m 6] = [PS.fld 1,PS.idx m 6]/\2=2/\p=p)/\(some (Src.same 0)=some (Src.same 0) /\ [PS.fld 1,PS.idx m 6] = [PS.fld 1,PS.idx m 6]/\2=2/\p=p)/\(iv (p:Int)=iv (p:Int)/\true=true)/\(iv (min (sprTo (w.whn m) p x0).first (w.whn m x0).hi)=iv (min (sprTo (w.whn m) p x0).first (w.whn m x0).hi)/\true=true)/\(iv (max (sprTo (w.whn m) p x0).last (w.whn m x0).lo)=iv (max (sprTo (w.whn m) p x0).last (w.whn m x0).lo)/\true=true)/\(iv (x0:Int)=iv (x0:Int)/\true=true)/\(some (Src.same 10208)=some (Src.same 10208)/\nilP = [])/\(iv (x0:Int)=iv (x0:Int)/\true=true)/\(some (Src.same 0)=some (Src.same 0) /\ [PS.fld 1,PS.idx m 6] = [PS.fld 1,PS.idx m 6]/\2=2/\p=p)/\(iv (p:Int)=iv (p:Int)/\true=true)/\(iv (sprTo (w.whn m) p x0).high=iv (sprIn (w.whn m) x0 (sprTo (w.whn m) p x0).high 0)/\nilN = [])/\(iv 0=iv (↑0:Int)/\nilN = [])/\True)/\((OB.cells 37 [iv 0,iv 0]=OB.cells 37 [iv 0,iv 0]/\true=true)/\(OB.cells 107 (cWay w)=OB.cells 107 (cWay w)/\true=true)/\(OB.cells 37 (cSpan (w.whn m x0))=OB.cells 37 (cSpan (w.whn m x0))/\true=true)/\True)/\T2) (by kernel_rfl) (by kernel_rfl) ⟨⟨⟨rfl,rfl⟩,⟨rfl,rfl,rfl,rfl⟩,⟨rfl,rfl,rfl,rfl⟩,⟨rfl,rfl⟩,⟨rfl,rfl⟩,⟨rfl,rfl⟩,⟨rfl,rfl⟩,⟨rfl,rfl⟩,⟨rfl,rfl⟩,⟨rfl,rfl,rfl,rfl⟩,⟨rfl,rfl⟩,⟨(congrArg iv (o17 hp x0 hx0 h1)),rfl⟩,⟨(congrArg iv (o18 hp x0 hx0 h1)),rfl⟩,tv⟩,⟨⟨rfl,rfl⟩,⟨rfl,rfl⟩,⟨rfl,rfl⟩,tv⟩,rfl,rfl⟩) (o19 hp x0 hx0 h1) (fun (x2:Nat) hx2 => ?_)
  refine swp_seq ?_
  refine sR (kt:=[6,7,28,29,8,9,30,12,11,43,44,10,45,46]) (kh:=[8,0,10208]) (q:=True/\True) (st':=ASt.mk [(6,.ptr 8 []),(7,.win 0 [PS.fld 1,PS.idx m 6] 2 p),(28,.win 0 [PS.fld 1,PS.idx m 6] 2 p),(29,iv (p:Int)),(8,iv (min (sprTo (w.whn m) p x0).first (w.whn m x0).hi)),(9,iv (max (sprTo (w.whn m) p x0).last (w.whn m x0).lo)),(30,iv (x0:Int)),(12,.ptr 10208 []),(11,iv (x0:Int)),(43,.win 0 [PS.fld 1,PS.idx m 6] 2 p),(44,iv (p:Int)),(10,iv (sprIn (w.whn m) x0 (sprTo (w.whn m) p x0).high x2)),(45,iv (x2:Int)),(46,bv (decide ((x2:Int) < p)))] [(8,.cells 37 [iv 0,iv 0]),(0,.cells 107 (cWay w)),(10208,.cells 37 (cSpan (w.whn m x0)))] 20344) (by kernel_rfl) ⟨tv,tv⟩ ?_
  refine swp_seq ?_
  refine swp_cond (decide ((x2:Int) < p)) (by kernel_rfl) (fun h3 => ?_) (fun h3 => ?_)
  ·refine swp_skip (swp_seq (swp_block (swp_seq ?_)))
   refine sR (kt:=[6,7,28,29,8,9,30,12,11,43,44,10,45,14,13]) (kh:=[8,0,10208,20368]) (q:=True/\(0<=(x2:Int)/\(x2:Int) < p)/\(m < 3/\x2 < 3/\True)/\True/\True/\True/\True) (st':=ASt.mk [(6,.ptr 8 []),(7,.win 0 [PS.fld 1,PS.idx m 6] 2 p),(28,.win 0 [PS.fld 1,PS.idx m 6] 2 p),(29,iv (p:Int)),(8,iv (min (sprTo (w.whn m) p x0).first (w.whn m x0).hi)),(9,iv (max (sprTo (w.whn m) p x0).last (w.whn m x0).lo)),(30,iv (x0:Int)),(12,.ptr 10208 []),(11,iv (x0:Int)),(43,.win 0 [PS.fld 1,PS.idx m 6] 2 p),(44,iv (p:Int)),(10,iv (sprIn (w.whn m) x0 (sprTo (w.whn m) p x0).high x2)),(45,iv (x2:Int)),(14,.ptr 20368 []),(13,iv (x2:Int))] [(8,.cells 37 [iv 0,iv 0]),(0,.cells 107 (cWay w)),(10208,.cells 37 (cSpan (w.whn m x0))),(20368,.cells 37 (cSpan (w.whn m x2)))] 20392) (by kernel_rfl) ⟨tv,⟨(o20 hp x0 hx0 h1 x2 hx2 h3),(o21 hp x0 hx0 h1 x2 hx2 h3)⟩,⟨(o22 hp x0 hx0 h1 x2 hx2 h3),(o23 hp x0 hx0 h1 x2 hx2 h3),tv⟩,tv,tv,tv,tv⟩ ?_
   refine swp_seq ?_
   refine sR (kt:=[6,7,28,29,8,9,30,12,11,43,44,10,45,14,52]) (kh:=[8,0,10208,20368]) (q:=True/\True/\True/\True) (st':=ASt.mk [(6,.ptr 8 []),(7,.win 0 [PS.fld 1,PS.idx m 6] 2 p),(28,.win 0 [PS.fld 1,PS.idx m 6] 2 p),(29,iv (p:Int)),(8,iv (min (sprTo (w.whn m) p x0).first (w.whn m x0).hi)),(9,iv (max (sprTo (w.whn m) p x0).last (w.whn m x0).lo)),(30,iv (x0:Int)),(12,.ptr 10208 []),(11,iv (x0:Int)),(43,.win 0 [PS.fld 1,PS.idx m 6] 2 p),(44,iv (p:Int)),(10,iv (sprIn (w.whn m) x0 (sprTo (w.whn m) p x0).high x2)),(45,iv (x2:Int)),(14,.ptr 20368 []),(52,bv !decide ((x0:Int)=x2))] [(8,.cells 37 [iv 0,iv 0]),(0,.cells 107 (cWay w)),(10208,.cells 37 (cSpan (w.whn m x0))),(20368,.cells 37 (cSpan (w.whn m x2)))] 20416) (by kernel_rfl) ⟨tv,tv,tv,tv⟩ ?_
   refine swp_cond (!decide ((x0:Int)=x2)) (by kernel_rfl) (fun h4 => ?_) (fun h4 => ?_)
   ·refine sR (kt:=[6,7,28,29,8,9,30,12,11,43,44,10,45]) (kh:=[8,0,10208]) (q:=True/\True/\True/\True/\True/\inI ((w.whn m x0).hi - (w.whn m x2).lo)/\True/\True/\True) (st':=ASt.mk [(6,.ptr 8 []),(7,.win 0 [PS.fld 1,PS.idx m 6] 2 p),(28,.win 0 [PS.fld 1,PS.idx m 6] 2 p),(29,iv (p:Int)),(8,iv (min (sprTo (w.whn m) p x0).first (w.whn m x0).hi)),(9,iv (max (sprTo (w.whn m) p x0).last (w.whn m x0).lo)),(30,iv (x0:Int)),(12,.ptr 10208 []),(11,iv (x0:Int)),(43,.win 0 [PS.fld 1,PS.idx m 6] 2 p),(44,iv (p:Int)),(10,iv (max (sprIn (w.whn m) x0 (sprTo (w.whn m) p x0).high x2) ((w.whn m x0).hi - (w.whn m x2).lo))),(45,iv (x2:Int))] [(8,.cells 37 [iv 0,iv 0]),(0,.cells 107 (cWay w)),(10208,.cells 37 (cSpan (w.whn m x0)))] 20480) (by kernel_rfl) ⟨tv,tv,tv,tv,tv,(o24 hp x0 hx0 h1 x2 hx2 h3 h4),tv,tv,tv⟩ ?_
    refine sR (kt:=[6,7,28,29,8,9,30,12,11,43,44,10,45]) (kh:=[8,0,10208]) (q:=inI ((x2:Int) + 1)/\True/\True) (st':=ASt.mk [(6,.ptr 8 []),(7,.win 0 [PS.fld 1,PS.idx m 6] 2 p),(28,.win 0 [PS.fld 1,PS.idx m 6] 2 p),(29,iv (p:Int)),(8,iv (min (sprTo (w.whn m) p x0).first (w.whn m x0).hi)),(9,iv (max (sprTo (w.whn m) p x0).last (w.whn m x0).lo)),(30,iv (x0:Int)),(12,.ptr 10208 []),(11,iv (x0:Int)),(43,.win 0 [PS.fld 1,PS.idx m 6] 2 p),(44,iv (p:Int)),(10,iv (max (sprIn (w.whn m) x0 (sprTo (w.whn m) p x0).high x2) ((w.whn m x0).hi - (w.whn m x2).lo))),(45,iv ((x2:Int) + 1))] [(8,.cells 37 [iv 0,iv 0]),(0,.cells 107 (cWay w)),(10208,.cells 37 (cSpan (w.whn m x0)))] 20496) (by kernel_rfl) ⟨(o25 hp x0 hx0 h1 x2 hx2 h3 h4),tv,tv⟩ ?_
    exact loop_next (Hint.ann (h108b w m p x0) [(6,AV.ptr 8 []),(7,AV.win 0 [PS.fld 1,PS.idx m 6] 2 p),(28,AV.win 0 [PS.fld 1,PS.idx m 6] 2 p),(29,iv (p:Int)),(8,iv (min (sprTo (w.whn m) p x0).first (w.whn m x0).hi)),(9,iv (max (sprTo (w.whn m) p x0).last (w.whn m x0).lo)),(30,iv (x0:Int)),(12,AV.ptr 10208 []),(11,iv (x0:Int)),(43,AV.win 0 [PS.fld 1,PS.idx m 6] 2 p),(44,iv (p:Int))] [(8,OB.cells 37 [iv 0,iv 0]),(0,OB.cells 107 (cWay w)),(10208,OB.cells 37 (cSpan (w.whn m x0)))] 20336) x2 (ent_q hE [] [(8,.same 8),(0,.same 0),(10208,.same 10208)] [29,8,9,30,11,44] [8,0,10208] (((some (Src.same 8)=some (Src.same 8)/\nilP = [])/\(some (Src.same 0)=some (Src.same 0) /\ [PS.fld 1,PS.idx m 6] = [PS.fld 1,PS.idx m 6]/\2=2/\p=p)/\(some (Src.same 0)=some (Src.same 0) /\ [PS.fld 1,PS.idx m 6] = [PS.fld 1,PS.idx m 6]/\2=2/\p=p)/\(iv (p:Int)=iv (p:Int)/\true=true)/\(iv (min (sprTo (w.whn m) p x0).first (w.whn m x0).hi)=iv (min (sprTo (w.whn m) p x0).first (w.whn m x0).hi)/\true=true)/\(iv (max (sprTo (w.whn m) p x0).last (w.whn m x0).lo)=iv (max (sprTo (w.whn m) p x0).last (w.whn m x0).lo)/\true=true)/\(iv (x0:Int)=iv (x0:Int)/\true=true)/\(some (Src.same 10208)=some (Src.same 10208)/\nilP = [])/\(iv (x0:Int)=iv (x0:Int)/\true=true)/\(some (Src.same 0)=some (Src.same 0) /\ [PS.fld 1,PS.idx m 6] = [PS.fld 1,PS.idx m 6]/\2=2/\p=p)/\(iv (p:Int)=iv (p:Int)/\true=true)/\(iv (max (sprIn (w.whn m) x0 (sprTo (w.whn m) p x0).high x2) ((w.whn m x0).hi - (w.whn m x2).lo))=iv (sprIn (w.whn m) x0 (sprTo (w.whn m) p x0).high (x2 + 1))/\nilN = [])/\(iv ((x2:Int) + 1)=iv (↑(x2 + 1):Int)/\nilN = [])/\True)/\((OB.cells 37 [iv 0,iv 0]=OB.cells 37 [iv 0,iv 0]/\true=true)/\(OB.cells 107 (cWay w)=OB.cells 107 (cWay w)/\true=true)/\(OB.cells 37 (cSpan (w.whn m x0))=OB.cells 37 (cSpan (w.whn m x0))/\true=true)/\True)/\T2) (by kernel_rfl) (by kernel_rfl) ⟨⟨⟨rfl,rfl⟩,⟨rfl,rfl,rfl,rfl⟩,⟨rfl,rfl,rfl,rfl⟩,⟨rfl,rfl⟩,⟨rfl,rfl⟩,⟨rfl,rfl⟩,⟨rfl,rfl⟩,⟨rfl,rfl⟩,⟨rfl,rfl⟩,⟨rfl,rfl,rfl,rfl⟩,⟨rfl,rfl⟩,⟨(congrArg iv (o26 hp x0 hx0 h1 x2 hx2 h3 h4)),rfl⟩,⟨(congrArg iv (o27 hp x0 hx0 h1 x2 hx2 h3 h4)),rfl⟩,tv⟩,⟨⟨rfl,rfl⟩,⟨rfl,rfl⟩,⟨rfl,rfl⟩,tv⟩,rfl,rfl⟩) (o28 hp x0 hx0 h1 x2 hx2 h3 h4) (o29 hp x0 hx0 h1 x2 hx2 h3 h4)
   ·refine swp_skip ?_
    refine sR (kt:=[6,7,28,29,8,9,30,12,11,43,44,10,45]) (kh:=[8,0,10208]) (q:=inI ((x2:Int) + 1)/\True/\True) (st':=ASt.mk [(6,.ptr 8 []),(7,.win 0 [PS.fld 1,PS.idx m 6] 2 p),(28,.win 0 [PS.fld 1,PS.idx m 6] 2 p),(29,iv (p:Int)),(8,iv (min (sprTo (w.whn m) p x0).first (w.whn m x0).hi)),(9,iv (max (sprTo (w.whn m) p x0).last (w.whn m x0).lo)),(30,iv (x0:Int)),(12,.ptr 10208 []),(11,iv (x0:Int)),(43,.win 0 [PS.fld 1,PS.idx m 6] 2 p),(44,iv (p:Int)),(10,iv (sprIn (w.whn m) x0 (sprTo (w.whn m) p x0).high x2)),(45,iv ((x2:Int) + 1))] [(8,.cells 37 [iv 0,iv 0]),(0,.cells 107 (cWay w)),(10208,.cells 37 (cSpan (w.whn m x0)))] 20432) (by kernel_rfl) ⟨(o30 hp x0 hx0 h1 x2 hx2 h3 h4),tv,tv⟩ ?_
    exact loop_next (Hint.ann (h108b w m p x0) [(6,AV.ptr 8 []),(7,AV.win 0 [PS.fld 1,PS.idx m 6] 2 p),(28,AV.win 0 [PS.fld 1,PS.idx m 6] 2 p),(29,iv (p:Int)),(8,iv (min (sprTo (w.whn m) p x0).first (w.whn m x0).hi)),(9,iv (max (sprTo (w.whn m) p x0).last (w.whn m x0).lo)),(30,iv (x0:Int)),(12,AV.ptr 10208 []),(11,iv (x0:Int)),(43,AV.win 0 [PS.fld 1,PS.idx m 6] 2 p),(44,iv (p:Int))] [(8,OB.cells 37 [iv 0,iv 0]),(0,OB.cells 107 (cWay w)),(10208,OB.cells 37 (cSpan (w.whn m x0)))] 20336) x2 (ent_q hE [] [(8,.same 8),(0,.same 0),(10208,.same 10208)] [29,8,9,30,11,44] [8,0,10208] (((some (Src.same 8)=some (Src.same 8)/\nilP = [])/\(some (Src.same 0)=some (Src.same 0) /\ [PS.fld 1,PS.idx m 6] = [PS.fld 1,PS.idx m 6]/\2=2/\p=p)/\(some (Src.same 0)=some (Src.same 0) /\ [PS.fld 1,PS.idx m 6] = [PS.fld 1,PS.idx m 6]/\2=2/\p=p)/\(iv (p:Int)=iv (p:Int)/\true=true)/\(iv (min (sprTo (w.whn m) p x0).first (w.whn m x0).hi)=iv (min (sprTo (w.whn m) p x0).first (w.whn m x0).hi)/\true=true)/\(iv (max (sprTo (w.whn m) p x0).last (w.whn m x0).lo)=iv (max (sprTo (w.whn m) p x0).last (w.whn m x0).lo)/\true=true)/\(iv (x0:Int)=iv (x0:Int)/\true=true)/\(some (Src.same 10208)=some (Src.same 10208)/\nilP = [])/\(iv (x0:Int)=iv (x0:Int)/\true=true)/\(some (Src.same 0)=some (Src.same 0) /\ [PS.fld 1,PS.idx m 6] = [PS.fld 1,PS.idx m 6]/\2=2/\p=p)/\(iv (p:Int)=iv (p:Int)/\true=true)/\(iv (sprIn (w.whn m) x0 (sprTo (w.whn m) p x0).high x2)=iv (sprIn (w.whn m) x0 (sprTo (w.whn m) p x0).high (x2 + 1))/\nilN = [])/\(iv ((x2:Int) + 1)=iv (↑(x2 + 1):Int)/\nilN = [])/\True)/\((OB.cells 37 [iv 0,iv 0]=OB.cells 37 [iv 0,iv 0]/\true=true)/\(OB.cells 107 (cWay w)=OB.cells 107 (cWay w)/\true=true)/\(OB.cells 37 (cSpan (w.whn m x0))=OB.cells 37 (cSpan (w.whn m x0))/\true=true)/\True)/\T2) (by kernel_rfl) (by kernel_rfl) ⟨⟨⟨rfl,rfl⟩,⟨rfl,rfl,rfl,rfl⟩,⟨rfl,rfl,rfl,rfl⟩,⟨rfl,rfl⟩,⟨rfl,rfl⟩,⟨rfl,rfl⟩,⟨rfl,rfl⟩,⟨rfl,rfl⟩,⟨rfl,rfl⟩,⟨rfl,rfl,rfl,rfl⟩,⟨rfl,rfl⟩,⟨(congrArg iv (o31 hp x0 hx0 h1 x2 hx2 h3 h4)),rfl⟩,⟨(congrArg iv (o32 hp x0 hx0 h1 x2 hx2 h3 h4)),rfl⟩,tv⟩,⟨⟨rfl,rfl⟩,⟨rfl,rfl⟩,⟨rfl,rfl⟩,tv⟩,rfl,rfl⟩) (o33 hp x0 hx0 h1 x2 hx2 h3 h4) (o34 hp x0 hx0 h1 x2 hx2 h3 h4)
  ·refine swp_exit ?_
   refine sR (kt:=[6,7,28,29,8,9,30,10]) (kh:=[8,0]) (q:=inI ((x0:Int) + 1)/\True/\True) (st':=ASt.mk [(6,.ptr 8 []),(7,.win 0 [PS.fld 1,PS.idx m 6] 2 p),(28,.win 0 [PS.fld 1,PS.idx m 6] 2 p),(29,iv (p:Int)),(8,iv (min (sprTo (w.whn m) p x0).first (w.whn m x0).hi)),(9,iv (max (sprTo (w.whn m) p x0).last (w.whn m x0).lo)),(30,iv ((x0:Int) + 1)),(10,iv (sprIn (w.whn m) x0 (sprTo (w.whn m) p x0).high x2))] [(8,.cells 37 [iv 0,iv 0]),(0,.cells 107 (cWay w))] 20360) (by kernel_rfl) ⟨(o35 hp x0 hx0 h1 x2 hx2 h3),tv,tv⟩ ?_
   exact loop_next (Hint.ann (h108a w m p) [(6,AV.ptr 8 []),(7,AV.win 0 [PS.fld 1,PS.idx m 6] 2 p),(28,AV.win 0 [PS.fld 1,PS.idx m 6] 2 p),(29,iv (p:Int))] [(8,OB.cells 37 [iv 0,iv 0]),(0,OB.cells 107 (cWay w))] 10176) x0 (ent_q hE [] [(8,.same 8),(0,.same 0)] [29] [8,0] (((some (Src.same 8)=some (Src.same 8)/\nilP = [])/\(some (Src.same 0)=some (Src.same 0) /\ [PS.fld 1,PS.idx m 6] = [PS.fld 1,PS.idx m 6]/\2=2/\p=p)/\(some (Src.same 0)=some (Src.same 0) /\ [PS.fld 1,PS.idx m 6] = [PS.fld 1,PS.idx m 6]/\2=2/\p=p)/\(iv (p:Int)=iv (p:Int)/\true=true)/\(iv (min (sprTo (w.whn m) p x0).first (w.whn m x0).hi)=iv (sprTo (w.whn m) p (x0 + 1)).first/\nilN = [])/\(iv (max (sprTo (w.whn m) p x0).last (w.whn m x0).lo)=iv (sprTo (w.whn m) p (x0 + 1)).last/\nilN = [])/\(iv (sprIn (w.whn m) x0 (sprTo (w.whn m) p x0).high x2)=iv (sprTo (w.whn m) p (x0 + 1)).high/\nilN = [])/\(iv ((x0:Int) + 1)=iv (↑(x0 + 1):Int)/\nilN = [])/\True)/\((OB.cells 37 [iv 0,iv 0]=OB.cells 37 [iv 0,iv 0]/\true=true)/\(OB.cells 107 (cWay w)=OB.cells 107 (cWay w)/\true=true)/\True)/\T2) (by kernel_rfl) (by kernel_rfl) ⟨⟨⟨rfl,rfl⟩,⟨rfl,rfl,rfl,rfl⟩,⟨rfl,rfl,rfl,rfl⟩,⟨rfl,rfl⟩,⟨(congrArg iv (o36 hp x0 hx0 h1 x2 hx2 h3)),rfl⟩,⟨(congrArg iv (o37 hp x0 hx0 h1 x2 hx2 h3)),rfl⟩,⟨(congrArg iv (o38 hp x0 hx0 h1 x2 hx2 h3)),rfl⟩,⟨(congrArg iv (o39 hp x0 hx0 h1 x2 hx2 h3)),rfl⟩,tv⟩,⟨⟨rfl,rfl⟩,⟨rfl,rfl⟩,tv⟩,rfl,rfl⟩) (o40 hp x0 hx0 h1 x2 hx2 h3) (o41 hp x0 hx0 h1 x2 hx2 h3)
 ·refine swp_exit (swp_seq ?_)
  refine sR (kt:=[6]) (kh:=[8]) (q:=True/\True/\inI ((sprTo (w.whn m) p x0).last - (sprTo (w.whn m) p x0).first)/\True/\True/\True/\True/\True) (st':=ASt.mk [(6,.ptr 8 [])] [(8,.cells 37 [iv (max 0 ((sprTo (w.whn m) p x0).last - (sprTo (w.whn m) p x0).first)),iv (sprTo (w.whn m) p x0).high])] 10240) (by kernel_rfl) ⟨tv,tv,(o42 hp x0 hx0 h1),tv,tv,tv,tv,tv⟩ ?_
  refine swp_ret ?_
  exact ret_q [] ((True/\True)/\((iv (max 0 ((sprTo (w.whn m) p x0).last - (sprTo (w.whn m) p x0).first))=iv (spread (w.whn m) p).lo/\nilN = [])/\(iv (sprTo (w.whn m) p x0).high=iv (spread (w.whn m) p).hi/\nilN = [])/\True)/\T3) (by kernel_rfl) ⟨⟨tv,tv⟩,⟨⟨(congrArg iv (o43 hp x0 hx0 h1)),rfl⟩,⟨(congrArg iv (o44 hp x0 hx0 h1)),rfl⟩,tv⟩,rfl,rfl,rfl⟩
theorem t108 (w:WayS) (m p:Nat):Triple Try.prog 108 (s108 w m p):=by
 have gbw:wb w->gb (w.whn m):=fun h p=>h m p
 apply w108
 all_goals (first
  | ((repeat intro _) <;> (try simp only [v0,v1,v2,v3,v4,v5,v6,v7,v8,v9,inI,fits,Go.Sh.small] at *) <;> first | (exact rfl) | omega | exact vz | (simp_all; done) | (simp_all; omega))
  | (intro hp x hx hl; have h1:=hp.1 m x; have h2:=sprTo_b (gbw hp.1) p x; simp only [sb] at h1; simp only [decide_eq_true_eq,decide_eq_false_iff_not,inI] at *; omega)
  | (intro hp x hx hl k hk hkl h; have h1:=hp.1 m x; have h2:=hp.1 m k; simp only [sb] at h1 h2; simp only [inI]; omega)
  | (intro hp x hx hl k hk hkl h; rw [sprIn_succ,if_neg (show ¬ x=k from fun e=>by simp [e] at h)]; done)
  | (intro hp x hx hl k hk hkl h; rw [sprIn_succ,if_pos (show x=k from by simp only [Bool.not_eq_false',decide_eq_true_eq] at h; omega)]; done)
  | (intro hp x hx hl k hk hkl; rw [sprTo_succ,show k=p by simp only [decide_eq_false_iff_not] at hkl; omega]; done)
  | (intro hp x hx hl k hk hkl; rw [sprTo_succ]; done)
  | (intro hp x hx hl; rw [show x=p by simp only [decide_eq_false_iff_not] at hl; omega] <;> rfl))
abbrev q83_1 (w:WayS) (r:Run) (p:Nat) (C:Prop):Prop:=rb r/\wb w/\p < 3->C
abbrev q83_2 (w:WayS) (r:Run) (p:Nat) (C:Nat->Prop):Prop:=q83_1 w r p (∀ (x0:Nat),x0<=r.machines.length->decide ((x0:Int) < (↑(r.machines.length):Int))=true->C x0)
theorem w83 (w:WayS) (r:Run) (p:Nat)
 (o0:q83_1 w r p (0=(↑0:Int)))
 (o1:q83_1 w r p (0=(sumTo r (fun (m:Nat)=>w.whn m p) 0).lo))
 (o2:q83_1 w r p (0=(sumTo r (fun (m:Nat)=>w.whn m p) 0).hi))
 (o3:q83_1 w r p (0<=r.machines.length))
 (o4:q83_2 w r p fun x0=>0<=(x0:Int))
 (o5:q83_2 w r p fun x0=>(x0:Int) < (↑(r.machines.length):Int))
 (o6:q83_2 w r p fun x0=>0<=(x0:Int))
 (o7:q83_2 w r p fun x0=>(x0:Int) < (↑3:Int))
 (o8:q83_2 w r p fun x0=>0<=(p:Int))
 (o9:q83_2 w r p fun x0=>(p:Int) < (↑3:Int))
 (o10:q83_2 w r p fun x0=>x0 < 3)
 (o11:q83_2 w r p fun x0=>p < 3)
 (o12:q83_2 w r p fun x0=>inI ((mach r x0).rate * (w.whn x0 p).lo))
 (o13:q83_2 w r p fun x0=>inI ((sumTo r (fun (m:Nat)=>w.whn m p) x0).lo + (mach r x0).rate * (w.whn x0 p).lo))
 (o14:q83_2 w r p fun x0=>0<=(x0:Int))
 (o15:q83_2 w r p fun x0=>(x0:Int) < (↑3:Int))
 (o16:q83_2 w r p fun x0=>0<=(p:Int))
 (o17:q83_2 w r p fun x0=>(p:Int) < (↑3:Int))
 (o18:q83_2 w r p fun x0=>x0 < 3)
 (o19:q83_2 w r p fun x0=>p < 3)
 (o20:q83_2 w r p fun x0=>inI ((mach r x0).rate * (w.whn x0 p).hi))
 (o21:q83_2 w r p fun x0=>inI ((sumTo r (fun (m:Nat)=>w.whn m p) x0).hi + (mach r x0).rate * (w.whn x0 p).hi))
 (o22:q83_2 w r p fun x0=>inI ((x0:Int) + 1))
 (o23:q83_2 w r p fun x0=>(x0:Int) + 1=(↑(x0 + 1):Int))
 (o24:q83_2 w r p fun x0=>(sumTo r (fun (m:Nat)=>w.whn m p) x0).lo + (mach r x0).rate * (w.whn x0 p).lo=(sumTo r (fun (m:Nat)=>w.whn m p) (x0 + 1)).lo)
 (o25:q83_2 w r p fun x0=>(sumTo r (fun (m:Nat)=>w.whn m p) x0).hi + (mach r x0).rate * (w.whn x0 p).hi=(sumTo r (fun (m:Nat)=>w.whn m p) (x0 + 1)).hi)
 (o26:q83_2 w r p fun x0=>x0 + 1<=r.machines.length)
 (o27:q83_2 w r p fun x0=>r.machines.length - (x0 + 1) < r.machines.length - x0)
 (o28:q83_1 w r p (∀ (x0:Nat),x0<=r.machines.length->decide ((x0:Int) < (↑(r.machines.length):Int))=false->(sumTo r (fun (m:Nat)=>w.whn m p) x0).lo=(oldF r p w).lo))
 (o29:q83_1 w r p (∀ (x0:Nat),x0<=r.machines.length->decide ((x0:Int) < (↑(r.machines.length):Int))=false->(sumTo r (fun (m:Nat)=>w.whn m p) x0).hi=(oldF r p w).hi)) :
  Triple Try.prog 83 (s83 w r p):=by
 refine triple_of Try.func83 rfl Try.call83 T0_ok _ rfl rfl rfl rfl (Nat.le_of_ble_eq_true (by kernel_rfl)) (fun _ _ _ _ h=>h) ?_
 intro hp C hC _ hE
 obtain ⟨P,w0,E0,av,hA⟩:=C
 subst hC
 refine swp_seq ?_
 refine sR (kt:=[1,2,3,4]) (kh:=[0,8]) (q:=True/\True/\True) (st':=ASt.mk [(1,.rp (cRun r)),(2,.rp [iv (p:Int)]),(3,.ptr 0 []),(4,.ptr 8 [])] [(0,.cells 107 (cWay w)),(8,.cells 37 [iv 0,iv 0])] 16) (by kernel_rfl) ⟨tv,tv,tv⟩ ?_
 refine swp_seq (swp_seq ?_)
 refine sR (kt:=[2,3,4,8,9,10]) (kh:=[0,8]) (q:=True/\True/\True/\True/\True) (st':=ASt.mk [(2,.rp [iv (p:Int)]),(3,.ptr 0 []),(4,.ptr 8 []),(8,.sl 2 r.machines.length fun (i:Nat)=>cMach (mach r i)),(9,iv (↑(r.machines.length):Int)),(10,iv 0)] [(0,.cells 107 (cWay w)),(8,.cells 37 [iv 0,iv 0])] 48) (by kernel_rfl) ⟨tv,tv,tv,tv,tv⟩ ?_
 refine swp_block ?_
 refine swp_loopA (Hint.ann (h83 w r p) [(2,AV.rp [iv (p:Int)]),(3,AV.ptr 0 []),(8,AV.sl 2 r.machines.length fun (i:Nat)=>cMach (mach r i)),(9,iv (↑(r.machines.length):Int))] [(0,OB.cells 107 (cWay w))] 10048) (ent_q hE [] [(0,.same 0),(5000,.same 8)] [2,8,9] [0] (((AV.rp [iv (p:Int)]=AV.rp [iv (p:Int)]/\true=true)/\(some (Src.same 0)=some (Src.same 0)/\nilP = [])/\(((AV.sl 2 r.machines.length fun (i:Nat)=>cMach (mach r i))=AV.sl 2 r.machines.length fun (i:Nat)=>cMach (mach r i))/\true=true)/\(iv (↑(r.machines.length):Int)=iv (↑(r.machines.length):Int)/\true=true)/\(iv 0=iv (↑0:Int)/\nilN = [])/\(some (Src.same 8)=some (Src.same 8)/\nilP = [])/\True)/\((OB.cells 107 (cWay w)=OB.cells 107 (cWay w)/\true=true)/\(37=37/\((iv 0=iv (sumTo r (fun (m:Nat)=>w.whn m p) 0).lo/\nilN = [])/\(iv 0=iv (sumTo r (fun (m:Nat)=>w.whn m p) 0).hi/\nilN = [])/\True)/\true=true)/\True)/\T2) (by kernel_rfl) (by kernel_rfl) ⟨⟨⟨rfl,rfl⟩,⟨rfl,rfl⟩,⟨rfl,rfl⟩,⟨rfl,rfl⟩,⟨(congrArg iv (o0 hp)),rfl⟩,⟨rfl,rfl⟩,tv⟩,⟨⟨rfl,rfl⟩,⟨rfl,⟨⟨(congrArg iv (o1 hp)),rfl⟩,⟨(congrArg iv (o2 hp)),rfl⟩,tv⟩,rfl⟩,tv⟩,rfl,rfl⟩) (o3 hp) (fun (x0:Nat) hx0 => ?_)
 refine swp_seq ?_
 refine sR (kt:=[2,3,8,9,10,4,11]) (kh:=[0,5000]) (q:=True/\True) (st':=ASt.mk [(2,.rp [iv (p:Int)]),(3,.ptr 0 []),(8,.sl 2 r.machines.length fun (i:Nat)=>cMach (mach r i)),(9,iv (↑(r.machines.length):Int)),(10,iv (x0:Int)),(4,.ptr 5000 []),(11,bv (decide ((x0:Int) < (↑(r.machines.length):Int))))] [(0,.cells 107 (cWay w)),(5000,.cells 37 (cSpan (sumTo r (fun (m:Nat)=>w.whn m p) x0)))] 10056) (by kernel_rfl) ⟨tv,tv⟩ ?_
 refine swp_seq ?_
 refine swp_cond (decide ((x0:Int) < (↑(r.machines.length):Int))) (by kernel_rfl) (fun h1 => ?_) (fun h1 => ?_)
 ·refine swp_skip (swp_seq (swp_block (swp_seq ?_)))
  refine sR (kt:=[2,3,8,9,10,4,6,5]) (kh:=[0,5000,10080]) (q:=True/\(0<=(x0:Int)/\(x0:Int) < (↑(r.machines.length):Int))/\True/\True/\True/\True/\True) (st':=ASt.mk [(2,.rp [iv (p:Int)]),(3,.ptr 0 []),(8,.sl 2 r.machines.length fun (i:Nat)=>cMach (mach r i)),(9,iv (↑(r.machines.length):Int)),(10,iv (x0:Int)),(4,.ptr 5000 []),(6,.ptr 10080 []),(5,iv (x0:Int))] [(0,.cells 107 (cWay w)),(5000,.cells 37 (cSpan (sumTo r (fun (m:Nat)=>w.whn m p) x0))),(10080,.cells 42 (cMach (mach r x0)))] 10104) (by kernel_rfl) ⟨tv,⟨(o4 hp x0 hx0 h1),(o5 hp x0 hx0 h1)⟩,tv,tv,tv,tv,tv⟩ ?_
  refine swp_seq ?_
  refine sR (kt:=[2,3,8,9,10,4,6,5]) (kh:=[0,5000,10080]) (q:=True/\True/\True/\True/\True/\True/\True/\(0<=(x0:Int)/\(x0:Int) < (↑3:Int))/\(0<=(p:Int)/\(p:Int) < (↑3:Int))/\True/\(x0 < 3/\p < 3/\True)/\inI ((mach r x0).rate * (w.whn x0 p).lo)/\inI ((sumTo r (fun (m:Nat)=>w.whn m p) x0).lo + (mach r x0).rate * (w.whn x0 p).lo)/\True/\True/\True) (st':=ASt.mk [(2,.rp [iv (p:Int)]),(3,.ptr 0 []),(8,.sl 2 r.machines.length fun (i:Nat)=>cMach (mach r i)),(9,iv (↑(r.machines.length):Int)),(10,iv (x0:Int)),(4,.ptr 5000 []),(6,.ptr 10080 []),(5,iv (x0:Int))] [(0,.cells 107 (cWay w)),(5000,.cells 37 [iv ((sumTo r (fun (m:Nat)=>w.whn m p) x0).lo + (mach r x0).rate * (w.whn x0 p).lo),iv (sumTo r (fun (m:Nat)=>w.whn m p) x0).hi]),(10080,.cells 42 (cMach (mach r x0)))] 10224) (by kernel_rfl) ⟨tv,tv,tv,tv,tv,tv,tv,⟨(o6 hp x0 hx0 h1),(o7 hp x0 hx0 h1)⟩,⟨(o8 hp x0 hx0 h1),(o9 hp x0 hx0 h1)⟩,tv,⟨(o10 hp x0 hx0 h1),(o11 hp x0 hx0 h1),tv⟩,(o12 hp x0 hx0 h1),(o13 hp x0 hx0 h1),tv,tv,tv⟩ ?_
  refine sR (kt:=[2,3,8,9,10,4]) (kh:=[0,5000]) (q:=True/\True/\True/\True/\True/\True/\True/\(0<=(x0:Int)/\(x0:Int) < (↑3:Int))/\(0<=(p:Int)/\(p:Int) < (↑3:Int))/\True/\(x0 < 3/\p < 3/\True)/\inI ((mach r x0).rate * (w.whn x0 p).hi)/\inI ((sumTo r (fun (m:Nat)=>w.whn m p) x0).hi + (mach r x0).rate * (w.whn x0 p).hi)/\True/\True/\True) (st':=ASt.mk [(2,.rp [iv (p:Int)]),(3,.ptr 0 []),(8,.sl 2 r.machines.length fun (i:Nat)=>cMach (mach r i)),(9,iv (↑(r.machines.length):Int)),(10,iv (x0:Int)),(4,.ptr 5000 [])] [(0,.cells 107 (cWay w)),(5000,.cells 37 [iv ((sumTo r (fun (m:Nat)=>w.whn m p) x0).lo + (mach r x0).rate * (w.whn x0 p).lo),iv ((sumTo r (fun (m:Nat)=>w.whn m p) x0).hi + (mach r x0).rate * (w.whn x0 p).hi)])] 10344) (by kernel_rfl) ⟨tv,tv,tv,tv,tv,tv,tv,⟨(o14 hp x0 hx0 h1),(o15 hp x0 hx0 h1)⟩,⟨(o16 hp x0 hx0 h1),(o17 hp x0 hx0 h1)⟩,tv,⟨(o18 hp x0 hx0 h1),(o19 hp x0 hx0 h1),tv⟩,(o20 hp x0 hx0 h1),(o21 hp x0 hx0 h1),tv,tv,tv⟩ ?_
  refine sR (kt:=[2,3,8,9,10,4]) (kh:=[0,5000]) (q:=inI ((x0:Int) + 1)/\True/\True) (st':=ASt.mk [(2,.rp [iv (p:Int)]),(3,.ptr 0 []),(8,.sl 2 r.machines.length fun (i:Nat)=>cMach (mach r i)),(9,iv (↑(r.machines.length):Int)),(10,iv ((x0:Int) + 1)),(4,.ptr 5000 [])] [(0,.cells 107 (cWay w)),(5000,.cells 37 [iv ((sumTo r (fun (m:Nat)=>w.whn m p) x0).lo + (mach r x0).rate * (w.whn x0 p).lo),iv ((sumTo r (fun (m:Nat)=>w.whn m p) x0).hi + (mach r x0).rate * (w.whn x0 p).hi)])] 10360) (by kernel_rfl) ⟨(o22 hp x0 hx0 h1),tv,tv⟩ ?_
  exact loop_next (Hint.ann (h83 w r p) [(2,AV.rp [iv (p:Int)]),(3,AV.ptr 0 []),(8,AV.sl 2 r.machines.length fun (i:Nat)=>cMach (mach r i)),(9,iv (↑(r.machines.length):Int))] [(0,OB.cells 107 (cWay w))] 10048) x0 (ent_q hE [] [(0,.same 0),(5000,.same 5000)] [2,8,9] [0] (((AV.rp [iv (p:Int)]=AV.rp [iv (p:Int)]/\true=true)/\(some (Src.same 0)=some (Src.same 0)/\nilP = [])/\(((AV.sl 2 r.machines.length fun (i:Nat)=>cMach (mach r i))=AV.sl 2 r.machines.length fun (i:Nat)=>cMach (mach r i))/\true=true)/\(iv (↑(r.machines.length):Int)=iv (↑(r.machines.length):Int)/\true=true)/\(iv ((x0:Int) + 1)=iv (↑(x0 + 1):Int)/\nilN = [])/\(some (Src.same 5000)=some (Src.same 5000)/\nilP = [])/\True)/\((OB.cells 107 (cWay w)=OB.cells 107 (cWay w)/\true=true)/\(37=37/\((iv ((sumTo r (fun (m:Nat)=>w.whn m p) x0).lo + (mach r x0).rate * (w.whn x0 p).lo)=iv (sumTo r (fun (m:Nat)=>w.whn m p) (x0 + 1)).lo/\nilN = [])/\(iv ((sumTo r (fun (m:Nat)=>w.whn m p) x0).hi + (mach r x0).rate * (w.whn x0 p).hi)=iv (sumTo r (fun (m:Nat)=>w.whn m p) (x0 + 1)).hi/\nilN = [])/\True)/\true=true)/\True)/\T2) (by kernel_rfl) (by kernel_rfl) ⟨⟨⟨rfl,rfl⟩,⟨rfl,rfl⟩,⟨rfl,rfl⟩,⟨rfl,rfl⟩,⟨(congrArg iv (o23 hp x0 hx0 h1)),rfl⟩,⟨rfl,rfl⟩,tv⟩,⟨⟨rfl,rfl⟩,⟨rfl,⟨⟨(congrArg iv (o24 hp x0 hx0 h1)),rfl⟩,⟨(congrArg iv (o25 hp x0 hx0 h1)),rfl⟩,tv⟩,rfl⟩,tv⟩,rfl,rfl⟩) (o26 hp x0 hx0 h1) (o27 hp x0 hx0 h1)
 ·refine swp_exit (swp_seq ?_)
  refine sR (kt:=[4]) (kh:=[5000]) (q:=True/\True/\True) (st':=ASt.mk [(4,.ptr 5000 [])] [(5000,.cells 37 (cSpan (sumTo r (fun (m:Nat)=>w.whn m p) x0)))] 10072) (by kernel_rfl) ⟨tv,tv,tv⟩ ?_
  refine swp_ret ?_
  exact ret_q [] ((True/\True)/\((iv (sumTo r (fun (m:Nat)=>w.whn m p) x0).lo=iv (oldF r p w).lo/\nilN = [])/\(iv (sumTo r (fun (m:Nat)=>w.whn m p) x0).hi=iv (oldF r p w).hi/\nilN = [])/\True)/\T3) (by kernel_rfl) ⟨⟨tv,tv⟩,⟨⟨(congrArg iv (o28 hp x0 hx0 h1)),rfl⟩,⟨(congrArg iv (o29 hp x0 hx0 h1)),rfl⟩,tv⟩,rfl,rfl,rfl⟩
theorem t83 (w:WayS) (r:Run) (p:Nat):Triple Try.prog 83 (s83 w r p):=by
 apply w83
 all_goals (try (first | (((repeat intro _) <;> (try simp only [v0,v1,v2,v3,v4,v5,v6,v7,v8,v9,inI,fits,Go.Sh.small] at *) <;> first | (exact rfl) | omega | exact vz | (simp_all; done) | (simp_all; omega))) | ((repeat intro _); rw [sumTo_succ]; done) | (intro hp x hx hl; rw [show x=r.machines.length by simp only [decide_eq_false_iff_not] at hl; omega] <;> rfl) | (
  intro hp x hx hl
  simp only [decide_eq_true_eq] at hl
  have h1:=hp.2.1 x p
  have h2:=sumTo_b hp.1 (f:=fun m=>w.whn m p) (fun m=>hp.2.1 m p) x (by omega)
  have h3:=hp.1.2 x (by omega)
  have h4:=rate_mul h3 ⟨h1.1,h1.2.1⟩
  have h5:=rate_mul h3 ⟨h1.2.2.1,h1.2.2.2⟩
  have h6:=hp.1.1
  try simp only [inI]
  omega)))
abbrev q117_1 (w:WayS) (r:Run) (C:Prop):Prop:=rb r/\wb w/\1<=r.plates/\r.plates<=3->C
abbrev q117_2 (w:WayS) (r:Run) (C:Nat->Prop):Prop:=q117_1 w r (∀ (x0:Nat),x0<=r.machines.length->decide ((x0:Int) < (↑(r.machines.length):Int))=true->C x0)
theorem w117 (w:WayS) (r:Run)
 (o0:q117_1 w r (0=(↑0:Int)))
 (o1:q117_1 w r (0=(sumTo r (fun (m:Nat)=>spread (w.whn m) r.plates.toNat) 0).lo))
 (o2:q117_1 w r (0=(sumTo r (fun (m:Nat)=>spread (w.whn m) r.plates.toNat) 0).hi))
 (o3:q117_1 w r (0<=r.machines.length))
 (o4:q117_2 w r fun x0=>0<=(x0:Int))
 (o5:q117_2 w r fun x0=>(x0:Int) < (↑(r.machines.length):Int))
 (o6:q117_2 w r fun x0=>r.plates=(↑(r.plates.toNat):Int))
 (o7:q117_2 w r fun x0=>wb w)
 (o8:q117_2 w r fun x0=>x0 < 3)
 (o9:q117_2 w r fun x0=>1<=r.plates.toNat)
 (o10:q117_2 w r fun x0=>r.plates.toNat<=3)
 (o11:q117_2 w r fun x0=>inI ((mach r x0).rate * (spread (w.whn x0) r.plates.toNat).lo))
 (o12:q117_2 w r fun x0=>inI ((sumTo r (fun (m:Nat)=>spread (w.whn m) r.plates.toNat) x0).lo + (mach r x0).rate * (spread (w.whn x0) r.plates.toNat).lo))
 (o13:q117_2 w r fun x0=>inI ((mach r x0).rate * (spread (w.whn x0) r.plates.toNat).hi))
 (o14:q117_2 w r fun x0=>inI ((sumTo r (fun (m:Nat)=>spread (w.whn m) r.plates.toNat) x0).hi + (mach r x0).rate * (spread (w.whn x0) r.plates.toNat).hi))
 (o15:q117_2 w r fun x0=>inI ((x0:Int) + 1))
 (o16:q117_2 w r fun x0=>(x0:Int) + 1=(↑(x0 + 1):Int))
 (o17:q117_2 w r fun x0=>(sumTo r (fun (m:Nat)=>spread (w.whn m) r.plates.toNat) x0).lo + (mach r x0).rate * (spread (w.whn x0) r.plates.toNat).lo=(sumTo r (fun (m:Nat)=>spread (w.whn m) r.plates.toNat) (x0 + 1)).lo)
 (o18:q117_2 w r fun x0=>(sumTo r (fun (m:Nat)=>spread (w.whn m) r.plates.toNat) x0).hi + (mach r x0).rate * (spread (w.whn x0) r.plates.toNat).hi=(sumTo r (fun (m:Nat)=>spread (w.whn m) r.plates.toNat) (x0 + 1)).hi)
 (o19:q117_2 w r fun x0=>x0 + 1<=r.machines.length)
 (o20:q117_2 w r fun x0=>r.machines.length - (x0 + 1) < r.machines.length - x0)
 (o21:q117_1 w r (∀ (x0:Nat),x0<=r.machines.length->decide ((x0:Int) < (↑(r.machines.length):Int))=false->(sumTo r (fun (m:Nat)=>spread (w.whn m) r.plates.toNat) x0).lo=(mixF r w).lo))
 (o22:q117_1 w r (∀ (x0:Nat),x0<=r.machines.length->decide ((x0:Int) < (↑(r.machines.length):Int))=false->(sumTo r (fun (m:Nat)=>spread (w.whn m) r.plates.toNat) x0).hi=(mixF r w).hi)) :
  Triple Try.prog 117 (s117 w r):=by
 refine triple_of Try.func117 rfl Try.call117 T0_ok _ rfl rfl rfl rfl (Nat.le_of_ble_eq_true (by kernel_rfl)) (fun _ _ _ _ h=>h) ?_
 intro hp C hC _ hE
 obtain ⟨P,w0,E0,av,hA⟩:=C
 subst hC
 refine swp_seq ?_
 refine sR (kt:=[1,2,3]) (kh:=[0,8]) (q:=True/\True/\True) (st':=ASt.mk [(1,.rp (cRun r)),(2,.ptr 0 []),(3,.ptr 8 [])] [(0,.cells 107 (cWay w)),(8,.cells 37 [iv 0,iv 0])] 16) (by kernel_rfl) ⟨tv,tv,tv⟩ ?_
 refine swp_seq (swp_seq ?_)
 refine sR (kt:=[1,2,3,8,9,10]) (kh:=[0,8]) (q:=True/\True/\True/\True/\True) (st':=ASt.mk [(1,.rp (cRun r)),(2,.ptr 0 []),(3,.ptr 8 []),(8,.sl 2 r.machines.length fun (i:Nat)=>cMach (mach r i)),(9,iv (↑(r.machines.length):Int)),(10,iv 0)] [(0,.cells 107 (cWay w)),(8,.cells 37 [iv 0,iv 0])] 48) (by kernel_rfl) ⟨tv,tv,tv,tv,tv⟩ ?_
 refine swp_block ?_
 refine swp_loopA (Hint.ann (h117 w r) [(1,AV.rp (cRun r)),(2,AV.ptr 0 []),(8,AV.sl 2 r.machines.length fun (i:Nat)=>cMach (mach r i)),(9,iv (↑(r.machines.length):Int))] [(0,OB.cells 107 (cWay w))] 10048) (ent_q hE [] [(0,.same 0),(5000,.same 8)] [1,8,9] [0] (((AV.rp (cRun r)=AV.rp (cRun r)/\true=true)/\(some (Src.same 0)=some (Src.same 0)/\nilP = [])/\(((AV.sl 2 r.machines.length fun (i:Nat)=>cMach (mach r i))=AV.sl 2 r.machines.length fun (i:Nat)=>cMach (mach r i))/\true=true)/\(iv (↑(r.machines.length):Int)=iv (↑(r.machines.length):Int)/\true=true)/\(iv 0=iv (↑0:Int)/\nilN = [])/\(some (Src.same 8)=some (Src.same 8)/\nilP = [])/\True)/\((OB.cells 107 (cWay w)=OB.cells 107 (cWay w)/\true=true)/\(37=37/\((iv 0=iv (sumTo r (fun (m:Nat)=>spread (w.whn m) r.plates.toNat) 0).lo/\nilN = [])/\(iv 0=iv (sumTo r (fun (m:Nat)=>spread (w.whn m) r.plates.toNat) 0).hi/\nilN = [])/\True)/\true=true)/\True)/\T2) (by kernel_rfl) (by kernel_rfl) ⟨⟨⟨rfl,rfl⟩,⟨rfl,rfl⟩,⟨rfl,rfl⟩,⟨rfl,rfl⟩,⟨(congrArg iv (o0 hp)),rfl⟩,⟨rfl,rfl⟩,tv⟩,⟨⟨rfl,rfl⟩,⟨rfl,⟨⟨(congrArg iv (o1 hp)),rfl⟩,⟨(congrArg iv (o2 hp)),rfl⟩,tv⟩,rfl⟩,tv⟩,rfl,rfl⟩) (o3 hp) (fun (x0:Nat) hx0 => ?_)
 refine swp_seq ?_
 refine sR (kt:=[1,2,8,9,10,3,11]) (kh:=[0,5000]) (q:=True/\True) (st':=ASt.mk [(1,.rp (cRun r)),(2,.ptr 0 []),(8,.sl 2 r.machines.length fun (i:Nat)=>cMach (mach r i)),(9,iv (↑(r.machines.length):Int)),(10,iv (x0:Int)),(3,.ptr 5000 []),(11,bv (decide ((x0:Int) < (↑(r.machines.length):Int))))] [(0,.cells 107 (cWay w)),(5000,.cells 37 (cSpan (sumTo r (fun (m:Nat)=>spread (w.whn m) r.plates.toNat) x0)))] 10056) (by kernel_rfl) ⟨tv,tv⟩ ?_
 refine swp_seq ?_
 refine swp_cond (decide ((x0:Int) < (↑(r.machines.length):Int))) (by kernel_rfl) (fun h1 => ?_) (fun h1 => ?_)
 ·refine swp_skip (swp_seq (swp_block (swp_seq ?_)))
  refine sR (kt:=[1,2,8,9,10,3,5,4]) (kh:=[0,5000,10080]) (q:=True/\(0<=(x0:Int)/\(x0:Int) < (↑(r.machines.length):Int))/\True/\True/\True/\True/\True) (st':=ASt.mk [(1,.rp (cRun r)),(2,.ptr 0 []),(8,.sl 2 r.machines.length fun (i:Nat)=>cMach (mach r i)),(9,iv (↑(r.machines.length):Int)),(10,iv (x0:Int)),(3,.ptr 5000 []),(5,.ptr 10080 []),(4,iv (x0:Int))] [(0,.cells 107 (cWay w)),(5000,.cells 37 (cSpan (sumTo r (fun (m:Nat)=>spread (w.whn m) r.plates.toNat) x0))),(10080,.cells 42 (cMach (mach r x0)))] 10104) (by kernel_rfl) ⟨tv,⟨(o4 hp x0 hx0 h1),(o5 hp x0 hx0 h1)⟩,tv,tv,tv,tv,tv⟩ ?_
  refine swp_seq ?_
  refine swp_region T0_ok mixed (cs:=[(4,CallSpec.eq (c117 w r x0) [true,true,false])]) (kt:=[1,2,8,9,10,3,5,6]) (kh:=[0,5000,10080,10144]) (q:=True/\True/\True/\True/\((AV.agg (cWay w)=AV.agg (cWay w)/\iv (x0:Int)=iv (x0:Int)/\iv r.plates=iv (↑(r.plates.toNat):Int)/\True)/\Triple Try.prog 108 (c117 w r x0)/\(wb w/\x0 < 3/\1<=r.plates.toNat/\r.plates.toNat<=3)/\True /\ ∀ (i2:Env),True)/\True/\True/\True) (st':=ASt.mk [(1,.rp (cRun r)),(2,.ptr 0 []),(8,.sl 2 r.machines.length fun (i:Nat)=>cMach (mach r i)),(9,iv (↑(r.machines.length):Int)),(10,iv (x0:Int)),(3,.ptr 5000 []),(5,.ptr 10080 []),(6,.ptr 10144 [])] [(0,.cells 107 (cWay w)),(5000,.cells 37 (cSpan (sumTo r (fun (m:Nat)=>spread (w.whn m) r.plates.toNat) x0))),(10080,.cells 42 (cMach (mach r x0))),(10144,.cells 37 (cSpan (spread (w.whn x0) r.plates.toNat)))] 10160) (by kernel_rfl) ⟨tv,tv,tv,tv,⟨⟨rfl,rfl,(congrArg iv (o6 hp x0 hx0 h1)),tv⟩,(t108 _ _ _),⟨(o7 hp x0 hx0 h1),(o8 hp x0 hx0 h1),(o9 hp x0 hx0 h1),(o10 hp x0 hx0 h1)⟩,tv,(fun i2=>tv)⟩,tv,tv,tv⟩ ?_
  refine swp_seq ?_
  refine sR (kt:=[1,2,8,9,10,3,5,6]) (kh:=[0,5000,10080,10144]) (q:=True/\True/\True/\True/\True/\True/\inI ((mach r x0).rate * (spread (w.whn x0) r.plates.toNat).lo)/\inI ((sumTo r (fun (m:Nat)=>spread (w.whn m) r.plates.toNat) x0).lo + (mach r x0).rate * (spread (w.whn x0) r.plates.toNat).lo)/\True/\True/\True) (st':=ASt.mk [(1,.rp (cRun r)),(2,.ptr 0 []),(8,.sl 2 r.machines.length fun (i:Nat)=>cMach (mach r i)),(9,iv (↑(r.machines.length):Int)),(10,iv (x0:Int)),(3,.ptr 5000 []),(5,.ptr 10080 []),(6,.ptr 10144 [])] [(0,.cells 107 (cWay w)),(5000,.cells 37 [iv ((sumTo r (fun (m:Nat)=>spread (w.whn m) r.plates.toNat) x0).lo + (mach r x0).rate * (spread (w.whn x0) r.plates.toNat).lo),iv (sumTo r (fun (m:Nat)=>spread (w.whn m) r.plates.toNat) x0).hi]),(10080,.cells 42 (cMach (mach r x0))),(10144,.cells 37 (cSpan (spread (w.whn x0) r.plates.toNat)))] 10240) (by kernel_rfl) ⟨tv,tv,tv,tv,tv,tv,(o11 hp x0 hx0 h1),(o12 hp x0 hx0 h1),tv,tv,tv⟩ ?_
  refine sR (kt:=[1,2,8,9,10,3]) (kh:=[0,5000]) (q:=True/\True/\True/\True/\True/\True/\inI ((mach r x0).rate * (spread (w.whn x0) r.plates.toNat).hi)/\inI ((sumTo r (fun (m:Nat)=>spread (w.whn m) r.plates.toNat) x0).hi + (mach r x0).rate * (spread (w.whn x0) r.plates.toNat).hi)/\True/\True/\True) (st':=ASt.mk [(1,.rp (cRun r)),(2,.ptr 0 []),(8,.sl 2 r.machines.length fun (i:Nat)=>cMach (mach r i)),(9,iv (↑(r.machines.length):Int)),(10,iv (x0:Int)),(3,.ptr 5000 [])] [(0,.cells 107 (cWay w)),(5000,.cells 37 [iv ((sumTo r (fun (m:Nat)=>spread (w.whn m) r.plates.toNat) x0).lo + (mach r x0).rate * (spread (w.whn x0) r.plates.toNat).lo),iv ((sumTo r (fun (m:Nat)=>spread (w.whn m) r.plates.toNat) x0).hi + (mach r x0).rate * (spread (w.whn x0) r.plates.toNat).hi)])] 10320) (by kernel_rfl) ⟨tv,tv,tv,tv,tv,tv,(o13 hp x0 hx0 h1),(o14 hp x0 hx0 h1),tv,tv,tv⟩ ?_
  refine sR (kt:=[1,2,8,9,10,3]) (kh:=[0,5000]) (q:=inI ((x0:Int) + 1)/\True/\True) (st':=ASt.mk [(1,.rp (cRun r)),(2,.ptr 0 []),(8,.sl 2 r.machines.length fun (i:Nat)=>cMach (mach r i)),(9,iv (↑(r.machines.length):Int)),(10,iv ((x0:Int) + 1)),(3,.ptr 5000 [])] [(0,.cells 107 (cWay w)),(5000,.cells 37 [iv ((sumTo r (fun (m:Nat)=>spread (w.whn m) r.plates.toNat) x0).lo + (mach r x0).rate * (spread (w.whn x0) r.plates.toNat).lo),iv ((sumTo r (fun (m:Nat)=>spread (w.whn m) r.plates.toNat) x0).hi + (mach r x0).rate * (spread (w.whn x0) r.plates.toNat).hi)])] 10336) (by kernel_rfl) ⟨(o15 hp x0 hx0 h1),tv,tv⟩ ?_
  exact loop_next (Hint.ann (h117 w r) [(1,AV.rp (cRun r)),(2,AV.ptr 0 []),(8,AV.sl 2 r.machines.length fun (i:Nat)=>cMach (mach r i)),(9,iv (↑(r.machines.length):Int))] [(0,OB.cells 107 (cWay w))] 10048) x0 (ent_q hE [] [(0,.same 0),(5000,.same 5000)] [1,8,9] [0] (((AV.rp (cRun r)=AV.rp (cRun r)/\true=true)/\(some (Src.same 0)=some (Src.same 0)/\nilP = [])/\(((AV.sl 2 r.machines.length fun (i:Nat)=>cMach (mach r i))=AV.sl 2 r.machines.length fun (i:Nat)=>cMach (mach r i))/\true=true)/\(iv (↑(r.machines.length):Int)=iv (↑(r.machines.length):Int)/\true=true)/\(iv ((x0:Int) + 1)=iv (↑(x0 + 1):Int)/\nilN = [])/\(some (Src.same 5000)=some (Src.same 5000)/\nilP = [])/\True)/\((OB.cells 107 (cWay w)=OB.cells 107 (cWay w)/\true=true)/\(37=37/\((iv ((sumTo r (fun (m:Nat)=>spread (w.whn m) r.plates.toNat) x0).lo + (mach r x0).rate * (spread (w.whn x0) r.plates.toNat).lo)=iv (sumTo r (fun (m:Nat)=>spread (w.whn m) r.plates.toNat) (x0 + 1)).lo/\nilN = [])/\(iv ((sumTo r (fun (m:Nat)=>spread (w.whn m) r.plates.toNat) x0).hi + (mach r x0).rate * (spread (w.whn x0) r.plates.toNat).hi)=iv (sumTo r (fun (m:Nat)=>spread (w.whn m) r.plates.toNat) (x0 + 1)).hi/\nilN = [])/\True)/\true=true)/\True)/\T2) (by kernel_rfl) (by kernel_rfl) ⟨⟨⟨rfl,rfl⟩,⟨rfl,rfl⟩,⟨rfl,rfl⟩,⟨rfl,rfl⟩,⟨(congrArg iv (o16 hp x0 hx0 h1)),rfl⟩,⟨rfl,rfl⟩,tv⟩,⟨⟨rfl,rfl⟩,⟨rfl,⟨⟨(congrArg iv (o17 hp x0 hx0 h1)),rfl⟩,⟨(congrArg iv (o18 hp x0 hx0 h1)),rfl⟩,tv⟩,rfl⟩,tv⟩,rfl,rfl⟩) (o19 hp x0 hx0 h1) (o20 hp x0 hx0 h1)
 ·refine swp_exit (swp_seq ?_)
  refine sR (kt:=[3]) (kh:=[5000]) (q:=True/\True/\True) (st':=ASt.mk [(3,.ptr 5000 [])] [(5000,.cells 37 (cSpan (sumTo r (fun (m:Nat)=>spread (w.whn m) r.plates.toNat) x0)))] 10072) (by kernel_rfl) ⟨tv,tv,tv⟩ ?_
  refine swp_ret ?_
  exact ret_q [] ((True/\True)/\((iv (sumTo r (fun (m:Nat)=>spread (w.whn m) r.plates.toNat) x0).lo=iv (mixF r w).lo/\nilN = [])/\(iv (sumTo r (fun (m:Nat)=>spread (w.whn m) r.plates.toNat) x0).hi=iv (mixF r w).hi/\nilN = [])/\True)/\T3) (by kernel_rfl) ⟨⟨tv,tv⟩,⟨⟨(congrArg iv (o21 hp x0 hx0 h1)),rfl⟩,⟨(congrArg iv (o22 hp x0 hx0 h1)),rfl⟩,tv⟩,rfl,rfl,rfl⟩
theorem t117 (w:WayS) (r:Run):Triple Try.prog 117 (s117 w r):=by
 apply w117
 all_goals (try (first | (((repeat intro _) <;> (try simp only [v0,v1,v2,v3,v4,v5,v6,v7,v8,v9,inI,fits,Go.Sh.small] at *) <;> first | (exact rfl) | omega | exact vz | (simp_all; done) | (simp_all; omega))) | (intro hp _ _ _; exact hp.2.1) | ((repeat intro _); rw [sumTo_succ]; done) | (intro hp x hx hl; rw [show x=r.machines.length by simp only [decide_eq_false_iff_not] at hl; omega] <;> rfl) | (
  intro hp x hx hl
  simp only [decide_eq_true_eq] at hl
  have h1:=spread_b (g:=w.whn x) (fun q=>hp.2.1 x q) r.plates.toNat
  have h2:=sumTo_b hp.1 (f:=fun m=>spread (w.whn m) r.plates.toNat) (fun m=>spread_b (fun q=>hp.2.1 m q) _) x (by omega)
  have h3:=hp.1.2 x (by omega)
  have h4:=rate_mul h3 ⟨h1.1,h1.2.1⟩
  have h5:=rate_mul h3 ⟨h1.2.2.1,h1.2.2.2⟩
  have h6:=hp.1.1
  try simp only [inI]
  omega)))
abbrev q84_1 (r:Run) (l:List WayS) (C:Prop):Prop:=fits r/\rb r/\(∀ (w:WayS),w ∈ l->wb w)/\1<=r.plates/\r.plates<=3/\0 < l.length/\l.length<=65536->C
theorem w84 (r:Run) (l:List WayS)
 (o0:q84_1 r l (0 < l.length))
 (o1:q84_1 r l (l.length<=65536))
 (o2:∀ (E0:Env),fits r/\rb r/\(∀ (w:WayS),w ∈ l->wb w)/\1<=r.plates/\r.plates<=3/\0 < l.length/\l.length<=65536 -> ∀ (i0:Env) (i1:List Value),Env.le E0 i0->i1.length=List.length [aWays l,AV.fn 0]->(∀ (k:Nat),Rel i0 true (List.getD [aWays l,AV.clo 117 [AV.rp (cRun r)]] k AV.any) (i1.getD k undef))->fnokOf Try.prog 0 (fun (w:{ w:WayS // w ∈ l })=>[AV.agg (cWay (Subtype.val w))]) (fun (w:{ w:WayS // w ∈ l })=>vSpan (mixF r (Subtype.val w))) (Env.mk i0.1 i0.2 i0.3 fun (k:Nat) (u:Value) => ∃ (i:Nat),[aWays l,AV.fn 0][i]? = some (AV.fn k)/\i1[i]? = some u)) :
  Triple Try.prog 84 (s84 r l):=by
 refine triple_of Try.func84 rfl Try.call84 T0_ok _ rfl rfl rfl rfl (Nat.le_of_ble_eq_true (by kernel_rfl)) (fun _ _ _ _ h=>h) ?_
 intro hp C hC _ hE
 obtain ⟨P,w0,E0,av,hA⟩:=C
 subst hC
 refine swp_seq ?_
 refine sR (kt:=[1,2,4]) (kh:=[0,8]) (q:=True/\True/\True) (st':=ASt.mk [(1,aWays l),(2,.ptr 0 []),(4,.ptr 8 [])] [(0,.cells 25 (cRun r)),(8,.cells 37 [iv 0,iv 0])] 16) (by kernel_rfl) ⟨tv,tv,tv⟩ ?_
 refine swp_seq ?_
 refine swp_ent (ent_fz 0 25 (cRun r) (ASt.mk [(1,aWays l),(2,AV.rp (cRun r)),(4,AV.ptr 8 [])] [(8,OB.cells 37 [iv 0,iv 0])] 16) (by kernel_rfl) (by kernel_rfl) (by kernel_rfl)) ?_
 refine swp_region T0_ok mixed (cs:=[(2,CallSpec.eq (c84 r l) [true,false])]) (kt:=[4]) (kh:=[8]) (q:=True/\True/\((aWays l=aWays l/\True/\True)/\Triple Try.prog 81 (c84 r l)/\(0 < l.length/\l.length<=65536)/\True /\ ∀ (i0:Env) (i1:List Value),Env.le E0 i0->i1.length=List.length [aWays l,AV.fn 0]->(∀ (k:Nat),Rel i0 true (List.getD [aWays l,AV.clo 117 [AV.rp (cRun r)]] k AV.any) (i1.getD k undef))->fnokOf Try.prog 0 (fun (w:{ w:WayS // w ∈ l })=>[AV.agg (cWay (Subtype.val w))]) (fun (w:{ w:WayS // w ∈ l })=>vSpan (mixF r (Subtype.val w))) (Env.mk i0.1 i0.2 i0.3 fun (k:Nat) (u:Value) => ∃ (i:Nat),[aWays l,AV.fn 0][i]? = some (AV.fn k)/\i1[i]? = some u))/\True/\True) (st':=ASt.mk [(4,.ptr 8 [])] [(8,.cells 37 (cSpan (hullOf l (mixF r))))] 48) (by kernel_rfl) ⟨tv,tv,⟨⟨rfl,tv,tv⟩,(t81 _ _),⟨(o0 hp),(o1 hp)⟩,tv,(fun i0=>(fun i1=>(fun h2=>(fun h3=>(fun h4=>(o2 E0 hp i0 i1 h2 h3 h4))))))⟩,tv,tv⟩ ?_
 refine swp_ret ?_
 exact ret_q [] ((True/\True)/\((iv (hullOf l (mixF r)).lo=iv (hullOf l (mixF r)).lo/\nilN = [])/\(iv (hullOf l (mixF r)).hi=iv (hullOf l (mixF r)).hi/\nilN = [])/\True)/\T3) (by kernel_rfl) ⟨⟨tv,tv⟩,⟨⟨rfl,rfl⟩,⟨rfl,rfl⟩,tv⟩,rfl,rfl,rfl⟩
theorem t84 (r:Run) (l:List WayS):Triple Try.prog 84 (s84 r l):=by
 apply w84
 case o2 =>
  intro E0 hp E us le hlen hr
  refine fnok_arg (vals:=[aWays l,.clo 117 [.rp (cRun r)]]) 1 (fun j' h => ?_) (fun E u hu w=>fnok_clo (caps:=[.rp (cRun r)]) (s117 w.1 r) (t117 w.1 _) rfl ⟨hp.2.1,hp.2.2.1 _ w.2,hp.2.2.2.1,hp.2.2.2.2.1⟩ (fun _=>trivial) rfl rfl rfl rfl rfl hu) E us le hlen hr
  match j',h with
  | 0,h=>cases h
  | 1,_=>rfl
  | n + 2,h=>simp at h
 all_goals ((repeat intro _) <;> (try simp only [v0,v1,v2,v3,v4,v5,v6,v7,v8,v9,inI,fits,Go.Sh.small] at *) <;> first | (exact rfl) | omega | exact vz | (simp_all; done) | (simp_all; omega))
abbrev q27_1 (r:Run) (C:Prop):Prop:=fits r->(!decide (openE r true=0))=false->C
theorem w27 (r:Run)
 (o0:fits r->(!decide (openE r true=0))->0=(mixesS r).lo)
 (o1:fits r->(!decide (openE r true=0))->0=(mixesS r).hi)
 (o2:q27_1 r (rb r))
 (o3:q27_1 r (∀ (i2:WayS),i2 ∈ openL r true->wb i2))
 (o4:q27_1 r (1<=r.plates))
 (o5:q27_1 r (r.plates<=3))
 (o6:q27_1 r (0 < (openL r true).length))
 (o7:q27_1 r ((openL r true).length<=65536))
 (o8:q27_1 r ((hullOf (openL r true) (mixF r)).lo=(mixesS r).lo))
 (o9:q27_1 r ((hullOf (openL r true) (mixF r)).hi=(mixesS r).hi))
 (o10:q27_1 r (0=openE r true)) :
  Triple Try.prog 27 (s27 r):=by
 refine triple_of Try.func27 rfl Try.call27 T0_ok _ rfl rfl rfl rfl (Nat.le_of_ble_eq_true (by kernel_rfl)) (fun _ _ _ _ h=>h) ?_
 intro hp C hC _ hE
 obtain ⟨P,w0,E0,av,hA⟩:=C
 subst hC
 refine swp_seq ?_
 refine sR (kt:=[1,2]) (kh:=[0,8]) (q:=True/\True/\True/\True) (st':=ASt.mk [(1,.ptr 0 []),(2,.ptr 8 [])] [(0,.cells 25 (cRun r)),(8,.cells 37 [iv 0,iv 0])] 24) (by kernel_rfl) ⟨tv,tv,tv,tv⟩ ?_
 refine swp_seq ?_
 refine swp_region T0_ok mixed (cs:=[(1,CallSpec.eq (s78 r true) [true,true])]) (kt:=[1,2,4,5]) (kh:=[0,8]) (q:=True/\((AV.agg (cRun r)=AV.agg (cRun r)/\bv true=bv true/\True)/\Triple Try.prog 78 (s78 r true)/\fits r/\True /\ ∀ (i0:Env),True)/\True/\True/\True/\True/\True/\True) (st':=ASt.mk [(1,.ptr 0 []),(2,.ptr 8 []),(4,aWays (openL r true)),(5,iv (openE r true))] [(0,.cells 25 (cRun r)),(8,.cells 37 [iv 0,iv 0])] 80) (by kernel_rfl) ⟨tv,⟨⟨rfl,rfl,tv⟩,(t78 (r) (true)),hp,tv,(fun i0=>tv)⟩,tv,tv,tv,tv,tv,tv⟩ ?_
 refine swp_seq (swp_seq ?_)
 refine sR (kt:=[1,2,4,5,12]) (kh:=[0,8]) (q:=True/\True/\True) (st':=ASt.mk [(1,.ptr 0 []),(2,.ptr 8 []),(4,aWays (openL r true)),(5,iv (openE r true)),(12,bv !decide (openE r true=0))] [(0,.cells 25 (cRun r)),(8,.cells 37 [iv 0,iv 0])] 96) (by kernel_rfl) ⟨tv,tv,tv⟩ ?_
 refine swp_cond (!decide (openE r true=0)) (by kernel_rfl) (fun h1 => ?_) (fun h1 => ?_)
 ·refine swp_seq ?_
  refine sR (kt:=[2,3]) (kh:=[8]) (q:=True/\True/\True/\True/\True) (st':=ASt.mk [(2,.ptr 8 []),(3,iv (openE r true))] [(8,.cells 37 [iv 0,iv 0])] 128) (by kernel_rfl) ⟨tv,tv,tv,tv,tv⟩ ?_
  refine swp_ret ?_
  exact ret_q [] ((True/\True/\True)/\(((iv 0=iv (mixesS r).lo/\nilN = [])/\(iv 0=iv (mixesS r).hi/\nilN = [])/\True)/\(iv (openE r true)=iv (openE r true)/\nilN = [])/\True)/\T3) (by kernel_rfl) ⟨⟨tv,tv,tv⟩,⟨⟨⟨(congrArg iv (o0 hp h1)),rfl⟩,⟨(congrArg iv (o1 hp h1)),rfl⟩,tv⟩,⟨rfl,rfl⟩,tv⟩,rfl,rfl,rfl⟩
 ·refine swp_skip (swp_seq ?_)
  refine swp_region T0_ok mixed (cs:=[(2,CallSpec.eq (c27 r) [true,true])]) (kt:=[2,3]) (kh:=[8]) (q:=True/\True/\((AV.agg (cRun r)=AV.agg (cRun r)/\aWays (openL r true)=aWays (openL r true)/\True)/\Triple Try.prog 84 (c27 r)/\(fits r/\rb r/\(∀ (i2:WayS),i2 ∈ openL r true->wb i2)/\1<=r.plates/\r.plates<=3/\0 < (openL r true).length/\(openL r true).length<=65536)/\True /\ ∀ (i4:Env),True)/\True/\True/\True) (st':=ASt.mk [(2,.ptr 8 []),(3,iv 0)] [(8,.cells 37 (cSpan (hullOf (openL r true) (mixF r))))] 136) (by kernel_rfl) ⟨tv,tv,⟨⟨rfl,rfl,tv⟩,(t84 _ _),⟨hp,(o2 hp h1),(fun i2=>(fun h3=>(o3 hp h1 i2 h3))),(o4 hp h1),(o5 hp h1),(o6 hp h1),(o7 hp h1)⟩,tv,(fun i4=>tv)⟩,tv,tv,tv⟩ ?_
  refine swp_ret ?_
  exact ret_q [] ((True/\True/\True)/\(((iv (hullOf (openL r true) (mixF r)).lo=iv (mixesS r).lo/\nilN = [])/\(iv (hullOf (openL r true) (mixF r)).hi=iv (mixesS r).hi/\nilN = [])/\True)/\(iv 0=iv (openE r true)/\nilN = [])/\True)/\T3) (by kernel_rfl) ⟨⟨tv,tv,tv⟩,⟨⟨⟨(congrArg iv (o8 hp h1)),rfl⟩,⟨(congrArg iv (o9 hp h1)),rfl⟩,tv⟩,⟨(congrArg iv (o10 hp h1)),rfl⟩,tv⟩,rfl,rfl,rfl⟩
theorem t27 (r:Run):Triple Try.prog 27 (s27 r):=by
 apply w27
 case o0 | o1=>intro _ h; rw [mixesS,if_neg (openBad h)]
 case o8 | o9=>intro _ h; rw [mixesS,if_pos (openF h).zero,(openF h).eq]
 all_goals (intro _ h; have F:=openF h; have h1:=F.ok.plates; have h2:=F.pos; have h3:=F.len; first | omega | exact rb_of F.ok | exact F.wb | exact F.zero.symm)
abbrev q26_1 (r:Run) (p:Int) (C:Prop):Prop:=fits r->(!decide (openE r (isPlate r p)=0))=false->C
theorem w26 (r:Run) (p:Int)
 (o0:fits r->(!decide (openE r (isPlate r p)=0))->0=(oldS r p).lo)
 (o1:fits r->(!decide (openE r (isPlate r p)=0))->0=(oldS r p).hi)
 (o2:q26_1 r p (0 < (openL r (isPlate r p)).length))
 (o3:q26_1 r p ((openL r (isPlate r p)).length<=65536))
 (o4:∀ (E0:Env),fits r->(!decide (openE r (isPlate r p)=0))=false -> ∀ (i3:Env) (i4:List Value),Env.le E0 i3->i4.length=List.length [aWays (openL r (isPlate r p)),AV.fn 0]->(∀ (k:Nat),Rel i3 true (List.getD [aWays (openL r (isPlate r p)),AV.clo 83 [AV.rp (cRun r),AV.rp [iv p]]] k AV.any) (i4.getD k undef))->fnokOf Try.prog 0 (fun (w:{ w:WayS // w ∈ openL r (isPlate r p) })=>[AV.agg (cWay (Subtype.val w))]) (fun (w:{ w:WayS // w ∈ openL r (isPlate r p) })=>vSpan (oldF r p.toNat (Subtype.val w))) (Env.mk i3.1 i3.2 i3.3 fun (k:Nat) (u:Value) => ∃ (i:Nat),[aWays (openL r (isPlate r p)),AV.fn 0][i]? = some (AV.fn k)/\i4[i]? = some u))
 (o5:q26_1 r p ((hullOf (openL r (isPlate r p)) (oldF r p.toNat)).lo=(oldS r p).lo))
 (o6:q26_1 r p ((hullOf (openL r (isPlate r p)) (oldF r p.toNat)).hi=(oldS r p).hi))
 (o7:q26_1 r p (0=openE r (isPlate r p))) :
  Triple Try.prog 26 (s26 r p):=by
 refine triple_of Try.func26 rfl Try.call26 T0_ok _ rfl rfl rfl rfl (Nat.le_of_ble_eq_true (by kernel_rfl)) (fun _ _ _ _ h=>h) ?_
 intro hp C hC _ hE
 obtain ⟨P,w0,E0,av,hA⟩:=C
 subst hC
 refine swp_seq ?_
 refine sR (kt:=[2,3,4]) (kh:=[0,8,16]) (q:=True/\True/\True/\True/\True) (st':=ASt.mk [(2,.ptr 0 []),(3,.ptr 8 []),(4,.ptr 16 [])] [(0,.cells 25 (cRun r)),(8,.cells 3 [iv p]),(16,.cells 37 [iv 0,iv 0])] 32) (by kernel_rfl) ⟨tv,tv,tv,tv,tv⟩ ?_
 refine swp_seq ?_
 refine swp_region T0_ok mixed (cs:=[(3,CallSpec.eq (s80 r p) [true,true]),(4,CallSpec.eq (c26o r p) [true,true])]) (kt:=[2,3,4,6,7]) (kh:=[0,8,16]) (q:=True/\True/\True/\((AV.agg (cRun r)=AV.agg (cRun r)/\iv p=iv p/\True)/\Triple Try.prog 80 (s80 r p)/\fits r/\True /\ ∀ (i0:Env),True)/\((AV.agg (cRun r)=AV.agg (cRun r)/\bv (isPlate r p)=bv (isPlate r p)/\True)/\Triple Try.prog 78 (c26o r p)/\fits r/\True /\ ∀ (i1:Env),True)/\True/\True/\True/\True/\True/\True) (st':=ASt.mk [(2,.ptr 0 []),(3,.ptr 8 []),(4,.ptr 16 []),(6,aWays (openL r (isPlate r p))),(7,iv (openE r (isPlate r p)))] [(0,.cells 25 (cRun r)),(8,.cells 3 [iv p]),(16,.cells 37 [iv 0,iv 0])] 112) (by kernel_rfl) ⟨tv,tv,tv,⟨⟨rfl,rfl,tv⟩,(t80 (r) (p)),hp,tv,(fun i0=>tv)⟩,⟨⟨rfl,rfl,tv⟩,(t78 _ _),hp,tv,(fun i1=>tv)⟩,tv,tv,tv,tv,tv,tv⟩ ?_
 refine swp_seq (swp_seq ?_)
 refine sR (kt:=[2,3,4,6,7,17]) (kh:=[0,8,16]) (q:=True/\True/\True) (st':=ASt.mk [(2,.ptr 0 []),(3,.ptr 8 []),(4,.ptr 16 []),(6,aWays (openL r (isPlate r p))),(7,iv (openE r (isPlate r p))),(17,bv !decide (openE r (isPlate r p)=0))] [(0,.cells 25 (cRun r)),(8,.cells 3 [iv p]),(16,.cells 37 [iv 0,iv 0])] 128) (by kernel_rfl) ⟨tv,tv,tv⟩ ?_
 refine swp_cond (!decide (openE r (isPlate r p)=0)) (by kernel_rfl) (fun h2 => ?_) (fun h2 => ?_)
 ·refine swp_seq ?_
  refine sR (kt:=[4,5]) (kh:=[16]) (q:=True/\True/\True/\True/\True) (st':=ASt.mk [(4,.ptr 16 []),(5,iv (openE r (isPlate r p)))] [(16,.cells 37 [iv 0,iv 0])] 160) (by kernel_rfl) ⟨tv,tv,tv,tv,tv⟩ ?_
  refine swp_ret ?_
  exact ret_q [] ((True/\True/\True)/\(((iv 0=iv (oldS r p).lo/\nilN = [])/\(iv 0=iv (oldS r p).hi/\nilN = [])/\True)/\(iv (openE r (isPlate r p))=iv (openE r (isPlate r p))/\nilN = [])/\True)/\T3) (by kernel_rfl) ⟨⟨tv,tv,tv⟩,⟨⟨⟨(congrArg iv (o0 hp h2)),rfl⟩,⟨(congrArg iv (o1 hp h2)),rfl⟩,tv⟩,⟨rfl,rfl⟩,tv⟩,rfl,rfl,rfl⟩
 ·refine swp_skip (swp_seq ?_)
  refine swp_ent (ent_fz 0 25 (cRun r) (ASt.mk [(2,AV.rp (cRun r)),(3,AV.ptr 8 []),(4,AV.ptr 16 []),(6,aWays (openL r (isPlate r p))),(7,iv (openE r (isPlate r p))),(17,bv !decide (openE r (isPlate r p)=0))] [(8,OB.cells 3 [iv p]),(16,OB.cells 37 [iv 0,iv 0])] 128) (by kernel_rfl) (by kernel_rfl) (by kernel_rfl)) ?_
  refine swp_ent (ent_fz 8 3 ([iv p]) (ASt.mk [(2,AV.rp (cRun r)),(3,AV.rp [iv p]),(4,AV.ptr 16 []),(6,aWays (openL r (isPlate r p))),(7,iv (openE r (isPlate r p))),(17,bv !decide (openE r (isPlate r p)=0))] [(16,OB.cells 37 [iv 0,iv 0])] 128) (by kernel_rfl) (by kernel_rfl) (by kernel_rfl)) ?_
  refine swp_region T0_ok mixed (cs:=[(2,CallSpec.eq (c26 r p) [true,false])]) (kt:=[4,5]) (kh:=[16]) (q:=True/\True/\((aWays (openL r (isPlate r p))=aWays (openL r (isPlate r p))/\True/\True)/\Triple Try.prog 81 (c26 r p)/\(0 < (openL r (isPlate r p)).length/\(openL r (isPlate r p)).length<=65536)/\True /\ ∀ (i3:Env) (i4:List Value),Env.le E0 i3->i4.length=List.length [aWays (openL r (isPlate r p)),AV.fn 0]->(∀ (k:Nat),Rel i3 true (List.getD [aWays (openL r (isPlate r p)),AV.clo 83 [AV.rp (cRun r),AV.rp [iv p]]] k AV.any) (i4.getD k undef))->fnokOf Try.prog 0 (fun (w:{ w:WayS // w ∈ openL r (isPlate r p) })=>[AV.agg (cWay (Subtype.val w))]) (fun (w:{ w:WayS // w ∈ openL r (isPlate r p) })=>vSpan (oldF r p.toNat (Subtype.val w))) (Env.mk i3.1 i3.2 i3.3 fun (k:Nat) (u:Value) => ∃ (i:Nat),[aWays (openL r (isPlate r p)),AV.fn 0][i]? = some (AV.fn k)/\i4[i]? = some u))/\True/\True/\True) (st':=ASt.mk [(4,.ptr 16 []),(5,iv 0)] [(16,.cells 37 (cSpan (hullOf (openL r (isPlate r p)) (oldF r p.toNat))))] 168) (by kernel_rfl) ⟨tv,tv,⟨⟨rfl,tv,tv⟩,(t81 _ _),⟨(o2 hp h2),(o3 hp h2)⟩,tv,(fun i3=>(fun i4=>(fun h5=>(fun h6=>(fun h7=>(o4 E0 hp h2 i3 i4 h5 h6 h7))))))⟩,tv,tv,tv⟩ ?_
  refine swp_ret ?_
  exact ret_q [] ((True/\True/\True)/\(((iv (hullOf (openL r (isPlate r p)) (oldF r p.toNat)).lo=iv (oldS r p).lo/\nilN = [])/\(iv (hullOf (openL r (isPlate r p)) (oldF r p.toNat)).hi=iv (oldS r p).hi/\nilN = [])/\True)/\(iv 0=iv (openE r (isPlate r p))/\nilN = [])/\True)/\T3) (by kernel_rfl) ⟨⟨tv,tv,tv⟩,⟨⟨⟨(congrArg iv (o5 hp h2)),rfl⟩,⟨(congrArg iv (o6 hp h2)),rfl⟩,tv⟩,⟨(congrArg iv (o7 hp h2)),rfl⟩,tv⟩,rfl,rfl,rfl⟩
theorem t26 (r:Run) (p:Int):Triple Try.prog 26 (s26 r p):=by
 apply w26
 case o0 | o1=>intro _ h; rw [oldS,if_neg (openBad h)]
 case o4 =>
  intro E0 _ h E us le hlen hr
  have F:=openF h
  have hw:=plateIs_ok F.ok F.isT
  refine fnok_arg (vals:=[aWays (openL r (isPlate r p)),.clo 83 [.rp (cRun r),.rp [iv p]]]) 1 (fun j' h => ?_) (fun E u hu w=>fnok_clo (caps:=[.rp (cRun r),.rp [iv p]]) (s83 w.1 r p.toNat) (t83 w.1 _ _) ?_ ⟨rb_of F.ok,F.wb _ w.2,by omega⟩ (fun _=>trivial) rfl rfl rfl rfl rfl hu) E us le hlen hr
  ·match j',h with
   | 0,h=>cases h
   | 1,_=>rfl
   | n + 2,h=>simp at h
  ·show [AV.agg (cWay w),AV.rp (cRun r),AV.rp [iv (p.toNat:Int)]]=_
   rw [Int.toNat_of_nonneg hw.1]; rfl
 case o5 | o6=>intro _ h; rw [oldS,if_pos (openF h).zero,(openF h).eq]
 all_goals (intro _ h; have F:=openF h; have h2:=F.pos; have h3:=F.len; first | omega | exact F.zero.symm)
abbrev q31_1 (r:Run) (f:Int) (p:Int) (C:Prop):Prop:=fits r->(!decide (openE r (readIs r f p)=0))=false->C
abbrev q31_2 (r:Run) (f:Int) (p:Int) (C:Nat->Prop):Prop:=q31_1 r f p (∀ (x11:Nat),x11<=(openL r (readIs r f p)).length->decide ((x11:Int) < (↑((openL r (readIs r f p)).length):Int))=true->C x11)
abbrev q31_3 (r:Run) (f:Int) (p:Int) (C:Nat->Prop):Prop:=q31_2 r f p fun x11=>decide ((((openL r (readIs r f p)).getD x11 default).whn (((openL r (readIs r f p)).getD x11 default).frm.getD f.toNat 0).toNat p.toNat).hi<=(fnd r f.toNat).minute)=true->C x11
abbrev q31_4 (r:Run) (f:Int) (p:Int) (C:Nat->Prop):Prop:=q31_2 r f p fun x11=>decide ((((openL r (readIs r f p)).getD x11 default).whn (((openL r (readIs r f p)).getD x11 default).frm.getD f.toNat 0).toNat p.toNat).hi<=(fnd r f.toNat).minute)=false->C x11
abbrev q31_5 (r:Run) (f:Int) (p:Int) (C:Nat->Prop):Prop:=q31_4 r f p fun x11=>decide ((fnd r f.toNat).minute < (((openL r (readIs r f p)).getD x11 default).whn (((openL r (readIs r f p)).getD x11 default).frm.getD f.toNat 0).toNat p.toNat).lo)=true->C x11
abbrev q31_6 (r:Run) (f:Int) (p:Int) (C:Nat->Prop):Prop:=q31_4 r f p fun x11=>decide ((fnd r f.toNat).minute < (((openL r (readIs r f p)).getD x11 default).whn (((openL r (readIs r f p)).getD x11 default).frm.getD f.toNat 0).toNat p.toNat).lo)=false->C x11
abbrev q31_7 (r:Run) (f:Int) (p:Int) (C:Nat->Prop):Prop:=q31_1 r f p (∀ (x11:Nat),x11<=(openL r (readIs r f p)).length->decide ((x11:Int) < (↑((openL r (readIs r f p)).length):Int))=false->C x11)
theorem w31 (r:Run) (f:Int) (p:Int)
 (o0:fits r->(bif isFound r f then isPlate r p else false)=readIs r f p)
 (o1:fits r->(!decide (openE r (readIs r f p)=0))->0=readS r f p)
 (o2:q31_1 r f p (0=(↑(cnt (openL r (readIs r f p)) (rdSo r f.toNat p.toNat) 0):Int)))
 (o3:q31_1 r f p (0=(↑(cnt (openL r (readIs r f p)) (rdNot r f.toNat p.toNat) 0):Int)))
 (o4:q31_1 r f p (0=(↑0:Int)))
 (o5:q31_1 r f p (0<=(openL r (readIs r f p)).length))
 (o6:q31_2 r f p fun x11=>0<=(x11:Int))
 (o7:q31_2 r f p fun x11=>(x11:Int) < (↑((openL r (readIs r f p)).length):Int))
 (o8:q31_2 r f p fun x11=>0<=f)
 (o9:q31_2 r f p fun x11=>f < (↑(((openL r (readIs r f p)).getD x11 default).frm.length):Int))
 (o10:q31_2 r f p fun x11=>0<=((openL r (readIs r f p)).getD x11 default).frm.getD f.toNat 0)
 (o11:q31_2 r f p fun x11=>((openL r (readIs r f p)).getD x11 default).frm.getD f.toNat 0 < (↑3:Int))
 (o12:q31_2 r f p fun x11=>0<=p)
 (o13:q31_2 r f p fun x11=>p < (↑3:Int))
 (o14:q31_2 r f p fun x11=>(((openL r (readIs r f p)).getD x11 default).frm.getD f.toNat 0).toNat < 3)
 (o15:q31_2 r f p fun x11=>p.toNat < 3)
 (o16:q31_2 r f p fun x11=>0<=f)
 (o17:q31_2 r f p fun x11=>f < (↑(r.found.length):Int))
 (o18:q31_3 r f p fun x11=>inI ((↑(cnt (openL r (readIs r f p)) (rdSo r f.toNat p.toNat) x11):Int) + 1))
 (o19:q31_3 r f p fun x11=>inI ((x11:Int) + 1))
 (o20:q31_3 r f p fun x11=>(↑(cnt (openL r (readIs r f p)) (rdSo r f.toNat p.toNat) x11):Int) + 1=(↑(cnt (openL r (readIs r f p)) (rdSo r f.toNat p.toNat) (x11 + 1)):Int))
 (o21:q31_3 r f p fun x11=>(↑(cnt (openL r (readIs r f p)) (rdNot r f.toNat p.toNat) x11):Int)=(↑(cnt (openL r (readIs r f p)) (rdNot r f.toNat p.toNat) (x11 + 1)):Int))
 (o22:q31_3 r f p fun x11=>(x11:Int) + 1=(↑(x11 + 1):Int))
 (o23:q31_3 r f p fun x11=>x11 + 1<=(openL r (readIs r f p)).length)
 (o24:q31_3 r f p fun x11=>(openL r (readIs r f p)).length - (x11 + 1) < (openL r (readIs r f p)).length - x11)
 (o25:q31_5 r f p fun x11=>inI ((↑(cnt (openL r (readIs r f p)) (rdNot r f.toNat p.toNat) x11):Int) + 1))
 (o26:q31_5 r f p fun x11=>inI ((x11:Int) + 1))
 (o27:q31_5 r f p fun x11=>(↑(cnt (openL r (readIs r f p)) (rdSo r f.toNat p.toNat) x11):Int)=(↑(cnt (openL r (readIs r f p)) (rdSo r f.toNat p.toNat) (x11 + 1)):Int))
 (o28:q31_5 r f p fun x11=>(↑(cnt (openL r (readIs r f p)) (rdNot r f.toNat p.toNat) x11):Int) + 1=(↑(cnt (openL r (readIs r f p)) (rdNot r f.toNat p.toNat) (x11 + 1)):Int))
 (o29:q31_5 r f p fun x11=>(x11:Int) + 1=(↑(x11 + 1):Int))
 (o30:q31_5 r f p fun x11=>x11 + 1<=(openL r (readIs r f p)).length)
 (o31:q31_5 r f p fun x11=>(openL r (readIs r f p)).length - (x11 + 1) < (openL r (readIs r f p)).length - x11)
 (o32:q31_6 r f p fun x11=>inI ((x11:Int) + 1))
 (o33:q31_6 r f p fun x11=>(↑(cnt (openL r (readIs r f p)) (rdSo r f.toNat p.toNat) x11):Int)=(↑(cnt (openL r (readIs r f p)) (rdSo r f.toNat p.toNat) (x11 + 1)):Int))
 (o34:q31_6 r f p fun x11=>(↑(cnt (openL r (readIs r f p)) (rdNot r f.toNat p.toNat) x11):Int)=(↑(cnt (openL r (readIs r f p)) (rdNot r f.toNat p.toNat) (x11 + 1)):Int))
 (o35:q31_6 r f p fun x11=>(x11:Int) + 1=(↑(x11 + 1):Int))
 (o36:q31_6 r f p fun x11=>x11 + 1<=(openL r (readIs r f p)).length)
 (o37:q31_6 r f p fun x11=>(openL r (readIs r f p)).length - (x11 + 1) < (openL r (readIs r f p)).length - x11)
 (o38:q31_7 r f p fun x11=>known3 (↑(cnt (openL r (readIs r f p)) (rdSo r f.toNat p.toNat) x11):Int) (↑(cnt (openL r (readIs r f p)) (rdNot r f.toNat p.toNat) x11):Int) (↑((openL r (readIs r f p)).length):Int)=readS r f p)
 (o39:q31_7 r f p fun x11=>0=openE r (readIs r f p)) :
  Triple Try.prog 31 (s31 r f p):=by
 refine triple_of Try.func31 rfl Try.call31 T0_ok _ rfl rfl rfl rfl (Nat.le_of_ble_eq_true (by kernel_rfl)) (fun _ _ _ _ h=>h) ?_
 intro hp C hC _ hE
 obtain ⟨P,w0,E0,av,hA⟩:=C
 subst hC
 refine swp_seq ?_
 refine sR (kt:=[1,2,3]) (kh:=[0]) (q:=True/\True/\True/\True) (st':=ASt.mk [(1,iv f),(2,iv p),(3,.ptr 0 [])] [(0,.cells 25 (cRun r))] 24) (by kernel_rfl) ⟨tv,tv,tv,tv⟩ ?_
 refine swp_seq ?_
 refine swp_region T0_ok mixed (cs:=[(3,CallSpec.eq (s85 r f) [true,true]),(7,CallSpec.eq (s80 r p) [true,true]),(9,CallSpec.eq (c31o r f p) [true,false])]) (kt:=[1,2,3,8,9]) (kh:=[0]) (q:=True/\True/\True/\((AV.agg (cRun r)=AV.agg (cRun r)/\iv f=iv f/\True)/\Triple Try.prog 85 (s85 r f)/\fits r/\True /\ ∀ (i0:Env),True)/\True/\(isFound r f=true->(True/\True)/\True)/\(isFound r f=true->(True/\True)/\True)/\(isFound r f=true->(True/\(isFound r f=true->isFound r f=true)/\(isFound r f=true->isFound r f=true)/\True)/\(AV.agg (cRun r)=AV.agg (cRun r)/\iv p=iv p/\True)/\Triple Try.prog 80 (s80 r p)/\fits r/\True /\ ∀ (i6:Env),True)/\((isFound r f=true->isFound r f=true)/\(isFound r f=false->True))/\((AV.agg (cRun r)=AV.agg (cRun r)/\bv (bif isFound r f then isPlate r p else false)=bv (readIs r f p)/\True)/\Triple Try.prog 78 (c31o r f p)/\fits r/\True /\ ∀ (i9:Env),True)/\True/\True/\True/\True/\True/\True) (st':=ASt.mk [(1,iv f),(2,iv p),(3,.ptr 0 []),(8,aWays (openL r (readIs r f p))),(9,iv (openE r (readIs r f p)))] [(0,.cells 25 (cRun r))] 144) (by kernel_rfl) ⟨tv,tv,tv,⟨⟨rfl,rfl,tv⟩,(t85 (r) (f)),hp,tv,(fun i0=>tv)⟩,tv,(fun h1=>⟨⟨tv,tv⟩,tv⟩),(fun h2=>⟨⟨tv,tv⟩,tv⟩),(fun h3=>⟨⟨tv,(fun h4=>h3),(fun h5=>h3),tv⟩,⟨rfl,rfl,tv⟩,(t80 (r) (p)),hp,tv,(fun i6=>tv)⟩),⟨(fun h7=>h7),(fun h8=>tv)⟩,⟨⟨rfl,(congrArg bv (o0 hp)),tv⟩,(t78 _ _),hp,tv,(fun i9=>tv)⟩,tv,tv,tv,tv,tv,tv⟩ ?_
 refine swp_seq (swp_seq ?_)
 refine sR (kt:=[1,2,3,8,9,30]) (kh:=[0]) (q:=True/\True/\True) (st':=ASt.mk [(1,iv f),(2,iv p),(3,.ptr 0 []),(8,aWays (openL r (readIs r f p))),(9,iv (openE r (readIs r f p))),(30,bv !decide (openE r (readIs r f p)=0))] [(0,.cells 25 (cRun r))] 160) (by kernel_rfl) ⟨tv,tv,tv⟩ ?_
 refine swp_cond (!decide (openE r (readIs r f p)=0)) (by kernel_rfl) (fun h10 => ?_) (fun h10 => ?_)
 ·refine swp_seq ?_
  refine sR (kt:=[6,7]) (kh:=[]) (q:=True/\True/\True/\True) (st':=ASt.mk [(6,iv 0),(7,iv (openE r (readIs r f p)))] [] 184) (by kernel_rfl) ⟨tv,tv,tv,tv⟩ ?_
  refine swp_ret ?_
  exact ret_q [] ((True/\True/\True)/\((iv 0=iv (readS r f p)/\nilN = [])/\(iv (openE r (readIs r f p))=iv (openE r (readIs r f p))/\nilN = [])/\True)/\T3) (by kernel_rfl) ⟨⟨tv,tv,tv⟩,⟨⟨(congrArg iv (o1 hp h10)),rfl⟩,⟨rfl,rfl⟩,tv⟩,rfl,rfl,rfl⟩
 ·refine swp_skip (swp_seq ?_)
  refine sR (kt:=[1,2,3,8,10,11]) (kh:=[0]) (q:=True/\True/\True) (st':=ASt.mk [(1,iv f),(2,iv p),(3,.ptr 0 []),(8,aWays (openL r (readIs r f p))),(10,iv 0),(11,iv 0)] [(0,.cells 25 (cRun r))] 176) (by kernel_rfl) ⟨tv,tv,tv⟩ ?_
  refine swp_seq (swp_seq ?_)
  refine sR (kt:=[1,2,3,8,10,11,32,33,34]) (kh:=[0]) (q:=True/\True/\True/\True) (st':=ASt.mk [(1,iv f),(2,iv p),(3,.ptr 0 []),(8,aWays (openL r (readIs r f p))),(10,iv 0),(11,iv 0),(32,aWays (openL r (readIs r f p))),(33,iv (↑((openL r (readIs r f p)).length):Int)),(34,iv 0)] [(0,.cells 25 (cRun r))] 200) (by kernel_rfl) ⟨tv,tv,tv,tv⟩ ?_
  refine swp_block ?_
  refine swp_loopA (Hint.ann (h31 r f p) [(1,iv f),(2,iv p),(3,AV.ptr 0 []),(8,aWays (openL r (readIs r f p))),(32,aWays (openL r (readIs r f p))),(33,iv (↑((openL r (readIs r f p)).length):Int))] [(0,OB.cells 25 (cRun r))] 10200) (ent_q hE [] [(0,.same 0)] [1,2,8,32,33] [0] (((iv f=iv f/\true=true)/\(iv p=iv p/\true=true)/\(some (Src.same 0)=some (Src.same 0)/\nilP = [])/\(aWays (openL r (readIs r f p))=aWays (openL r (readIs r f p))/\true=true)/\(aWays (openL r (readIs r f p))=aWays (openL r (readIs r f p))/\true=true)/\(iv (↑((openL r (readIs r f p)).length):Int)=iv (↑((openL r (readIs r f p)).length):Int)/\true=true)/\(iv 0=iv (↑(cnt (openL r (readIs r f p)) (rdSo r f.toNat p.toNat) 0):Int)/\nilN = [])/\(iv 0=iv (↑(cnt (openL r (readIs r f p)) (rdNot r f.toNat p.toNat) 0):Int)/\nilN = [])/\(iv 0=iv (↑0:Int)/\nilN = [])/\True)/\((OB.cells 25 (cRun r)=OB.cells 25 (cRun r)/\true=true)/\True)/\T2) (by kernel_rfl) (by kernel_rfl) ⟨⟨⟨rfl,rfl⟩,⟨rfl,rfl⟩,⟨rfl,rfl⟩,⟨rfl,rfl⟩,⟨rfl,rfl⟩,⟨rfl,rfl⟩,⟨(congrArg iv (o2 hp h10)),rfl⟩,⟨(congrArg iv (o3 hp h10)),rfl⟩,⟨(congrArg iv (o4 hp h10)),rfl⟩,tv⟩,⟨⟨rfl,rfl⟩,tv⟩,rfl,rfl⟩) (o5 hp h10) (fun (x11:Nat) hx11 => ?_)
  refine swp_seq ?_
  refine sR (kt:=[1,2,3,8,32,33,10,11,34,35]) (kh:=[0]) (q:=True/\True) (st':=ASt.mk [(1,iv f),(2,iv p),(3,.ptr 0 []),(8,aWays (openL r (readIs r f p))),(32,aWays (openL r (readIs r f p))),(33,iv (↑((openL r (readIs r f p)).length):Int)),(10,iv (↑(cnt (openL r (readIs r f p)) (rdSo r f.toNat p.toNat) x11):Int)),(11,iv (↑(cnt (openL r (readIs r f p)) (rdNot r f.toNat p.toNat) x11):Int)),(34,iv (x11:Int)),(35,bv (decide ((x11:Int) < (↑((openL r (readIs r f p)).length):Int))))] [(0,.cells 25 (cRun r))] 10208) (by kernel_rfl) ⟨tv,tv⟩ ?_
  refine swp_seq ?_
  refine swp_cond (decide ((x11:Int) < (↑((openL r (readIs r f p)).length):Int))) (by kernel_rfl) (fun h12 => ?_) (fun h12 => ?_)
  ·refine swp_skip (swp_seq (swp_block (swp_seq ?_)))
   refine sR (kt:=[1,2,3,8,32,33,10,11,34,13]) (kh:=[0,10224]) (q:=(0<=(x11:Int)/\(x11:Int) < (↑((openL r (readIs r f p)).length):Int))/\True/\True/\True/\True) (st':=ASt.mk [(1,iv f),(2,iv p),(3,.ptr 0 []),(8,aWays (openL r (readIs r f p))),(32,aWays (openL r (readIs r f p))),(33,iv (↑((openL r (readIs r f p)).length):Int)),(10,iv (↑(cnt (openL r (readIs r f p)) (rdSo r f.toNat p.toNat) x11):Int)),(11,iv (↑(cnt (openL r (readIs r f p)) (rdNot r f.toNat p.toNat) x11):Int)),(34,iv (x11:Int)),(13,.ptr 10224 [])] [(0,.cells 25 (cRun r)),(10224,.cells 107 (cWay ((openL r (readIs r f p)).getD x11 default)))] 10240) (by kernel_rfl) ⟨⟨(o6 hp h10 x11 hx11 h12),(o7 hp h10 x11 hx11 h12)⟩,tv,tv,tv,tv⟩ ?_
   refine swp_seq ?_
   refine sR (kt:=[1,2,3,8,32,33,10,11,34,14,15]) (kh:=[0,10368]) (q:=True/\True/\True/\(0<=f/\f < (↑(((openL r (readIs r f p)).getD x11 default).frm.length):Int))/\True/\True/\True/\(0<=((openL r (readIs r f p)).getD x11 default).frm.getD f.toNat 0/\((openL r (readIs r f p)).getD x11 default).frm.getD f.toNat 0 < (↑3:Int))/\(0<=p/\p < (↑3:Int))/\((((openL r (readIs r f p)).getD x11 default).frm.getD f.toNat 0).toNat < 3/\p.toNat < 3/\True)/\True/\True/\True/\(0<=f/\f < (↑(r.found.length):Int))/\True/\True/\True/\True/\True/\True) (st':=ASt.mk [(1,iv f),(2,iv p),(3,.ptr 0 []),(8,aWays (openL r (readIs r f p))),(32,aWays (openL r (readIs r f p))),(33,iv (↑((openL r (readIs r f p)).length):Int)),(10,iv (↑(cnt (openL r (readIs r f p)) (rdSo r f.toNat p.toNat) x11):Int)),(11,iv (↑(cnt (openL r (readIs r f p)) (rdNot r f.toNat p.toNat) x11):Int)),(34,iv (x11:Int)),(14,.ptr 10368 []),(15,iv (fnd r f.toNat).minute)] [(0,.cells 25 (cRun r)),(10368,.cells 37 (cSpan (((openL r (readIs r f p)).getD x11 default).whn (((openL r (readIs r f p)).getD x11 default).frm.getD f.toNat 0).toNat p.toNat)))] 10392) (by kernel_rfl) ⟨tv,tv,tv,⟨(o8 hp h10 x11 hx11 h12),(o9 hp h10 x11 hx11 h12)⟩,tv,tv,tv,⟨(o10 hp h10 x11 hx11 h12),(o11 hp h10 x11 hx11 h12)⟩,⟨(o12 hp h10 x11 hx11 h12),(o13 hp h10 x11 hx11 h12)⟩,⟨(o14 hp h10 x11 hx11 h12),(o15 hp h10 x11 hx11 h12),tv⟩,tv,tv,tv,⟨(o16 hp h10 x11 hx11 h12),(o17 hp h10 x11 hx11 h12)⟩,tv,tv,tv,tv,tv,tv⟩ ?_
   refine swp_block (swp_seq ?_)
   refine sR (kt:=[1,2,3,8,32,33,10,11,34,14,15,54]) (kh:=[0,10368]) (q:=True/\True/\True/\True/\True/\True) (st':=ASt.mk [(1,iv f),(2,iv p),(3,.ptr 0 []),(8,aWays (openL r (readIs r f p))),(32,aWays (openL r (readIs r f p))),(33,iv (↑((openL r (readIs r f p)).length):Int)),(10,iv (↑(cnt (openL r (readIs r f p)) (rdSo r f.toNat p.toNat) x11):Int)),(11,iv (↑(cnt (openL r (readIs r f p)) (rdNot r f.toNat p.toNat) x11):Int)),(34,iv (x11:Int)),(14,.ptr 10368 []),(15,iv (fnd r f.toNat).minute),(54,bv (decide ((((openL r (readIs r f p)).getD x11 default).whn (((openL r (readIs r f p)).getD x11 default).frm.getD f.toNat 0).toNat p.toNat).hi<=(fnd r f.toNat).minute)))] [(0,.cells 25 (cRun r)),(10368,.cells 37 (cSpan (((openL r (readIs r f p)).getD x11 default).whn (((openL r (readIs r f p)).getD x11 default).frm.getD f.toNat 0).toNat p.toNat)))] 10432) (by kernel_rfl) ⟨tv,tv,tv,tv,tv,tv⟩ ?_
   refine swp_cond (decide ((((openL r (readIs r f p)).getD x11 default).whn (((openL r (readIs r f p)).getD x11 default).frm.getD f.toNat 0).toNat p.toNat).hi<=(fnd r f.toNat).minute)) (by kernel_rfl) (fun h13 => ?_) (fun h13 => ?_)
   ·refine sR (kt:=[1,2,3,8,32,33,10,11,34]) (kh:=[0]) (q:=True/\inI ((↑(cnt (openL r (readIs r f p)) (rdSo r f.toNat p.toNat) x11):Int) + 1)/\True/\True) (st':=ASt.mk [(1,iv f),(2,iv p),(3,.ptr 0 []),(8,aWays (openL r (readIs r f p))),(32,aWays (openL r (readIs r f p))),(33,iv (↑((openL r (readIs r f p)).length):Int)),(10,iv ((↑(cnt (openL r (readIs r f p)) (rdSo r f.toNat p.toNat) x11):Int) + 1)),(11,iv (↑(cnt (openL r (readIs r f p)) (rdNot r f.toNat p.toNat) x11):Int)),(34,iv (x11:Int))] [(0,.cells 25 (cRun r))] 10456) (by kernel_rfl) ⟨tv,(o18 hp h10 x11 hx11 h12 h13),tv,tv⟩ ?_
    refine sR (kt:=[1,2,3,8,32,33,10,11,34]) (kh:=[0]) (q:=inI ((x11:Int) + 1)/\True/\True) (st':=ASt.mk [(1,iv f),(2,iv p),(3,.ptr 0 []),(8,aWays (openL r (readIs r f p))),(32,aWays (openL r (readIs r f p))),(33,iv (↑((openL r (readIs r f p)).length):Int)),(10,iv ((↑(cnt (openL r (readIs r f p)) (rdSo r f.toNat p.toNat) x11):Int) + 1)),(11,iv (↑(cnt (openL r (readIs r f p)) (rdNot r f.toNat p.toNat) x11):Int)),(34,iv ((x11:Int) + 1))] [(0,.cells 25 (cRun r))] 10472) (by kernel_rfl) ⟨(o19 hp h10 x11 hx11 h12 h13),tv,tv⟩ ?_
    exact loop_next (Hint.ann (h31 r f p) [(1,iv f),(2,iv p),(3,AV.ptr 0 []),(8,aWays (openL r (readIs r f p))),(32,aWays (openL r (readIs r f p))),(33,iv (↑((openL r (readIs r f p)).length):Int))] [(0,OB.cells 25 (cRun r))] 10200) x11 (ent_q hE [] [(0,.same 0)] [1,2,8,32,33] [0] (((iv f=iv f/\true=true)/\(iv p=iv p/\true=true)/\(some (Src.same 0)=some (Src.same 0)/\nilP = [])/\(aWays (openL r (readIs r f p))=aWays (openL r (readIs r f p))/\true=true)/\(aWays (openL r (readIs r f p))=aWays (openL r (readIs r f p))/\true=true)/\(iv (↑((openL r (readIs r f p)).length):Int)=iv (↑((openL r (readIs r f p)).length):Int)/\true=true)/\(iv ((↑(cnt (openL r (readIs r f p)) (rdSo r f.toNat p.toNat) x11):Int) + 1)=iv (↑(cnt (openL r (readIs r f p)) (rdSo r f.toNat p.toNat) (x11 + 1)):Int)/\nilN = [])/\(iv (↑(cnt (openL r (readIs r f p)) (rdNot r f.toNat p.toNat) x11):Int)=iv (↑(cnt (openL r (readIs r f p)) (rdNot r f.toNat p.toNat) (x11 + 1)):Int)/\nilN = [])/\(iv ((x11:Int) + 1)=iv (↑(x11 + 1):Int)/\nilN = [])/\True)/\((OB.cells 25 (cRun r)=OB.cells 25 (cRun r)/\true=true)/\True)/\T2) (by kernel_rfl) (by kernel_rfl) ⟨⟨⟨rfl,rfl⟩,⟨rfl,rfl⟩,⟨rfl,rfl⟩,⟨rfl,rfl⟩,⟨rfl,rfl⟩,⟨rfl,rfl⟩,⟨(congrArg iv (o20 hp h10 x11 hx11 h12 h13)),rfl⟩,⟨(congrArg iv (o21 hp h10 x11 hx11 h12 h13)),rfl⟩,⟨(congrArg iv (o22 hp h10 x11 hx11 h12 h13)),rfl⟩,tv⟩,⟨⟨rfl,rfl⟩,tv⟩,rfl,rfl⟩) (o23 hp h10 x11 hx11 h12 h13) (o24 hp h10 x11 hx11 h12 h13)
   ·refine swp_seq ?_
    refine sR (kt:=[1,2,3,8,32,33,10,11,34,61]) (kh:=[0]) (q:=True/\True/\True/\True/\True/\True) (st':=ASt.mk [(1,iv f),(2,iv p),(3,.ptr 0 []),(8,aWays (openL r (readIs r f p))),(32,aWays (openL r (readIs r f p))),(33,iv (↑((openL r (readIs r f p)).length):Int)),(10,iv (↑(cnt (openL r (readIs r f p)) (rdSo r f.toNat p.toNat) x11):Int)),(11,iv (↑(cnt (openL r (readIs r f p)) (rdNot r f.toNat p.toNat) x11):Int)),(34,iv (x11:Int)),(61,bv (decide ((fnd r f.toNat).minute < (((openL r (readIs r f p)).getD x11 default).whn (((openL r (readIs r f p)).getD x11 default).frm.getD f.toNat 0).toNat p.toNat).lo)))] [(0,.cells 25 (cRun r))] 10472) (by kernel_rfl) ⟨tv,tv,tv,tv,tv,tv⟩ ?_
    refine swp_cond (decide ((fnd r f.toNat).minute < (((openL r (readIs r f p)).getD x11 default).whn (((openL r (readIs r f p)).getD x11 default).frm.getD f.toNat 0).toNat p.toNat).lo)) (by kernel_rfl) (fun h14 => ?_) (fun h14 => ?_)
    ·refine sR (kt:=[1,2,3,8,32,33,10,11,34]) (kh:=[0]) (q:=True/\inI ((↑(cnt (openL r (readIs r f p)) (rdNot r f.toNat p.toNat) x11):Int) + 1)/\True/\True) (st':=ASt.mk [(1,iv f),(2,iv p),(3,.ptr 0 []),(8,aWays (openL r (readIs r f p))),(32,aWays (openL r (readIs r f p))),(33,iv (↑((openL r (readIs r f p)).length):Int)),(10,iv (↑(cnt (openL r (readIs r f p)) (rdSo r f.toNat p.toNat) x11):Int)),(11,iv ((↑(cnt (openL r (readIs r f p)) (rdNot r f.toNat p.toNat) x11):Int) + 1)),(34,iv (x11:Int))] [(0,.cells 25 (cRun r))] 10496) (by kernel_rfl) ⟨tv,(o25 hp h10 x11 hx11 h12 h13 h14),tv,tv⟩ ?_
     refine sR (kt:=[1,2,3,8,32,33,10,11,34]) (kh:=[0]) (q:=inI ((x11:Int) + 1)/\True/\True) (st':=ASt.mk [(1,iv f),(2,iv p),(3,.ptr 0 []),(8,aWays (openL r (readIs r f p))),(32,aWays (openL r (readIs r f p))),(33,iv (↑((openL r (readIs r f p)).length):Int)),(10,iv (↑(cnt (openL r (readIs r f p)) (rdSo r f.toNat p.toNat) x11):Int)),(11,iv ((↑(cnt (openL r (readIs r f p)) (rdNot r f.toNat p.toNat) x11):Int) + 1)),(34,iv ((x11:Int) + 1))] [(0,.cells 25 (cRun r))] 10512) (by kernel_rfl) ⟨(o26 hp h10 x11 hx11 h12 h13 h14),tv,tv⟩ ?_
     exact loop_next (Hint.ann (h31 r f p) [(1,iv f),(2,iv p),(3,AV.ptr 0 []),(8,aWays (openL r (readIs r f p))),(32,aWays (openL r (readIs r f p))),(33,iv (↑((openL r (readIs r f p)).length):Int))] [(0,OB.cells 25 (cRun r))] 10200) x11 (ent_q hE [] [(0,.same 0)] [1,2,8,32,33] [0] (((iv f=iv f/\true=true)/\(iv p=iv p/\true=true)/\(some (Src.same 0)=some (Src.same 0)/\nilP = [])/\(aWays (openL r (readIs r f p))=aWays (openL r (readIs r f p))/\true=true)/\(aWays (openL r (readIs r f p))=aWays (openL r (readIs r f p))/\true=true)/\(iv (↑((openL r (readIs r f p)).length):Int)=iv (↑((openL r (readIs r f p)).length):Int)/\true=true)/\(iv (↑(cnt (openL r (readIs r f p)) (rdSo r f.toNat p.toNat) x11):Int)=iv (↑(cnt (openL r (readIs r f p)) (rdSo r f.toNat p.toNat) (x11 + 1)):Int)/\nilN = [])/\(iv ((↑(cnt (openL r (readIs r f p)) (rdNot r f.toNat p.toNat) x11):Int) + 1)=iv (↑(cnt (openL r (readIs r f p)) (rdNot r f.toNat p.toNat) (x11 + 1)):Int)/\nilN = [])/\(iv ((x11:Int) + 1)=iv (↑(x11 + 1):Int)/\nilN = [])/\True)/\((OB.cells 25 (cRun r)=OB.cells 25 (cRun r)/\true=true)/\True)/\T2) (by kernel_rfl) (by kernel_rfl) ⟨⟨⟨rfl,rfl⟩,⟨rfl,rfl⟩,⟨rfl,rfl⟩,⟨rfl,rfl⟩,⟨rfl,rfl⟩,⟨rfl,rfl⟩,⟨(congrArg iv (o27 hp h10 x11 hx11 h12 h13 h14)),rfl⟩,⟨(congrArg iv (o28 hp h10 x11 hx11 h12 h13 h14)),rfl⟩,⟨(congrArg iv (o29 hp h10 x11 hx11 h12 h13 h14)),rfl⟩,tv⟩,⟨⟨rfl,rfl⟩,tv⟩,rfl,rfl⟩) (o30 hp h10 x11 hx11 h12 h13 h14) (o31 hp h10 x11 hx11 h12 h13 h14)
    ·refine swp_skip ?_
     refine sR (kt:=[1,2,3,8,32,33,10,11,34]) (kh:=[0]) (q:=inI ((x11:Int) + 1)/\True/\True) (st':=ASt.mk [(1,iv f),(2,iv p),(3,.ptr 0 []),(8,aWays (openL r (readIs r f p))),(32,aWays (openL r (readIs r f p))),(33,iv (↑((openL r (readIs r f p)).length):Int)),(10,iv (↑(cnt (openL r (readIs r f p)) (rdSo r f.toNat p.toNat) x11):Int)),(11,iv (↑(cnt (openL r (readIs r f p)) (rdNot r f.toNat p.toNat) x11):Int)),(34,iv ((x11:Int) + 1))] [(0,.cells 25 (cRun r))] 10488) (by kernel_rfl) ⟨(o32 hp h10 x11 hx11 h12 h13 h14),tv,tv⟩ ?_
     exact loop_next (Hint.ann (h31 r f p) [(1,iv f),(2,iv p),(3,AV.ptr 0 []),(8,aWays (openL r (readIs r f p))),(32,aWays (openL r (readIs r f p))),(33,iv (↑((openL r (readIs r f p)).length):Int))] [(0,OB.cells 25 (cRun r))] 10200) x11 (ent_q hE [] [(0,.same 0)] [1,2,8,32,33] [0] (((iv f=iv f/\true=true)/\(iv p=iv p/\true=true)/\(some (Src.same 0)=some (Src.same 0)/\nilP = [])/\(aWays (openL r (readIs r f p))=aWays (openL r (readIs r f p))/\true=true)/\(aWays (openL r (readIs r f p))=aWays (openL r (readIs r f p))/\true=true)/\(iv (↑((openL r (readIs r f p)).length):Int)=iv (↑((openL r (readIs r f p)).length):Int)/\true=true)/\(iv (↑(cnt (openL r (readIs r f p)) (rdSo r f.toNat p.toNat) x11):Int)=iv (↑(cnt (openL r (readIs r f p)) (rdSo r f.toNat p.toNat) (x11 + 1)):Int)/\nilN = [])/\(iv (↑(cnt (openL r (readIs r f p)) (rdNot r f.toNat p.toNat) x11):Int)=iv (↑(cnt (openL r (readIs r f p)) (rdNot r f.toNat p.toNat) (x11 + 1)):Int)/\nilN = [])/\(iv ((x11:Int) + 1)=iv (↑(x11 + 1):Int)/\nilN = [])/\True)/\((OB.cells 25 (cRun r)=OB.cells 25 (cRun r)/\true=true)/\True)/\T2) (by kernel_rfl) (by kernel_rfl) ⟨⟨⟨rfl,rfl⟩,⟨rfl,rfl⟩,⟨rfl,rfl⟩,⟨rfl,rfl⟩,⟨rfl,rfl⟩,⟨rfl,rfl⟩,⟨(congrArg iv (o33 hp h10 x11 hx11 h12 h13 h14)),rfl⟩,⟨(congrArg iv (o34 hp h10 x11 hx11 h12 h13 h14)),rfl⟩,⟨(congrArg iv (o35 hp h10 x11 hx11 h12 h13 h14)),rfl⟩,tv⟩,⟨⟨rfl,rfl⟩,tv⟩,rfl,rfl⟩) (o36 hp h10 x11 hx11 h12 h13 h14) (o37 hp h10 x11 hx11 h12 h13 h14)
  ·refine swp_exit (swp_seq ?_)
   refine swp_region T0_ok mixed (cs:=[(4,CallSpec.eq (s86 (↑(cnt (openL r (readIs r f p)) (rdSo r f.toNat p.toNat) x11):Int) (↑(cnt (openL r (readIs r f p)) (rdNot r f.toNat p.toNat) x11):Int) (↑((openL r (readIs r f p)).length):Int)) [true,true,true])]) (kt:=[6,7]) (kh:=[]) (q:=True/\True/\True/\True/\((iv (↑(cnt (openL r (readIs r f p)) (rdSo r f.toNat p.toNat) x11):Int)=iv (↑(cnt (openL r (readIs r f p)) (rdSo r f.toNat p.toNat) x11):Int)/\iv (↑(cnt (openL r (readIs r f p)) (rdNot r f.toNat p.toNat) x11):Int)=iv (↑(cnt (openL r (readIs r f p)) (rdNot r f.toNat p.toNat) x11):Int)/\iv (↑((openL r (readIs r f p)).length):Int)=iv (↑((openL r (readIs r f p)).length):Int)/\True)/\Triple Try.prog 86 (s86 (↑(cnt (openL r (readIs r f p)) (rdSo r f.toNat p.toNat) x11):Int) (↑(cnt (openL r (readIs r f p)) (rdNot r f.toNat p.toNat) x11):Int) (↑((openL r (readIs r f p)).length):Int))/\True/\True /\ ∀ (i15:Env),True)/\True/\True/\True) (st':=ASt.mk [(6,iv (known3 (↑(cnt (openL r (readIs r f p)) (rdSo r f.toNat p.toNat) x11):Int) (↑(cnt (openL r (readIs r f p)) (rdNot r f.toNat p.toNat) x11):Int) (↑((openL r (readIs r f p)).length):Int))),(7,iv 0)] [] 10264) (by kernel_rfl) ⟨tv,tv,tv,tv,⟨⟨rfl,rfl,rfl,tv⟩,(t86 ((↑(cnt (openL r (readIs r f p)) (rdSo r f.toNat p.toNat) x11):Int)) ((↑(cnt (openL r (readIs r f p)) (rdNot r f.toNat p.toNat) x11):Int)) ((↑((openL r (readIs r f p)).length):Int))),tv,tv,(fun i15=>tv)⟩,tv,tv,tv⟩ ?_
   refine swp_ret ?_
   exact ret_q [] ((True/\True/\True)/\((iv (known3 (↑(cnt (openL r (readIs r f p)) (rdSo r f.toNat p.toNat) x11):Int) (↑(cnt (openL r (readIs r f p)) (rdNot r f.toNat p.toNat) x11):Int) (↑((openL r (readIs r f p)).length):Int))=iv (readS r f p)/\nilN = [])/\(iv 0=iv (openE r (readIs r f p))/\nilN = [])/\True)/\T3) (by kernel_rfl) ⟨⟨tv,tv,tv⟩,⟨⟨(congrArg iv (o38 hp h10 x11 hx11 h12)),rfl⟩,⟨(congrArg iv (o39 hp h10 x11 hx11 h12)),rfl⟩,tv⟩,rfl,rfl,rfl⟩
theorem t31 (r:Run) (f p:Int):Triple Try.prog 31 (s31 r f p):=by
 apply w31
 case o0=>intro _; unfold readIs; cases isFound r f <;> rfl
 case o1=>intro _ h; rw [readS,if_neg (openBad h)]
 case o38=>intro _ h x hx hl; have F:=openF h; rw [readS,if_pos F.zero,show x=(openL r (readIs r f p)).length by simp only [decide_eq_false_iff_not] at hl; omega,F.eq]
 all_goals (first | (((repeat intro _) <;> (try simp only [v0,v1,v2,v3,v4,v5,v6,v7,v8,v9,inI,fits,Go.Sh.small] at *) <;> first | (exact rfl) | omega | exact vz | (simp_all; done) | (simp_all; omega))) | (
  intro _ h
  have F:=openF h
  first | exact F.zero.symm | (intro _ _ _; exact F.zero.symm) | (
   intro x hx hl
   simp only [decide_eq_true_eq] at hl
   have h1:=readIs_ok F.ok F.isT
   have h2:=F.frm x (by omega)
   have h3:=F.mach x (by omega) f.toNat (by omega)
   have h4:=F.len
   have h5:=cnt_le (openL r (readIs r f p)) (rdSo r f.toNat p.toNat) x
   have h6:=cnt_le (openL r (readIs r f p)) (rdNot r f.toNat p.toNat) x
   first
   | omega
   | ((repeat intro _); simp only [inI]; omega)
   | (intro e; exact cnt_t (by omega) e)
   | (intro e; exact cnt_f (by omega) e)
   | (intro e; exact cnt_f (by omega) (rdNot_t e))
   | (intro e e2; exact cnt_f (by omega) e)
   | (intro e e2; exact cnt_t (by omega) (rdNot_f e e2))
   | (intro e e2; exact cnt_f (by omega) (rdNot_f e e2)))))
abbrev q38_1 (r:Run) (a:Int) (b:Int) (C:Prop):Prop:=fits r->(!decide (openE r (sameIs r a b)=0))=false->C
abbrev q38_2 (r:Run) (a:Int) (b:Int) (C:Nat->Prop):Prop:=q38_1 r a b (∀ (x11:Nat),x11<=(openL r (sameIs r a b)).length->decide ((x11:Int) < (↑((openL r (sameIs r a b)).length):Int))=true->C x11)
abbrev q38_3 (r:Run) (a:Int) (b:Int) (C:Nat->Prop):Prop:=q38_2 r a b fun x11=>decide (((openL r (sameIs r a b)).getD x11 default).frm.getD a.toNat 0=((openL r (sameIs r a b)).getD x11 default).frm.getD b.toNat 0)=true->C x11
abbrev q38_4 (r:Run) (a:Int) (b:Int) (C:Nat->Prop):Prop:=q38_2 r a b fun x11=>decide (((openL r (sameIs r a b)).getD x11 default).frm.getD a.toNat 0=((openL r (sameIs r a b)).getD x11 default).frm.getD b.toNat 0)=false->C x11
abbrev q38_5 (r:Run) (a:Int) (b:Int) (C:Nat->Prop):Prop:=q38_1 r a b (∀ (x11:Nat),x11<=(openL r (sameIs r a b)).length->decide ((x11:Int) < (↑((openL r (sameIs r a b)).length):Int))=false->C x11)
theorem w38 (r:Run) (a:Int) (b:Int)
 (o0:fits r->(bif isFound r a then isFound r b else false)=sameIs r a b)
 (o1:fits r->(!decide (openE r (sameIs r a b)=0))->0=sameS r a b)
 (o2:q38_1 r a b (0=(↑(cnt (openL r (sameIs r a b)) (smSo a.toNat b.toNat) 0):Int)))
 (o3:q38_1 r a b (0=(↑0:Int)))
 (o4:q38_1 r a b (0<=(openL r (sameIs r a b)).length))
 (o5:q38_2 r a b fun x11=>0<=(x11:Int))
 (o6:q38_2 r a b fun x11=>(x11:Int) < (↑((openL r (sameIs r a b)).length):Int))
 (o7:q38_2 r a b fun x11=>0<=a)
 (o8:q38_2 r a b fun x11=>a < (↑(((openL r (sameIs r a b)).getD x11 default).frm.length):Int))
 (o9:q38_2 r a b fun x11=>0<=b)
 (o10:q38_2 r a b fun x11=>b < (↑(((openL r (sameIs r a b)).getD x11 default).frm.length):Int))
 (o11:q38_3 r a b fun x11=>inI ((↑(cnt (openL r (sameIs r a b)) (smSo a.toNat b.toNat) x11):Int) + 1))
 (o12:q38_3 r a b fun x11=>inI ((x11:Int) + 1))
 (o13:q38_3 r a b fun x11=>(↑(cnt (openL r (sameIs r a b)) (smSo a.toNat b.toNat) x11):Int) + 1=(↑(cnt (openL r (sameIs r a b)) (smSo a.toNat b.toNat) (x11 + 1)):Int))
 (o14:q38_3 r a b fun x11=>(x11:Int) + 1=(↑(x11 + 1):Int))
 (o15:q38_3 r a b fun x11=>x11 + 1<=(openL r (sameIs r a b)).length)
 (o16:q38_3 r a b fun x11=>(openL r (sameIs r a b)).length - (x11 + 1) < (openL r (sameIs r a b)).length - x11)
 (o17:q38_4 r a b fun x11=>inI ((x11:Int) + 1))
 (o18:q38_4 r a b fun x11=>(↑(cnt (openL r (sameIs r a b)) (smSo a.toNat b.toNat) x11):Int)=(↑(cnt (openL r (sameIs r a b)) (smSo a.toNat b.toNat) (x11 + 1)):Int))
 (o19:q38_4 r a b fun x11=>(x11:Int) + 1=(↑(x11 + 1):Int))
 (o20:q38_4 r a b fun x11=>x11 + 1<=(openL r (sameIs r a b)).length)
 (o21:q38_4 r a b fun x11=>(openL r (sameIs r a b)).length - (x11 + 1) < (openL r (sameIs r a b)).length - x11)
 (o22:q38_5 r a b fun x11=>inI ((↑((openL r (sameIs r a b)).length):Int) - (↑(cnt (openL r (sameIs r a b)) (smSo a.toNat b.toNat) x11):Int)))
 (o23:q38_5 r a b fun x11=>known3 (↑(cnt (openL r (sameIs r a b)) (smSo a.toNat b.toNat) x11):Int) ((↑((openL r (sameIs r a b)).length):Int) - (↑(cnt (openL r (sameIs r a b)) (smSo a.toNat b.toNat) x11):Int)) (↑((openL r (sameIs r a b)).length):Int)=sameS r a b)
 (o24:q38_5 r a b fun x11=>0=openE r (sameIs r a b)) :
  Triple Try.prog 38 (s38 r a b):=by
 refine triple_of Try.func38 rfl Try.call38 T0_ok _ rfl rfl rfl rfl (Nat.le_of_ble_eq_true (by kernel_rfl)) (fun _ _ _ _ h=>h) ?_
 intro hp C hC _ hE
 obtain ⟨P,w0,E0,av,hA⟩:=C
 subst hC
 refine swp_seq ?_
 refine sR (kt:=[1,2,3]) (kh:=[0]) (q:=True/\True/\True/\True) (st':=ASt.mk [(1,iv a),(2,iv b),(3,.ptr 0 [])] [(0,.cells 25 (cRun r))] 24) (by kernel_rfl) ⟨tv,tv,tv,tv⟩ ?_
 refine swp_seq ?_
 refine swp_region T0_ok mixed (cs:=[(3,CallSpec.eq (s85 r a) [true,true]),(7,CallSpec.eq (s85 r b) [true,true]),(9,CallSpec.eq (c38o r a b) [true,false])]) (kt:=[1,2,8,9]) (kh:=[]) (q:=True/\True/\True/\((AV.agg (cRun r)=AV.agg (cRun r)/\iv a=iv a/\True)/\Triple Try.prog 85 (s85 r a)/\fits r/\True /\ ∀ (i0:Env),True)/\True/\(isFound r a=true->(True/\True)/\True)/\(isFound r a=true->(True/\True)/\True)/\(isFound r a=true->(True/\(isFound r a=true->isFound r a=true)/\(isFound r a=true->isFound r a=true)/\True)/\(AV.agg (cRun r)=AV.agg (cRun r)/\iv b=iv b/\True)/\Triple Try.prog 85 (s85 r b)/\fits r/\True /\ ∀ (i6:Env),True)/\((isFound r a=true->isFound r a=true)/\(isFound r a=false->True))/\((AV.agg (cRun r)=AV.agg (cRun r)/\bv (bif isFound r a then isFound r b else false)=bv (sameIs r a b)/\True)/\Triple Try.prog 78 (c38o r a b)/\fits r/\True /\ ∀ (i9:Env),True)/\True/\True/\True/\True/\True/\True) (st':=ASt.mk [(1,iv a),(2,iv b),(8,aWays (openL r (sameIs r a b))),(9,iv (openE r (sameIs r a b)))] [] 144) (by kernel_rfl) ⟨tv,tv,tv,⟨⟨rfl,rfl,tv⟩,(t85 (r) (a)),hp,tv,(fun i0=>tv)⟩,tv,(fun h1=>⟨⟨tv,tv⟩,tv⟩),(fun h2=>⟨⟨tv,tv⟩,tv⟩),(fun h3=>⟨⟨tv,(fun h4=>h3),(fun h5=>h3),tv⟩,⟨rfl,rfl,tv⟩,(t85 (r) (b)),hp,tv,(fun i6=>tv)⟩),⟨(fun h7=>h7),(fun h8=>tv)⟩,⟨⟨rfl,(congrArg bv (o0 hp)),tv⟩,(t78 _ _),hp,tv,(fun i9=>tv)⟩,tv,tv,tv,tv,tv,tv⟩ ?_
 refine swp_seq (swp_seq ?_)
 refine sR (kt:=[1,2,8,9,27]) (kh:=[]) (q:=True/\True/\True) (st':=ASt.mk [(1,iv a),(2,iv b),(8,aWays (openL r (sameIs r a b))),(9,iv (openE r (sameIs r a b))),(27,bv !decide (openE r (sameIs r a b)=0))] [] 160) (by kernel_rfl) ⟨tv,tv,tv⟩ ?_
 refine swp_cond (!decide (openE r (sameIs r a b)=0)) (by kernel_rfl) (fun h10 => ?_) (fun h10 => ?_)
 ·refine swp_seq ?_
  refine sR (kt:=[6,7]) (kh:=[]) (q:=True/\True/\True/\True) (st':=ASt.mk [(6,iv 0),(7,iv (openE r (sameIs r a b)))] [] 184) (by kernel_rfl) ⟨tv,tv,tv,tv⟩ ?_
  refine swp_ret ?_
  exact ret_q [] ((True/\True/\True)/\((iv 0=iv (sameS r a b)/\nilN = [])/\(iv (openE r (sameIs r a b))=iv (openE r (sameIs r a b))/\nilN = [])/\True)/\T3) (by kernel_rfl) ⟨⟨tv,tv,tv⟩,⟨⟨(congrArg iv (o1 hp h10)),rfl⟩,⟨rfl,rfl⟩,tv⟩,rfl,rfl,rfl⟩
 ·refine swp_skip (swp_seq ?_)
  refine sR (kt:=[1,2,8,10]) (kh:=[]) (q:=True/\True) (st':=ASt.mk [(1,iv a),(2,iv b),(8,aWays (openL r (sameIs r a b))),(10,iv 0)] [] 168) (by kernel_rfl) ⟨tv,tv⟩ ?_
  refine swp_seq (swp_seq ?_)
  refine sR (kt:=[1,2,8,10,29,30,31]) (kh:=[]) (q:=True/\True/\True/\True) (st':=ASt.mk [(1,iv a),(2,iv b),(8,aWays (openL r (sameIs r a b))),(10,iv 0),(29,aWays (openL r (sameIs r a b))),(30,iv (↑((openL r (sameIs r a b)).length):Int)),(31,iv 0)] [] 192) (by kernel_rfl) ⟨tv,tv,tv,tv⟩ ?_
  refine swp_block ?_
  refine swp_loopA (Hint.ann (h38 r a b) [(1,iv a),(2,iv b),(8,aWays (openL r (sameIs r a b))),(29,aWays (openL r (sameIs r a b))),(30,iv (↑((openL r (sameIs r a b)).length):Int))] [] 10192) (ent_q hE [] [] [1,2,8,29,30] [] (((iv a=iv a/\true=true)/\(iv b=iv b/\true=true)/\(aWays (openL r (sameIs r a b))=aWays (openL r (sameIs r a b))/\true=true)/\(aWays (openL r (sameIs r a b))=aWays (openL r (sameIs r a b))/\true=true)/\(iv (↑((openL r (sameIs r a b)).length):Int)=iv (↑((openL r (sameIs r a b)).length):Int)/\true=true)/\(iv 0=iv (↑(cnt (openL r (sameIs r a b)) (smSo a.toNat b.toNat) 0):Int)/\nilN = [])/\(iv 0=iv (↑0:Int)/\nilN = [])/\True)/\True/\T2) (by kernel_rfl) (by kernel_rfl) ⟨⟨⟨rfl,rfl⟩,⟨rfl,rfl⟩,⟨rfl,rfl⟩,⟨rfl,rfl⟩,⟨rfl,rfl⟩,⟨(congrArg iv (o2 hp h10)),rfl⟩,⟨(congrArg iv (o3 hp h10)),rfl⟩,tv⟩,tv,rfl,rfl⟩) (o4 hp h10) (fun (x11:Nat) hx11 => ?_)
  refine swp_seq ?_
  refine sR (kt:=[1,2,8,29,30,10,31,32]) (kh:=[]) (q:=True/\True) (st':=ASt.mk [(1,iv a),(2,iv b),(8,aWays (openL r (sameIs r a b))),(29,aWays (openL r (sameIs r a b))),(30,iv (↑((openL r (sameIs r a b)).length):Int)),(10,iv (↑(cnt (openL r (sameIs r a b)) (smSo a.toNat b.toNat) x11):Int)),(31,iv (x11:Int)),(32,bv (decide ((x11:Int) < (↑((openL r (sameIs r a b)).length):Int))))] [] 10200) (by kernel_rfl) ⟨tv,tv⟩ ?_
  refine swp_seq ?_
  refine swp_cond (decide ((x11:Int) < (↑((openL r (sameIs r a b)).length):Int))) (by kernel_rfl) (fun h12 => ?_) (fun h12 => ?_)
  ·refine swp_skip (swp_seq (swp_block (swp_seq ?_)))
   refine sR (kt:=[1,2,8,29,30,10,31,12]) (kh:=[10216]) (q:=(0<=(x11:Int)/\(x11:Int) < (↑((openL r (sameIs r a b)).length):Int))/\True/\True/\True/\True) (st':=ASt.mk [(1,iv a),(2,iv b),(8,aWays (openL r (sameIs r a b))),(29,aWays (openL r (sameIs r a b))),(30,iv (↑((openL r (sameIs r a b)).length):Int)),(10,iv (↑(cnt (openL r (sameIs r a b)) (smSo a.toNat b.toNat) x11):Int)),(31,iv (x11:Int)),(12,.ptr 10216 [])] [(10216,.cells 107 (cWay ((openL r (sameIs r a b)).getD x11 default)))] 10232) (by kernel_rfl) ⟨⟨(o5 hp h10 x11 hx11 h12),(o6 hp h10 x11 hx11 h12)⟩,tv,tv,tv,tv⟩ ?_
   refine swp_seq ?_
   refine sR (kt:=[1,2,8,29,30,10,31,45]) (kh:=[]) (q:=True/\True/\True/\(0<=a/\a < (↑(((openL r (sameIs r a b)).getD x11 default).frm.length):Int))/\True/\True/\True/\True/\(0<=b/\b < (↑(((openL r (sameIs r a b)).getD x11 default).frm.length):Int))/\True/\True/\True) (st':=ASt.mk [(1,iv a),(2,iv b),(8,aWays (openL r (sameIs r a b))),(29,aWays (openL r (sameIs r a b))),(30,iv (↑((openL r (sameIs r a b)).length):Int)),(10,iv (↑(cnt (openL r (sameIs r a b)) (smSo a.toNat b.toNat) x11):Int)),(31,iv (x11:Int)),(45,bv (decide (((openL r (sameIs r a b)).getD x11 default).frm.getD a.toNat 0=((openL r (sameIs r a b)).getD x11 default).frm.getD b.toNat 0)))] [] 10320) (by kernel_rfl) ⟨tv,tv,tv,⟨(o7 hp h10 x11 hx11 h12),(o8 hp h10 x11 hx11 h12)⟩,tv,tv,tv,tv,⟨(o9 hp h10 x11 hx11 h12),(o10 hp h10 x11 hx11 h12)⟩,tv,tv,tv⟩ ?_
   refine swp_cond (decide (((openL r (sameIs r a b)).getD x11 default).frm.getD a.toNat 0=((openL r (sameIs r a b)).getD x11 default).frm.getD b.toNat 0)) (by kernel_rfl) (fun h13 => ?_) (fun h13 => ?_)
   ·refine sR (kt:=[1,2,8,29,30,10,31]) (kh:=[]) (q:=True/\inI ((↑(cnt (openL r (sameIs r a b)) (smSo a.toNat b.toNat) x11):Int) + 1)/\True/\True) (st':=ASt.mk [(1,iv a),(2,iv b),(8,aWays (openL r (sameIs r a b))),(29,aWays (openL r (sameIs r a b))),(30,iv (↑((openL r (sameIs r a b)).length):Int)),(10,iv ((↑(cnt (openL r (sameIs r a b)) (smSo a.toNat b.toNat) x11):Int) + 1)),(31,iv (x11:Int))] [] 10344) (by kernel_rfl) ⟨tv,(o11 hp h10 x11 hx11 h12 h13),tv,tv⟩ ?_
    refine sR (kt:=[1,2,8,29,30,10,31]) (kh:=[]) (q:=inI ((x11:Int) + 1)/\True/\True) (st':=ASt.mk [(1,iv a),(2,iv b),(8,aWays (openL r (sameIs r a b))),(29,aWays (openL r (sameIs r a b))),(30,iv (↑((openL r (sameIs r a b)).length):Int)),(10,iv ((↑(cnt (openL r (sameIs r a b)) (smSo a.toNat b.toNat) x11):Int) + 1)),(31,iv ((x11:Int) + 1))] [] 10360) (by kernel_rfl) ⟨(o12 hp h10 x11 hx11 h12 h13),tv,tv⟩ ?_
    exact loop_next (Hint.ann (h38 r a b) [(1,iv a),(2,iv b),(8,aWays (openL r (sameIs r a b))),(29,aWays (openL r (sameIs r a b))),(30,iv (↑((openL r (sameIs r a b)).length):Int))] [] 10192) x11 (ent_q hE [] [] [1,2,8,29,30] [] (((iv a=iv a/\true=true)/\(iv b=iv b/\true=true)/\(aWays (openL r (sameIs r a b))=aWays (openL r (sameIs r a b))/\true=true)/\(aWays (openL r (sameIs r a b))=aWays (openL r (sameIs r a b))/\true=true)/\(iv (↑((openL r (sameIs r a b)).length):Int)=iv (↑((openL r (sameIs r a b)).length):Int)/\true=true)/\(iv ((↑(cnt (openL r (sameIs r a b)) (smSo a.toNat b.toNat) x11):Int) + 1)=iv (↑(cnt (openL r (sameIs r a b)) (smSo a.toNat b.toNat) (x11 + 1)):Int)/\nilN = [])/\(iv ((x11:Int) + 1)=iv (↑(x11 + 1):Int)/\nilN = [])/\True)/\True/\T2) (by kernel_rfl) (by kernel_rfl) ⟨⟨⟨rfl,rfl⟩,⟨rfl,rfl⟩,⟨rfl,rfl⟩,⟨rfl,rfl⟩,⟨rfl,rfl⟩,⟨(congrArg iv (o13 hp h10 x11 hx11 h12 h13)),rfl⟩,⟨(congrArg iv (o14 hp h10 x11 hx11 h12 h13)),rfl⟩,tv⟩,tv,rfl,rfl⟩) (o15 hp h10 x11 hx11 h12 h13) (o16 hp h10 x11 hx11 h12 h13)
   ·refine swp_skip ?_
    refine sR (kt:=[1,2,8,29,30,10,31]) (kh:=[]) (q:=inI ((x11:Int) + 1)/\True/\True) (st':=ASt.mk [(1,iv a),(2,iv b),(8,aWays (openL r (sameIs r a b))),(29,aWays (openL r (sameIs r a b))),(30,iv (↑((openL r (sameIs r a b)).length):Int)),(10,iv (↑(cnt (openL r (sameIs r a b)) (smSo a.toNat b.toNat) x11):Int)),(31,iv ((x11:Int) + 1))] [] 10336) (by kernel_rfl) ⟨(o17 hp h10 x11 hx11 h12 h13),tv,tv⟩ ?_
    exact loop_next (Hint.ann (h38 r a b) [(1,iv a),(2,iv b),(8,aWays (openL r (sameIs r a b))),(29,aWays (openL r (sameIs r a b))),(30,iv (↑((openL r (sameIs r a b)).length):Int))] [] 10192) x11 (ent_q hE [] [] [1,2,8,29,30] [] (((iv a=iv a/\true=true)/\(iv b=iv b/\true=true)/\(aWays (openL r (sameIs r a b))=aWays (openL r (sameIs r a b))/\true=true)/\(aWays (openL r (sameIs r a b))=aWays (openL r (sameIs r a b))/\true=true)/\(iv (↑((openL r (sameIs r a b)).length):Int)=iv (↑((openL r (sameIs r a b)).length):Int)/\true=true)/\(iv (↑(cnt (openL r (sameIs r a b)) (smSo a.toNat b.toNat) x11):Int)=iv (↑(cnt (openL r (sameIs r a b)) (smSo a.toNat b.toNat) (x11 + 1)):Int)/\nilN = [])/\(iv ((x11:Int) + 1)=iv (↑(x11 + 1):Int)/\nilN = [])/\True)/\True/\T2) (by kernel_rfl) (by kernel_rfl) ⟨⟨⟨rfl,rfl⟩,⟨rfl,rfl⟩,⟨rfl,rfl⟩,⟨rfl,rfl⟩,⟨rfl,rfl⟩,⟨(congrArg iv (o18 hp h10 x11 hx11 h12 h13)),rfl⟩,⟨(congrArg iv (o19 hp h10 x11 hx11 h12 h13)),rfl⟩,tv⟩,tv,rfl,rfl⟩) (o20 hp h10 x11 hx11 h12 h13) (o21 hp h10 x11 hx11 h12 h13)
  ·refine swp_exit (swp_seq ?_)
   refine swp_region T0_ok mixed (cs:=[(7,CallSpec.eq (s86 (↑(cnt (openL r (sameIs r a b)) (smSo a.toNat b.toNat) x11):Int) ((↑((openL r (sameIs r a b)).length):Int) - (↑(cnt (openL r (sameIs r a b)) (smSo a.toNat b.toNat) x11):Int)) (↑((openL r (sameIs r a b)).length):Int)) [true,true,true])]) (kt:=[6,7]) (kh:=[]) (q:=True/\True/\True/\True/\inI ((↑((openL r (sameIs r a b)).length):Int) - (↑(cnt (openL r (sameIs r a b)) (smSo a.toNat b.toNat) x11):Int))/\True/\True/\((iv (↑(cnt (openL r (sameIs r a b)) (smSo a.toNat b.toNat) x11):Int)=iv (↑(cnt (openL r (sameIs r a b)) (smSo a.toNat b.toNat) x11):Int)/\iv ((↑((openL r (sameIs r a b)).length):Int) - (↑(cnt (openL r (sameIs r a b)) (smSo a.toNat b.toNat) x11):Int))=iv ((↑((openL r (sameIs r a b)).length):Int) - (↑(cnt (openL r (sameIs r a b)) (smSo a.toNat b.toNat) x11):Int))/\iv (↑((openL r (sameIs r a b)).length):Int)=iv (↑((openL r (sameIs r a b)).length):Int)/\True)/\Triple Try.prog 86 (s86 (↑(cnt (openL r (sameIs r a b)) (smSo a.toNat b.toNat) x11):Int) ((↑((openL r (sameIs r a b)).length):Int) - (↑(cnt (openL r (sameIs r a b)) (smSo a.toNat b.toNat) x11):Int)) (↑((openL r (sameIs r a b)).length):Int))/\True/\True /\ ∀ (i14:Env),True)/\True/\True/\True) (st':=ASt.mk [(6,iv (known3 (↑(cnt (openL r (sameIs r a b)) (smSo a.toNat b.toNat) x11):Int) ((↑((openL r (sameIs r a b)).length):Int) - (↑(cnt (openL r (sameIs r a b)) (smSo a.toNat b.toNat) x11):Int)) (↑((openL r (sameIs r a b)).length):Int))),(7,iv 0)] [] 10280) (by kernel_rfl) ⟨tv,tv,tv,tv,(o22 hp h10 x11 hx11 h12),tv,tv,⟨⟨rfl,rfl,rfl,tv⟩,(t86 ((↑(cnt (openL r (sameIs r a b)) (smSo a.toNat b.toNat) x11):Int)) ((↑((openL r (sameIs r a b)).length):Int) - (↑(cnt (openL r (sameIs r a b)) (smSo a.toNat b.toNat) x11):Int)) ((↑((openL r (sameIs r a b)).length):Int))),tv,tv,(fun i14=>tv)⟩,tv,tv,tv⟩ ?_
   refine swp_ret ?_
   exact ret_q [] ((True/\True/\True)/\((iv (known3 (↑(cnt (openL r (sameIs r a b)) (smSo a.toNat b.toNat) x11):Int) ((↑((openL r (sameIs r a b)).length):Int) - (↑(cnt (openL r (sameIs r a b)) (smSo a.toNat b.toNat) x11):Int)) (↑((openL r (sameIs r a b)).length):Int))=iv (sameS r a b)/\nilN = [])/\(iv 0=iv (openE r (sameIs r a b))/\nilN = [])/\True)/\T3) (by kernel_rfl) ⟨⟨tv,tv,tv⟩,⟨⟨(congrArg iv (o23 hp h10 x11 hx11 h12)),rfl⟩,⟨(congrArg iv (o24 hp h10 x11 hx11 h12)),rfl⟩,tv⟩,rfl,rfl,rfl⟩
theorem t38 (r:Run) (a b:Int):Triple Try.prog 38 (s38 r a b):=by
 apply w38
 case o0=>intro _; unfold sameIs; cases isFound r a <;> rfl
 case o1=>intro _ h; rw [sameS,if_neg (openBad h)]
 case o23=>intro _ h x hx hl; have F:=openF h; rw [sameS,if_pos F.zero,show x=(openL r (sameIs r a b)).length by simp only [decide_eq_false_iff_not] at hl; omega,F.eq]
 all_goals (first | (((repeat intro _) <;> (try simp only [v0,v1,v2,v3,v4,v5,v6,v7,v8,v9,inI,fits,Go.Sh.small] at *) <;> first | (exact rfl) | omega | exact vz | (simp_all; done) | (simp_all; omega))) | (
  intro _ h
  have F:=openF h
  first | exact F.zero.symm | (intro _ _ _; exact F.zero.symm) | (
   intro x hx hl
   simp only [decide_eq_true_eq,decide_eq_false_iff_not] at hl
   have h1:=sameIs_ok F.isT
   have h4:=F.len
   have h5:=cnt_le (openL r (sameIs r a b)) (smSo a.toNat b.toNat) x
   first
   | omega
   | (have h2:=F.frm x (by omega); omega)
   | ((repeat intro _); simp only [inI]; omega)
   | (intro e; exact cnt_t (by omega) e)
   | (intro e; exact cnt_f (by omega) e))))
abbrev q65_1 (r:Run) (m:Int) (C:Prop):Prop:=fits r->(!decide (openE r (isMachine r m)=0))=false->C
abbrev q65_2 (r:Run) (m:Int) (C:Nat->Prop):Prop:=q65_1 r m (∀ (x3:Nat),x3<=(openL r (isMachine r m)).length->decide ((x3:Int) < (↑((openL r (isMachine r m)).length):Int))=true->C x3)
abbrev q65_3 (r:Run) (m:Int) (C:Nat->Prop):Prop:=q65_2 r m fun x3=>decide (0 < (spread (((openL r (isMachine r m)).getD x3 default).whn m.toNat) r.plates.toNat).lo)=true->C x3
abbrev q65_4 (r:Run) (m:Int) (C:Nat->Prop):Prop:=q65_2 r m fun x3=>decide (0 < (spread (((openL r (isMachine r m)).getD x3 default).whn m.toNat) r.plates.toNat).lo)=false->decide ((spread (((openL r (isMachine r m)).getD x3 default).whn m.toNat) r.plates.toNat).hi=0)=true->C x3
abbrev q65_5 (r:Run) (m:Int) (C:Nat->Prop):Prop:=q65_2 r m fun x3=>decide (0 < (spread (((openL r (isMachine r m)).getD x3 default).whn m.toNat) r.plates.toNat).lo)=false->decide ((spread (((openL r (isMachine r m)).getD x3 default).whn m.toNat) r.plates.toNat).hi=0)=false->C x3
abbrev q65_6 (r:Run) (m:Int) (C:Nat->Prop):Prop:=q65_1 r m (∀ (x3:Nat),x3<=(openL r (isMachine r m)).length->decide ((x3:Int) < (↑((openL r (isMachine r m)).length):Int))=false->C x3)
theorem w65 (r:Run) (m:Int)
 (o0:fits r->(!decide (openE r (isMachine r m)=0))->0=mixedS r m)
 (o1:q65_1 r m (0=(↑(cnt (openL r (isMachine r m)) (mxSo r m.toNat) 0):Int)))
 (o2:q65_1 r m (0=(↑(cnt (openL r (isMachine r m)) (mxNot r m.toNat) 0):Int)))
 (o3:q65_1 r m (0=(↑0:Int)))
 (o4:q65_1 r m (0<=(openL r (isMachine r m)).length))
 (o5:q65_2 r m fun x3=>0<=(x3:Int))
 (o6:q65_2 r m fun x3=>(x3:Int) < (↑((openL r (isMachine r m)).length):Int))
 (o7:q65_2 r m fun x3=>m=(↑(m.toNat):Int))
 (o8:q65_2 r m fun x3=>r.plates=(↑(r.plates.toNat):Int))
 (o9:q65_2 r m fun x3=>wb ((openL r (isMachine r m)).getD x3 default))
 (o10:q65_2 r m fun x3=>m.toNat < 3)
 (o11:q65_2 r m fun x3=>1<=r.plates.toNat)
 (o12:q65_2 r m fun x3=>r.plates.toNat<=3)
 (o13:q65_3 r m fun x3=>inI ((↑(cnt (openL r (isMachine r m)) (mxSo r m.toNat) x3):Int) + 1))
 (o14:q65_3 r m fun x3=>inI ((x3:Int) + 1))
 (o15:q65_3 r m fun x3=>(↑(cnt (openL r (isMachine r m)) (mxSo r m.toNat) x3):Int) + 1=(↑(cnt (openL r (isMachine r m)) (mxSo r m.toNat) (x3 + 1)):Int))
 (o16:q65_3 r m fun x3=>(↑(cnt (openL r (isMachine r m)) (mxNot r m.toNat) x3):Int)=(↑(cnt (openL r (isMachine r m)) (mxNot r m.toNat) (x3 + 1)):Int))
 (o17:q65_3 r m fun x3=>(x3:Int) + 1=(↑(x3 + 1):Int))
 (o18:q65_3 r m fun x3=>x3 + 1<=(openL r (isMachine r m)).length)
 (o19:q65_3 r m fun x3=>(openL r (isMachine r m)).length - (x3 + 1) < (openL r (isMachine r m)).length - x3)
 (o20:q65_4 r m fun x3=>inI ((↑(cnt (openL r (isMachine r m)) (mxNot r m.toNat) x3):Int) + 1))
 (o21:q65_4 r m fun x3=>inI ((x3:Int) + 1))
 (o22:q65_4 r m fun x3=>(↑(cnt (openL r (isMachine r m)) (mxSo r m.toNat) x3):Int)=(↑(cnt (openL r (isMachine r m)) (mxSo r m.toNat) (x3 + 1)):Int))
 (o23:q65_4 r m fun x3=>(↑(cnt (openL r (isMachine r m)) (mxNot r m.toNat) x3):Int) + 1=(↑(cnt (openL r (isMachine r m)) (mxNot r m.toNat) (x3 + 1)):Int))
 (o24:q65_4 r m fun x3=>(x3:Int) + 1=(↑(x3 + 1):Int))
 (o25:q65_4 r m fun x3=>x3 + 1<=(openL r (isMachine r m)).length)
 (o26:q65_4 r m fun x3=>(openL r (isMachine r m)).length - (x3 + 1) < (openL r (isMachine r m)).length - x3)
 (o27:q65_5 r m fun x3=>inI ((x3:Int) + 1))
 (o28:q65_5 r m fun x3=>(↑(cnt (openL r (isMachine r m)) (mxSo r m.toNat) x3):Int)=(↑(cnt (openL r (isMachine r m)) (mxSo r m.toNat) (x3 + 1)):Int))
 (o29:q65_5 r m fun x3=>(↑(cnt (openL r (isMachine r m)) (mxNot r m.toNat) x3):Int)=(↑(cnt (openL r (isMachine r m)) (mxNot r m.toNat) (x3 + 1)):Int))
 (o30:q65_5 r m fun x3=>(x3:Int) + 1=(↑(x3 + 1):Int))
 (o31:q65_5 r m fun x3=>x3 + 1<=(openL r (isMachine r m)).length)
 (o32:q65_5 r m fun x3=>(openL r (isMachine r m)).length - (x3 + 1) < (openL r (isMachine r m)).length - x3)
 (o33:q65_6 r m fun x3=>known3 (↑(cnt (openL r (isMachine r m)) (mxSo r m.toNat) x3):Int) (↑(cnt (openL r (isMachine r m)) (mxNot r m.toNat) x3):Int) (↑((openL r (isMachine r m)).length):Int)=mixedS r m)
 (o34:q65_6 r m fun x3=>0=openE r (isMachine r m)) :
  Triple Try.prog 65 (s65 r m):=by
 refine triple_of Try.func65 rfl Try.call65 T0_ok _ rfl rfl rfl rfl (Nat.le_of_ble_eq_true (by kernel_rfl)) (fun _ _ _ _ h=>h) ?_
 intro hp C hC _ hE
 obtain ⟨P,w0,E0,av,hA⟩:=C
 subst hC
 refine swp_seq ?_
 refine sR (kt:=[1,2]) (kh:=[0]) (q:=True/\True/\True/\True) (st':=ASt.mk [(1,iv m),(2,.ptr 0 [])] [(0,.cells 25 (cRun r))] 24) (by kernel_rfl) ⟨tv,tv,tv,tv⟩ ?_
 refine swp_seq ?_
 refine swp_region T0_ok mixed (cs:=[(3,CallSpec.eq (s79 r m) [true,true]),(4,CallSpec.eq (c65o r m) [true,true])]) (kt:=[1,2,6,7]) (kh:=[0]) (q:=True/\True/\True/\((AV.agg (cRun r)=AV.agg (cRun r)/\iv m=iv m/\True)/\Triple Try.prog 79 (s79 r m)/\fits r/\True /\ ∀ (i0:Env),True)/\((AV.agg (cRun r)=AV.agg (cRun r)/\bv (isMachine r m)=bv (isMachine r m)/\True)/\Triple Try.prog 78 (c65o r m)/\fits r/\True /\ ∀ (i1:Env),True)/\True/\True/\True/\True/\True/\True) (st':=ASt.mk [(1,iv m),(2,.ptr 0 []),(6,aWays (openL r (isMachine r m))),(7,iv (openE r (isMachine r m)))] [(0,.cells 25 (cRun r))] 104) (by kernel_rfl) ⟨tv,tv,tv,⟨⟨rfl,rfl,tv⟩,(t79 (r) (m)),hp,tv,(fun i0=>tv)⟩,⟨⟨rfl,rfl,tv⟩,(t78 _ _),hp,tv,(fun i1=>tv)⟩,tv,tv,tv,tv,tv,tv⟩ ?_
 refine swp_seq (swp_seq ?_)
 refine sR (kt:=[1,2,6,7,22]) (kh:=[0]) (q:=True/\True/\True) (st':=ASt.mk [(1,iv m),(2,.ptr 0 []),(6,aWays (openL r (isMachine r m))),(7,iv (openE r (isMachine r m))),(22,bv !decide (openE r (isMachine r m)=0))] [(0,.cells 25 (cRun r))] 120) (by kernel_rfl) ⟨tv,tv,tv⟩ ?_
 refine swp_cond (!decide (openE r (isMachine r m)=0)) (by kernel_rfl) (fun h2 => ?_) (fun h2 => ?_)
 ·refine swp_seq ?_
  refine sR (kt:=[4,5]) (kh:=[]) (q:=True/\True/\True/\True) (st':=ASt.mk [(4,iv 0),(5,iv (openE r (isMachine r m)))] [] 144) (by kernel_rfl) ⟨tv,tv,tv,tv⟩ ?_
  refine swp_ret ?_
  exact ret_q [] ((True/\True/\True)/\((iv 0=iv (mixedS r m)/\nilN = [])/\(iv (openE r (isMachine r m))=iv (openE r (isMachine r m))/\nilN = [])/\True)/\T3) (by kernel_rfl) ⟨⟨tv,tv,tv⟩,⟨⟨(congrArg iv (o0 hp h2)),rfl⟩,⟨rfl,rfl⟩,tv⟩,rfl,rfl,rfl⟩
 ·refine swp_skip (swp_seq ?_)
  refine sR (kt:=[1,2,6,8,9]) (kh:=[0]) (q:=True/\True/\True) (st':=ASt.mk [(1,iv m),(2,.ptr 0 []),(6,aWays (openL r (isMachine r m))),(8,iv 0),(9,iv 0)] [(0,.cells 25 (cRun r))] 136) (by kernel_rfl) ⟨tv,tv,tv⟩ ?_
  refine swp_seq (swp_seq ?_)
  refine sR (kt:=[1,2,6,8,9,24,25,26]) (kh:=[0]) (q:=True/\True/\True/\True) (st':=ASt.mk [(1,iv m),(2,.ptr 0 []),(6,aWays (openL r (isMachine r m))),(8,iv 0),(9,iv 0),(24,aWays (openL r (isMachine r m))),(25,iv (↑((openL r (isMachine r m)).length):Int)),(26,iv 0)] [(0,.cells 25 (cRun r))] 160) (by kernel_rfl) ⟨tv,tv,tv,tv⟩ ?_
  refine swp_block ?_
  refine swp_loopA (Hint.ann (h65 r m) [(1,iv m),(2,AV.ptr 0 []),(6,aWays (openL r (isMachine r m))),(24,aWays (openL r (isMachine r m))),(25,iv (↑((openL r (isMachine r m)).length):Int))] [(0,OB.cells 25 (cRun r))] 10160) (ent_q hE [] [(0,.same 0)] [1,6,24,25] [0] (((iv m=iv m/\true=true)/\(some (Src.same 0)=some (Src.same 0)/\nilP = [])/\(aWays (openL r (isMachine r m))=aWays (openL r (isMachine r m))/\true=true)/\(aWays (openL r (isMachine r m))=aWays (openL r (isMachine r m))/\true=true)/\(iv (↑((openL r (isMachine r m)).length):Int)=iv (↑((openL r (isMachine r m)).length):Int)/\true=true)/\(iv 0=iv (↑(cnt (openL r (isMachine r m)) (mxSo r m.toNat) 0):Int)/\nilN = [])/\(iv 0=iv (↑(cnt (openL r (isMachine r m)) (mxNot r m.toNat) 0):Int)/\nilN = [])/\(iv 0=iv (↑0:Int)/\nilN = [])/\True)/\((OB.cells 25 (cRun r)=OB.cells 25 (cRun r)/\true=true)/\True)/\T2) (by kernel_rfl) (by kernel_rfl) ⟨⟨⟨rfl,rfl⟩,⟨rfl,rfl⟩,⟨rfl,rfl⟩,⟨rfl,rfl⟩,⟨rfl,rfl⟩,⟨(congrArg iv (o1 hp h2)),rfl⟩,⟨(congrArg iv (o2 hp h2)),rfl⟩,⟨(congrArg iv (o3 hp h2)),rfl⟩,tv⟩,⟨⟨rfl,rfl⟩,tv⟩,rfl,rfl⟩) (o4 hp h2) (fun (x3:Nat) hx3 => ?_)
  refine swp_seq ?_
  refine sR (kt:=[1,2,6,24,25,8,9,26,27]) (kh:=[0]) (q:=True/\True) (st':=ASt.mk [(1,iv m),(2,.ptr 0 []),(6,aWays (openL r (isMachine r m))),(24,aWays (openL r (isMachine r m))),(25,iv (↑((openL r (isMachine r m)).length):Int)),(8,iv (↑(cnt (openL r (isMachine r m)) (mxSo r m.toNat) x3):Int)),(9,iv (↑(cnt (openL r (isMachine r m)) (mxNot r m.toNat) x3):Int)),(26,iv (x3:Int)),(27,bv (decide ((x3:Int) < (↑((openL r (isMachine r m)).length):Int))))] [(0,.cells 25 (cRun r))] 10168) (by kernel_rfl) ⟨tv,tv⟩ ?_
  refine swp_seq ?_
  refine swp_cond (decide ((x3:Int) < (↑((openL r (isMachine r m)).length):Int))) (by kernel_rfl) (fun h4 => ?_) (fun h4 => ?_)
  ·refine swp_skip (swp_seq (swp_block (swp_seq ?_)))
   refine sR (kt:=[1,2,6,24,25,8,9,26,11]) (kh:=[0,10184]) (q:=(0<=(x3:Int)/\(x3:Int) < (↑((openL r (isMachine r m)).length):Int))/\True/\True/\True/\True) (st':=ASt.mk [(1,iv m),(2,.ptr 0 []),(6,aWays (openL r (isMachine r m))),(24,aWays (openL r (isMachine r m))),(25,iv (↑((openL r (isMachine r m)).length):Int)),(8,iv (↑(cnt (openL r (isMachine r m)) (mxSo r m.toNat) x3):Int)),(9,iv (↑(cnt (openL r (isMachine r m)) (mxNot r m.toNat) x3):Int)),(26,iv (x3:Int)),(11,.ptr 10184 [])] [(0,.cells 25 (cRun r)),(10184,.cells 107 (cWay ((openL r (isMachine r m)).getD x3 default)))] 10200) (by kernel_rfl) ⟨⟨(o5 hp h2 x3 hx3 h4),(o6 hp h2 x3 hx3 h4)⟩,tv,tv,tv,tv⟩ ?_
   refine swp_seq ?_
   refine swp_region T0_ok mixed (cs:=[(4,CallSpec.eq (c65 r m x3) [true,false,false])]) (kt:=[1,2,6,24,25,8,9,26,12]) (kh:=[0,10240]) (q:=True/\True/\True/\True/\((AV.agg (cWay ((openL r (isMachine r m)).getD x3 default))=AV.agg (cWay ((openL r (isMachine r m)).getD x3 default))/\iv m=iv (↑(m.toNat):Int)/\iv r.plates=iv (↑(r.plates.toNat):Int)/\True)/\Triple Try.prog 108 (c65 r m x3)/\(wb ((openL r (isMachine r m)).getD x3 default)/\m.toNat < 3/\1<=r.plates.toNat/\r.plates.toNat<=3)/\True /\ ∀ (i5:Env),True)/\True/\True/\True) (st':=ASt.mk [(1,iv m),(2,.ptr 0 []),(6,aWays (openL r (isMachine r m))),(24,aWays (openL r (isMachine r m))),(25,iv (↑((openL r (isMachine r m)).length):Int)),(8,iv (↑(cnt (openL r (isMachine r m)) (mxSo r m.toNat) x3):Int)),(9,iv (↑(cnt (openL r (isMachine r m)) (mxNot r m.toNat) x3):Int)),(26,iv (x3:Int)),(12,.ptr 10240 [])] [(0,.cells 25 (cRun r)),(10240,.cells 37 (cSpan (spread (((openL r (isMachine r m)).getD x3 default).whn m.toNat) r.plates.toNat)))] 10256) (by kernel_rfl) ⟨tv,tv,tv,tv,⟨⟨rfl,(congrArg iv (o7 hp h2 x3 hx3 h4)),(congrArg iv (o8 hp h2 x3 hx3 h4)),tv⟩,(t108 _ _ _),⟨(o9 hp h2 x3 hx3 h4),(o10 hp h2 x3 hx3 h4),(o11 hp h2 x3 hx3 h4),(o12 hp h2 x3 hx3 h4)⟩,tv,(fun i5=>tv)⟩,tv,tv,tv⟩ ?_
   refine swp_block (swp_seq ?_)
   refine sR (kt:=[1,2,6,24,25,8,9,26,12,35]) (kh:=[0,10240]) (q:=True/\True/\True/\True/\True) (st':=ASt.mk [(1,iv m),(2,.ptr 0 []),(6,aWays (openL r (isMachine r m))),(24,aWays (openL r (isMachine r m))),(25,iv (↑((openL r (isMachine r m)).length):Int)),(8,iv (↑(cnt (openL r (isMachine r m)) (mxSo r m.toNat) x3):Int)),(9,iv (↑(cnt (openL r (isMachine r m)) (mxNot r m.toNat) x3):Int)),(26,iv (x3:Int)),(12,.ptr 10240 []),(35,bv (decide (0 < (spread (((openL r (isMachine r m)).getD x3 default).whn m.toNat) r.plates.toNat).lo)))] [(0,.cells 25 (cRun r)),(10240,.cells 37 (cSpan (spread (((openL r (isMachine r m)).getD x3 default).whn m.toNat) r.plates.toNat)))] 10288) (by kernel_rfl) ⟨tv,tv,tv,tv,tv⟩ ?_
   refine swp_cond (decide (0 < (spread (((openL r (isMachine r m)).getD x3 default).whn m.toNat) r.plates.toNat).lo)) (by kernel_rfl) (fun h6 => ?_) (fun h6 => ?_)
   ·refine sR (kt:=[1,2,6,24,25,8,9,26]) (kh:=[0]) (q:=True/\inI ((↑(cnt (openL r (isMachine r m)) (mxSo r m.toNat) x3):Int) + 1)/\True/\True) (st':=ASt.mk [(1,iv m),(2,.ptr 0 []),(6,aWays (openL r (isMachine r m))),(24,aWays (openL r (isMachine r m))),(25,iv (↑((openL r (isMachine r m)).length):Int)),(8,iv ((↑(cnt (openL r (isMachine r m)) (mxSo r m.toNat) x3):Int) + 1)),(9,iv (↑(cnt (openL r (isMachine r m)) (mxNot r m.toNat) x3):Int)),(26,iv (x3:Int))] [(0,.cells 25 (cRun r))] 10312) (by kernel_rfl) ⟨tv,(o13 hp h2 x3 hx3 h4 h6),tv,tv⟩ ?_
    refine sR (kt:=[1,2,6,24,25,8,9,26]) (kh:=[0]) (q:=inI ((x3:Int) + 1)/\True/\True) (st':=ASt.mk [(1,iv m),(2,.ptr 0 []),(6,aWays (openL r (isMachine r m))),(24,aWays (openL r (isMachine r m))),(25,iv (↑((openL r (isMachine r m)).length):Int)),(8,iv ((↑(cnt (openL r (isMachine r m)) (mxSo r m.toNat) x3):Int) + 1)),(9,iv (↑(cnt (openL r (isMachine r m)) (mxNot r m.toNat) x3):Int)),(26,iv ((x3:Int) + 1))] [(0,.cells 25 (cRun r))] 10328) (by kernel_rfl) ⟨(o14 hp h2 x3 hx3 h4 h6),tv,tv⟩ ?_
    exact loop_next (Hint.ann (h65 r m) [(1,iv m),(2,AV.ptr 0 []),(6,aWays (openL r (isMachine r m))),(24,aWays (openL r (isMachine r m))),(25,iv (↑((openL r (isMachine r m)).length):Int))] [(0,OB.cells 25 (cRun r))] 10160) x3 (ent_q hE [] [(0,.same 0)] [1,6,24,25] [0] (((iv m=iv m/\true=true)/\(some (Src.same 0)=some (Src.same 0)/\nilP = [])/\(aWays (openL r (isMachine r m))=aWays (openL r (isMachine r m))/\true=true)/\(aWays (openL r (isMachine r m))=aWays (openL r (isMachine r m))/\true=true)/\(iv (↑((openL r (isMachine r m)).length):Int)=iv (↑((openL r (isMachine r m)).length):Int)/\true=true)/\(iv ((↑(cnt (openL r (isMachine r m)) (mxSo r m.toNat) x3):Int) + 1)=iv (↑(cnt (openL r (isMachine r m)) (mxSo r m.toNat) (x3 + 1)):Int)/\nilN = [])/\(iv (↑(cnt (openL r (isMachine r m)) (mxNot r m.toNat) x3):Int)=iv (↑(cnt (openL r (isMachine r m)) (mxNot r m.toNat) (x3 + 1)):Int)/\nilN = [])/\(iv ((x3:Int) + 1)=iv (↑(x3 + 1):Int)/\nilN = [])/\True)/\((OB.cells 25 (cRun r)=OB.cells 25 (cRun r)/\true=true)/\True)/\T2) (by kernel_rfl) (by kernel_rfl) ⟨⟨⟨rfl,rfl⟩,⟨rfl,rfl⟩,⟨rfl,rfl⟩,⟨rfl,rfl⟩,⟨rfl,rfl⟩,⟨(congrArg iv (o15 hp h2 x3 hx3 h4 h6)),rfl⟩,⟨(congrArg iv (o16 hp h2 x3 hx3 h4 h6)),rfl⟩,⟨(congrArg iv (o17 hp h2 x3 hx3 h4 h6)),rfl⟩,tv⟩,⟨⟨rfl,rfl⟩,tv⟩,rfl,rfl⟩) (o18 hp h2 x3 hx3 h4 h6) (o19 hp h2 x3 hx3 h4 h6)
   ·refine swp_seq ?_
    refine sR (kt:=[1,2,6,24,25,8,9,26,41]) (kh:=[0]) (q:=True/\True/\True/\True/\True) (st':=ASt.mk [(1,iv m),(2,.ptr 0 []),(6,aWays (openL r (isMachine r m))),(24,aWays (openL r (isMachine r m))),(25,iv (↑((openL r (isMachine r m)).length):Int)),(8,iv (↑(cnt (openL r (isMachine r m)) (mxSo r m.toNat) x3):Int)),(9,iv (↑(cnt (openL r (isMachine r m)) (mxNot r m.toNat) x3):Int)),(26,iv (x3:Int)),(41,bv (decide ((spread (((openL r (isMachine r m)).getD x3 default).whn m.toNat) r.plates.toNat).hi=0)))] [(0,.cells 25 (cRun r))] 10320) (by kernel_rfl) ⟨tv,tv,tv,tv,tv⟩ ?_
    refine swp_cond (decide ((spread (((openL r (isMachine r m)).getD x3 default).whn m.toNat) r.plates.toNat).hi=0)) (by kernel_rfl) (fun h7 => ?_) (fun h7 => ?_)
    ·refine sR (kt:=[1,2,6,24,25,8,9,26]) (kh:=[0]) (q:=True/\inI ((↑(cnt (openL r (isMachine r m)) (mxNot r m.toNat) x3):Int) + 1)/\True/\True) (st':=ASt.mk [(1,iv m),(2,.ptr 0 []),(6,aWays (openL r (isMachine r m))),(24,aWays (openL r (isMachine r m))),(25,iv (↑((openL r (isMachine r m)).length):Int)),(8,iv (↑(cnt (openL r (isMachine r m)) (mxSo r m.toNat) x3):Int)),(9,iv ((↑(cnt (openL r (isMachine r m)) (mxNot r m.toNat) x3):Int) + 1)),(26,iv (x3:Int))] [(0,.cells 25 (cRun r))] 10344) (by kernel_rfl) ⟨tv,(o20 hp h2 x3 hx3 h4 h6 h7),tv,tv⟩ ?_
     refine sR (kt:=[1,2,6,24,25,8,9,26]) (kh:=[0]) (q:=inI ((x3:Int) + 1)/\True/\True) (st':=ASt.mk [(1,iv m),(2,.ptr 0 []),(6,aWays (openL r (isMachine r m))),(24,aWays (openL r (isMachine r m))),(25,iv (↑((openL r (isMachine r m)).length):Int)),(8,iv (↑(cnt (openL r (isMachine r m)) (mxSo r m.toNat) x3):Int)),(9,iv ((↑(cnt (openL r (isMachine r m)) (mxNot r m.toNat) x3):Int) + 1)),(26,iv ((x3:Int) + 1))] [(0,.cells 25 (cRun r))] 10360) (by kernel_rfl) ⟨(o21 hp h2 x3 hx3 h4 h6 h7),tv,tv⟩ ?_
     exact loop_next (Hint.ann (h65 r m) [(1,iv m),(2,AV.ptr 0 []),(6,aWays (openL r (isMachine r m))),(24,aWays (openL r (isMachine r m))),(25,iv (↑((openL r (isMachine r m)).length):Int))] [(0,OB.cells 25 (cRun r))] 10160) x3 (ent_q hE [] [(0,.same 0)] [1,6,24,25] [0] (((iv m=iv m/\true=true)/\(some (Src.same 0)=some (Src.same 0)/\nilP = [])/\(aWays (openL r (isMachine r m))=aWays (openL r (isMachine r m))/\true=true)/\(aWays (openL r (isMachine r m))=aWays (openL r (isMachine r m))/\true=true)/\(iv (↑((openL r (isMachine r m)).length):Int)=iv (↑((openL r (isMachine r m)).length):Int)/\true=true)/\(iv (↑(cnt (openL r (isMachine r m)) (mxSo r m.toNat) x3):Int)=iv (↑(cnt (openL r (isMachine r m)) (mxSo r m.toNat) (x3 + 1)):Int)/\nilN = [])/\(iv ((↑(cnt (openL r (isMachine r m)) (mxNot r m.toNat) x3):Int) + 1)=iv (↑(cnt (openL r (isMachine r m)) (mxNot r m.toNat) (x3 + 1)):Int)/\nilN = [])/\(iv ((x3:Int) + 1)=iv (↑(x3 + 1):Int)/\nilN = [])/\True)/\((OB.cells 25 (cRun r)=OB.cells 25 (cRun r)/\true=true)/\True)/\T2) (by kernel_rfl) (by kernel_rfl) ⟨⟨⟨rfl,rfl⟩,⟨rfl,rfl⟩,⟨rfl,rfl⟩,⟨rfl,rfl⟩,⟨rfl,rfl⟩,⟨(congrArg iv (o22 hp h2 x3 hx3 h4 h6 h7)),rfl⟩,⟨(congrArg iv (o23 hp h2 x3 hx3 h4 h6 h7)),rfl⟩,⟨(congrArg iv (o24 hp h2 x3 hx3 h4 h6 h7)),rfl⟩,tv⟩,⟨⟨rfl,rfl⟩,tv⟩,rfl,rfl⟩) (o25 hp h2 x3 hx3 h4 h6 h7) (o26 hp h2 x3 hx3 h4 h6 h7)
    ·refine swp_skip ?_
     refine sR (kt:=[1,2,6,24,25,8,9,26]) (kh:=[0]) (q:=inI ((x3:Int) + 1)/\True/\True) (st':=ASt.mk [(1,iv m),(2,.ptr 0 []),(6,aWays (openL r (isMachine r m))),(24,aWays (openL r (isMachine r m))),(25,iv (↑((openL r (isMachine r m)).length):Int)),(8,iv (↑(cnt (openL r (isMachine r m)) (mxSo r m.toNat) x3):Int)),(9,iv (↑(cnt (openL r (isMachine r m)) (mxNot r m.toNat) x3):Int)),(26,iv ((x3:Int) + 1))] [(0,.cells 25 (cRun r))] 10336) (by kernel_rfl) ⟨(o27 hp h2 x3 hx3 h4 h6 h7),tv,tv⟩ ?_
     exact loop_next (Hint.ann (h65 r m) [(1,iv m),(2,AV.ptr 0 []),(6,aWays (openL r (isMachine r m))),(24,aWays (openL r (isMachine r m))),(25,iv (↑((openL r (isMachine r m)).length):Int))] [(0,OB.cells 25 (cRun r))] 10160) x3 (ent_q hE [] [(0,.same 0)] [1,6,24,25] [0] (((iv m=iv m/\true=true)/\(some (Src.same 0)=some (Src.same 0)/\nilP = [])/\(aWays (openL r (isMachine r m))=aWays (openL r (isMachine r m))/\true=true)/\(aWays (openL r (isMachine r m))=aWays (openL r (isMachine r m))/\true=true)/\(iv (↑((openL r (isMachine r m)).length):Int)=iv (↑((openL r (isMachine r m)).length):Int)/\true=true)/\(iv (↑(cnt (openL r (isMachine r m)) (mxSo r m.toNat) x3):Int)=iv (↑(cnt (openL r (isMachine r m)) (mxSo r m.toNat) (x3 + 1)):Int)/\nilN = [])/\(iv (↑(cnt (openL r (isMachine r m)) (mxNot r m.toNat) x3):Int)=iv (↑(cnt (openL r (isMachine r m)) (mxNot r m.toNat) (x3 + 1)):Int)/\nilN = [])/\(iv ((x3:Int) + 1)=iv (↑(x3 + 1):Int)/\nilN = [])/\True)/\((OB.cells 25 (cRun r)=OB.cells 25 (cRun r)/\true=true)/\True)/\T2) (by kernel_rfl) (by kernel_rfl) ⟨⟨⟨rfl,rfl⟩,⟨rfl,rfl⟩,⟨rfl,rfl⟩,⟨rfl,rfl⟩,⟨rfl,rfl⟩,⟨(congrArg iv (o28 hp h2 x3 hx3 h4 h6 h7)),rfl⟩,⟨(congrArg iv (o29 hp h2 x3 hx3 h4 h6 h7)),rfl⟩,⟨(congrArg iv (o30 hp h2 x3 hx3 h4 h6 h7)),rfl⟩,tv⟩,⟨⟨rfl,rfl⟩,tv⟩,rfl,rfl⟩) (o31 hp h2 x3 hx3 h4 h6 h7) (o32 hp h2 x3 hx3 h4 h6 h7)
  ·refine swp_exit (swp_seq ?_)
   refine swp_region T0_ok mixed (cs:=[(4,CallSpec.eq (s86 (↑(cnt (openL r (isMachine r m)) (mxSo r m.toNat) x3):Int) (↑(cnt (openL r (isMachine r m)) (mxNot r m.toNat) x3):Int) (↑((openL r (isMachine r m)).length):Int)) [true,true,true])]) (kt:=[4,5]) (kh:=[]) (q:=True/\True/\True/\True/\((iv (↑(cnt (openL r (isMachine r m)) (mxSo r m.toNat) x3):Int)=iv (↑(cnt (openL r (isMachine r m)) (mxSo r m.toNat) x3):Int)/\iv (↑(cnt (openL r (isMachine r m)) (mxNot r m.toNat) x3):Int)=iv (↑(cnt (openL r (isMachine r m)) (mxNot r m.toNat) x3):Int)/\iv (↑((openL r (isMachine r m)).length):Int)=iv (↑((openL r (isMachine r m)).length):Int)/\True)/\Triple Try.prog 86 (s86 (↑(cnt (openL r (isMachine r m)) (mxSo r m.toNat) x3):Int) (↑(cnt (openL r (isMachine r m)) (mxNot r m.toNat) x3):Int) (↑((openL r (isMachine r m)).length):Int))/\True/\True /\ ∀ (i8:Env),True)/\True/\True/\True) (st':=ASt.mk [(4,iv (known3 (↑(cnt (openL r (isMachine r m)) (mxSo r m.toNat) x3):Int) (↑(cnt (openL r (isMachine r m)) (mxNot r m.toNat) x3):Int) (↑((openL r (isMachine r m)).length):Int))),(5,iv 0)] [] 10224) (by kernel_rfl) ⟨tv,tv,tv,tv,⟨⟨rfl,rfl,rfl,tv⟩,(t86 ((↑(cnt (openL r (isMachine r m)) (mxSo r m.toNat) x3):Int)) ((↑(cnt (openL r (isMachine r m)) (mxNot r m.toNat) x3):Int)) ((↑((openL r (isMachine r m)).length):Int))),tv,tv,(fun i8=>tv)⟩,tv,tv,tv⟩ ?_
   refine swp_ret ?_
   exact ret_q [] ((True/\True/\True)/\((iv (known3 (↑(cnt (openL r (isMachine r m)) (mxSo r m.toNat) x3):Int) (↑(cnt (openL r (isMachine r m)) (mxNot r m.toNat) x3):Int) (↑((openL r (isMachine r m)).length):Int))=iv (mixedS r m)/\nilN = [])/\(iv 0=iv (openE r (isMachine r m))/\nilN = [])/\True)/\T3) (by kernel_rfl) ⟨⟨tv,tv,tv⟩,⟨⟨(congrArg iv (o33 hp h2 x3 hx3 h4)),rfl⟩,⟨(congrArg iv (o34 hp h2 x3 hx3 h4)),rfl⟩,tv⟩,rfl,rfl,rfl⟩
theorem t65 (r:Run) (m:Int):Triple Try.prog 65 (s65 r m):=by
 apply w65
 case o0=>intro _ h; rw [mixedS,if_neg (openBad h)]
 all_goals (first | (((repeat intro _) <;> (try simp only [v0,v1,v2,v3,v4,v5,v6,v7,v8,v9,inI,fits,Go.Sh.small] at *) <;> first | (exact rfl) | omega | exact vz | (simp_all; done) | (simp_all; omega))) | (
  intro _ h
  have F:=openF h
  first | exact F.zero.symm | (intro _ _ _; exact F.zero.symm) | (
   intro x hx hl
   simp only [decide_eq_true_eq,decide_eq_false_iff_not] at hl
   have h1:=machIs_ok F.isT
   have h4:=F.len
   have h7:=F.ok.machines
   have h8:=F.ok.plates
   have h5:=cnt_le (openL r (isMachine r m)) (mxSo r m.toNat) x
   have h6:=cnt_le (openL r (isMachine r m)) (mxNot r m.toNat) x
   first
   | omega
   | exact F.wb _ (getD_mem _ default (by omega))
   | ((repeat intro _); simp only [inI]; omega)
   | (intro e; exact cnt_t (by omega) e)
   | (intro e; exact cnt_f (by omega) e)
   | (intro e; exact cnt_f (by omega) (mxNot_t e))
   | (intro e e2; exact cnt_f (by omega) e)
   | (intro e e2; exact cnt_t (by omega) (mxNot_f e e2))
   | (intro e e2; exact cnt_f (by omega) (mxNot_f e e2))
   | (show _=mixedS r m; rw [mixedS,if_pos F.zero,show x=(openL r (isMachine r m)).length by omega,F.eq]))))
end Go.Ab
namespace Go.Sh
def rfE (r:Run) (is:Bool):Int:=if check r=0 then (if is then (if (fromsOf r).length=0 then 3 else 0) else 1) else 60
def rfL (r:Run) (is:Bool):List (List Int):=if rfE r is=0 then fromsOf r else []
theorem choicesN_frm {r:Run}:∀ k first l,first.length + k<=r.found.length->l ∈ choicesN r k first->(∀ i,i < first.length->l.getD i 0=first.getD i 0) /\ ∀ i,first.length<=i->i < first.length + k->l.getD i 0 ∈ (fnd r i).frm:=by
 intro k
 induction k with
 | zero=>intro first l _ h; simp [choicesN] at h; rw [h]; exact ⟨fun _ _=>rfl,fun i h1 h2=>by omega⟩
 | succ k ih =>
  intro first l hk h
  rw [choicesN,List.mem_flatMap] at h
  obtain ⟨m,hm,h⟩:=h
  obtain ⟨h1,h2⟩:=ih (first ++ [m]) l (by simp; omega) h
  simp only [List.length_append,List.length_cons,List.length_nil] at h1 h2
  refine ⟨fun i hi => ?_,fun i h3 h4 => ?_⟩
  ·rw [h1 i (by omega),Go.Ab.getD_append,if_pos hi]
  ·by_cases e:i=first.length
   ·subst e
    rw [h1 first.length (by omega),Go.Ab.getD_append,if_neg (Nat.lt_irrefl _),Nat.sub_self]
    exact hm
   ·exact h2 i (by omega) (by omega)
theorem fromsOf_frm {r:Run} {l:List Int} (h:l ∈ fromsOf r) {i:Nat} (hi:i < r.found.length):l.getD i 0 ∈ (fnd r i).frm :=
 (choicesN_frm _ [] l (by simp) (List.mem_filter.1 h).1).2 i (Nat.zero_le _) (by simpa using hi)
theorem frm_range {r:Run} (ok:Ok r) {i:Nat} (hi:i < r.found.length) {x:Int} (h:x ∈ (fnd r i).frm):0<=x/\x < r.machines.length:=by
 obtain ⟨k,hk,e⟩:=List.getElem_of_mem h
 have h2:=ok.frm i hi k hk
 rw [Go.Ab.getD_lt _ _ hk,e] at h2
 exact h2
structure KnowF (r:Run) (is:Bool):Prop where
 zero:rfE r is=0
 okb:okRun r=true
 ok:Ok r
 isT:is=true
 eq:rfL r is=fromsOf r
 pos:0 < (rfL r is).length
 len:(rfL r is).length<=729
 frm:∀ x,x < (rfL r is).length->((rfL r is).getD x []).length=r.found.length
 mach:∀ x,x < (rfL r is).length -> ∀ i,i < r.found.length->0<=((rfL r is).getD x []).getD i 0/\((rfL r is).getD x []).getD i 0 < r.machines.length/\r.machines.length<=3
theorem rfE_zero {r:Run} {is:Bool} (h:rfE r is=0):check r=0/\is=true/\0 < (fromsOf r).length:=by
 unfold rfE at h
 split at h
 ·split at h
  ·split at h
   ·cases h
   ·rename_i h1 h2 h3; exact ⟨h1,h2,by omega⟩
  ·cases h
 ·cases h
def rhullTo (l:List (List Int)) (F:List Int->Span) (n:Nat):Span:=(List.range n).foldl (fun o i=>hull2 o (F (l.getD i []))) (F (l.getD 0 []))
def rhull (l:List (List Int)) (F:List Int->Span):Span:=rhullTo l F l.length
theorem rhullTo_succ (l:List (List Int)) (F:List Int->Span) (n:Nat):rhullTo l F (n + 1)=hull2 (rhullTo l F n) (F (l.getD n [])):=Go.Ab.foldl_range_succ _ _ _
def whenR (r:Run) (m p:Int):Span:=if rfE r (whenIs r m p)=0 then rhull (fromsOf r) (fun l=>spanOf r l m.toNat p.toNat) else ⟨0,0⟩
def anyF (l:List (List Int)) (f m n:Nat):Bool:=(l.take n).any (fun x=>decide (x.getD f 0=(m:Int)))
def whTo (l:List (List Int)) (f n:Nat):List Int:=((List.range n).filter (fun m=>anyF l f m l.length)).map (fun m:Nat=>(m:Int))
def whereOf (r:Run) (l:List (List Int)) (f:Nat):List Int:=whTo l f r.machines.length
def whereR (r:Run) (f:Int):List Int:=if rfE r (isFound r f)=0 then whereOf r (fromsOf r) f.toNat else []
def cntL (l:List (List Int)) (P:List Int->Bool) (n:Nat):Nat:=(l.take n).countP P
def smL (a b:Nat) (x:List Int):Bool:=decide (x.getD a 0=x.getD b 0)
def sameR (r:Run) (a b:Int):Int:=if rfE r (sameIs r a b)=0 then knownOf (cntL (fromsOf r) (smL a.toNat b.toNat) (fromsOf r).length) (fromsOf r).length else 0
def usedTo (l:List Int) (n:Nat):Nat:=(List.range n).countP (fun m:Nat=>isIn l (m:Int))
theorem usedTo_t {l:List Int} {n:Nat} (h:isIn l (n:Int)=true):(usedTo l n:Int) + 1=usedTo l (n + 1):=by
 unfold usedTo; rw [List.range_succ,List.countP_append,List.countP_singleton,h]; rfl
theorem usedTo_f {l:List Int} {n:Nat} (h:isIn l (n:Int)=false):(usedTo l n:Int)=usedTo l (n + 1):=by
 unfold usedTo; rw [List.range_succ,List.countP_append,List.countP_singleton,h]; rfl
theorem usedTo_le (l:List Int) (n:Nat):usedTo l n<=n:=by
 unfold usedTo; exact Nat.le_trans List.countP_le_length (by simp)
def fewTo (r:Run) (l:List (List Int)) (n:Nat):Int:=(List.range n).foldl (fun o i=>min o (usedTo (l.getD i []) r.machines.length:Int)) r.machines.length
theorem fewTo_succ (r:Run) (l:List (List Int)) (n:Nat):fewTo r l (n + 1)=min (fewTo r l n) (usedTo (l.getD n []) r.machines.length:Int):=Go.Ab.foldl_range_succ _ _ _
def fewR (r:Run):Int:=if rfE r true=0 then fewTo r (fromsOf r) (fromsOf r).length else 0
def oldL (r:Run) (p:Nat) (l:List Int):Span:=sumTo r (fun m=>spanOf r l m p) r.machines.length
def oldR (r:Run) (p:Int):Span:=if rfE r (isPlate r p)=0 then rhull (fromsOf r) (oldL r p.toNat) else ⟨0,0⟩
def minIn (g:Nat->Span) (i:Nat) (o:Span) (k:Nat):Span:=(List.range k).foldl (fun o q=>if i=q then o else ⟨max o.lo ((g i).lo - (g q).hi),max o.hi ((g i).hi - (g q).lo)⟩) o
def minTo (g:Nat->Span) (n i:Nat):Span:=(List.range i).foldl (fun o p=>minIn g p o n) ⟨0,0⟩
def minutes (g:Nat->Span) (n:Nat):Span:=minTo g n n
def mixL (r:Run) (l:List Int):Span:=sumTo r (fun m=>minutes (spanOf r l m) r.plates.toNat) r.machines.length
def nvTo (r:Run) (l:List (List Int)) (m n:Nat):Bool:=(l.take n).all (fun x=>decide ((minutes (spanOf r x m) r.plates.toNat).hi=0))
def suTo (r:Run) (l:List (List Int)) (m n:Nat):Bool:=(l.take n).all (fun x=>decide ((minutes (spanOf r x m) r.plates.toNat).lo > 0))
def mixedR (r:Run) (m:Int):Int:=if rfE r (isMachine r m)=0 then (if suTo r (fromsOf r) m.toNat (fromsOf r).length then 1 else if nvTo r (fromsOf r) m.toNat (fromsOf r).length then 2 else 3) else 0
def skipL (f:Nat) (m:Int) (x:List Int):Bool:=decide (0<=m) && !decide (x.getD f 0=m)
def allStep (r:Run) (l:List (List Int)) (f:Nat) (m:Int) (s:Bool × Span) (i:Nat):Bool × Span:=if skipL f m (l.getD i []) then s else (true,if s.1 then hull2 s.2 (mixL r (l.getD i [])) else mixL r (l.getD i []))
def allTo (r:Run) (l:List (List Int)) (f:Nat) (m:Int) (n:Nat):Bool × Span:=(List.range n).foldl (allStep r l f m) (false,⟨0,0⟩)
@[reducible] def bb (s:Span):Prop:=0<=s.lo/\s.lo<=27000/\0<=s.hi/\s.hi<=27000
def rdL (r:Run) (f p:Nat) (x:List Int):Span:=spanOf r x (x.getD f 0).toNat p
def oldTo (r:Run) (l:List (List Int)) (f p n:Nat):Bool:=(l.take n).any (fun x=>decide ((rdL r f p x).hi > (fnd r f).minute))
def newTo (r:Run) (l:List (List Int)) (f p n:Nat):Bool:=(l.take n).any (fun x=>decide ((rdL r f p x).lo<=(fnd r f).minute))
def readR (r:Run) (f p:Int):Int:=if rfE r (readIs r f p)=0 then (if oldTo r (fromsOf r) f.toNat p.toNat (fromsOf r).length then (if newTo r (fromsOf r) f.toNat p.toNat (fromsOf r).length then 3 else 2) else 1) else 0
structure Trth where
 minutes:List (List Int)
 frm:List Int
 deriving DecidableEq,Inhabited
def tmin (t:Trth) (m:Nat):List Int:=t.minutes.getD m []
def tAt (t:Trth) (m p:Nat):Int:=(tmin t m).getD p 0
def tfits (t:Trth):Prop:=t.minutes.length<=1125899906842624/\t.frm.length<=1125899906842624 /\ ∀ m,(tmin t m).length<=1125899906842624
def trM1 (r:Run) (t:Trth) (m p:Nat):Bool:=within (tAt t m p) (chg (mach r m) p).lo (chg (mach r m) p).hi
def trM (r:Run) (t:Trth) (m:Nat):Bool:=decide (((tmin t m).length:Int)=r.plates) && (List.range r.plates.toNat).all (trM1 r t m)
def trF1 (r:Run) (t:Trth) (i p:Nat):Bool:=decide ((fnd r i).new.getD p 0 = -1) || (decide ((fnd r i).new.getD p 0=1) == decide (tAt t (t.frm.getD i 0).toNat p<=(fnd r i).minute))
def trF (r:Run) (t:Trth) (i:Nat):Bool:=isIn (fnd r i).frm (t.frm.getD i 0) && (List.range r.plates.toNat).all (trF1 r t i)
def trHead (r:Run) (t:Trth):Bool:=decide (t.minutes.length=r.machines.length) && decide (t.frm.length=r.found.length)
def isTruth (r:Run) (t:Trth):Bool:=trHead r t && ((List.range r.machines.length).all (trM r t) && (List.range r.found.length).all (trF r t))
theorem trHead_bad {r:Run} {t:Trth} (h:trHead r t=false):isTruth r t=false:=by simp [isTruth,h]
theorem trM_bad {r:Run} {t:Trth} {m:Nat} (hm:m < r.machines.length) (h:trM r t m=false):isTruth r t=false:=by
 have:(List.range r.machines.length).all (trM r t)=false:=by
  rw [List.all_eq_false]; exact ⟨m,List.mem_range.2 hm,by simp [h]⟩
 simp [isTruth,this]
theorem trF_bad {r:Run} {t:Trth} {i:Nat} (hi:i < r.found.length) (h:trF r t i=false):isTruth r t=false:=by
 have:(List.range r.found.length).all (trF r t)=false:=by
  rw [List.all_eq_false]; exact ⟨i,List.mem_range.2 hi,by simp [h]⟩
 simp [isTruth,this]
theorem trM_len {r:Run} {t:Trth} {m:Nat} (h:¬ ((tmin t m).length:Int)=r.plates):trM r t m=false:=by simp [trM,h]
theorem trM_one {r:Run} {t:Trth} {m p:Nat} (hp:(p:Int) < r.plates) (h:trM1 r t m p=false):trM r t m=false:=by
 have:(List.range r.plates.toNat).all (trM1 r t m)=false:=by
  rw [List.all_eq_false]; exact ⟨p,List.mem_range.2 (by omega),by simp [h]⟩
 simp [trM,this]
theorem trF_in {r:Run} {t:Trth} {i:Nat} (h:isIn (fnd r i).frm (t.frm.getD i 0)=false):trF r t i=false:=by rw [trF,h,Bool.false_and]
theorem trF_one {r:Run} {t:Trth} {i p:Nat} (hp:(p:Int) < r.plates) (h:trF1 r t i p=false):trF r t i=false:=by
 have:(List.range r.plates.toNat).all (trF1 r t i)=false:=by
  rw [List.all_eq_false]; exact ⟨p,List.mem_range.2 (by omega),by rw [h]; exact Bool.false_ne_true⟩
 rw [trF,this,Bool.and_false]
theorem isTruth_of {r:Run} {t:Trth} (h:trHead r t=true) (h1:∀ j,j < r.machines.length->trM r t j=true) (h2:∀ j,j < r.found.length->trF r t j=true):isTruth r t=true:=by
 rw [isTruth,h,all_range h1,all_range h2]; rfl
theorem trM_of {r:Run} {t:Trth} {m:Nat} (h:((tmin t m).length:Int)=r.plates) (h1:∀ j,j < r.plates.toNat->trM1 r t m j=true):trM r t m=true:=by
 rw [trM,all_range h1,Bool.and_true]; exact decide_eq_true h
theorem trF_of {r:Run} {t:Trth} {i:Nat} (h:isIn (fnd r i).frm (t.frm.getD i 0)=true) (h1:∀ j,j < r.plates.toNat->trF1 r t i j=true):trF r t i=true:=by
 rw [trF,all_range h1,h]; rfl
end Go.Sh
namespace Go.En
open Go Go.Ab Go.Sh
def cTrth (t:Trth):List AV:=[aIntss t.minutes,aInts t.frm]
abbrev vTrth (t:Trth):AV := .agg (cTrth t)
end Go.En
namespace Go.Ab
open Go Go.RowKit Go.Proofs Go.Sh Go.En
def h34 (r:Run) (m p:Int):Hint:={ X:=Nat,M:=fun i=>[(11,iv i),(10,.ptr 5000 [])],H:=fun i=>[(5000,.cells 37 (cSpan (rhullTo (rfL r (whenIs r m p)) (fun l=>spanOf r l m.toNat p.toNat) i)))],I:=fun i=>i<=(rfL r (whenIs r m p)).length,mu:=fun i=>(rfL r (whenIs r m p)).length - i,x0:=(0:Nat),nx:=fun i=>i + 1 }
def h39 (r:Run) (a b:Int):Hint:={ X:=Nat,M:=fun i=>[(10,iv (cntL (rfL r (sameIs r a b)) (smL a.toNat b.toNat) i)),(11,iv i)],I:=fun i=>i<=(rfL r (sameIs r a b)).length,mu:=fun i=>(rfL r (sameIs r a b)).length - i,x0:=(0:Nat),nx:=fun i=>i + 1 }
def h109 (r:Run) (l:List Int) (p:Nat):Hint:={ X:=Nat,M:=fun i=>[(8,iv i),(7,.ptr 5000 [])],H:=fun i=>[(5000,.cells 37 (cSpan (sumTo r (fun m=>spanOf r l m p) i)))],I:=fun i=>i<=r.machines.length,mu:=fun i=>r.machines.length - i,x0:=(0:Nat),nx:=fun i=>i + 1 }
def h66 (r:Run) (p:Int):Hint:={ X:=Nat,M:=fun i=>[(9,iv i),(8,.ptr 5000 [])],H:=fun i=>[(5000,.cells 37 (cSpan (rhullTo (rfL r (isPlate r p)) (oldL r p.toNat) i)))],I:=fun i=>i<=(rfL r (isPlate r p)).length,mu:=fun i=>(rfL r (isPlate r p)).length - i,x0:=(0:Nat),nx:=fun i=>i + 1 }
def h67 (r:Run) (m:Int):Hint:={ X:=Nat,M:=fun i=>[(8,bv (nvTo r (rfL r (isMachine r m)) m.toNat i)),(9,bv (suTo r (rfL r (isMachine r m)) m.toNat i)),(10,iv i)],I:=fun i=>i<=(rfL r (isMachine r m)).length,mu:=fun i=>(rfL r (isMachine r m)).length - i,x0:=(0:Nat),nx:=fun i=>i + 1 }
def h135 (r:Run) (l:List Int):Hint:={ X:=Nat,M:=fun i=>[(6,iv i),(5,.ptr 5000 [])],H:=fun i=>[(5000,.cells 37 (cSpan (sumTo r (fun m=>minutes (spanOf r l m) r.plates.toNat) i)))],I:=fun i=>i<=r.machines.length,mu:=fun i=>r.machines.length - i,x0:=(0:Nat),nx:=fun i=>i + 1 }
def h111 (r:Run) (l:List (List Int)) (f:Nat) (m:Int):Hint:={ X:=Nat,M:=fun i=>[(9,bv (allTo r l f m i).1),(11,iv i),(10,.ptr 5000 [])],H:=fun i=>[(5000,.cells 37 (cSpan (allTo r l f m i).2))],I:=fun i=>i<=l.length,mu:=fun i=>l.length - i,x0:=(0:Nat),nx:=fun i=>i + 1 }
def h32 (r:Run) (f p:Int):Hint:={ X:=Nat,M:=fun i=>[(10,bv (oldTo r (rfL r (readIs r f p)) f.toNat p.toNat i)),(11,bv (newTo r (rfL r (readIs r f p)) f.toNat p.toNat i)),(12,iv i)],I:=fun i=>i<=(rfL r (readIs r f p)).length,mu:=fun i=>(rfL r (readIs r f p)).length - i,x0:=(0:Nat),nx:=fun i=>i + 1 }
def s50 (r:Run) (t:Trth):CallSpec:={ args:=[vRun r,vTrth t],res:=bv (isTruth r t),pre:=okRun r=true/\tfits t }
def h50a (r:Run) (t:Trth):Hint:={ X:=Nat,M:=fun i=>[(5,iv i)],I:=fun i=>i<=r.machines.length /\ ∀ j,j < i->trM r t j=true,mu:=fun i=>r.machines.length - i,x0:=(0:Nat),nx:=fun i=>i + 1 }
def h50b (r:Run) (t:Trth) (m:Nat):Hint:={ X:=Nat,M:=fun i=>[(6,iv i)],I:=fun i=>i<=r.plates.toNat /\ ∀ j,j < i->trM1 r t m j=true,mu:=fun i=>r.plates.toNat - i,x0:=(0:Nat),nx:=fun i=>i + 1 }
def h50c (r:Run) (t:Trth):Hint:={ X:=Nat,M:=fun i=>[(8,iv i)],I:=fun i=>i<=r.found.length /\ ∀ j,j < i->trF r t j=true,mu:=fun i=>r.found.length - i,x0:=(0:Nat),nx:=fun i=>i + 1 }
def h50d (r:Run) (t:Trth) (f:Nat):Hint:={ X:=Nat,M:=fun i=>[(10,iv i)],I:=fun i=>i<=r.plates.toNat /\ ∀ j,j < i->trF1 r t f j=true,mu:=fun i=>r.plates.toNat - i,x0:=(0:Nat),nx:=fun i=>i + 1 }
def h70 (t:Trth):Hint:={ X:=Nat,M:=fun i=>[(4,iv i),(3,.ptr 5000 [])],H:=fun i=>[(5000,.cells 56 [.vec 5001,.vec 5002]),(5001,.vec 30 1 i (fun k=>[aInts (tmin t k)])),(5002,.vec 3 1 t.frm.length (fun k=>[iv (t.frm.getD k 0)]))],I:=fun i=>i<=t.minutes.length,mu:=fun i=>t.minutes.length - i,x0:=(0:Nat),nx:=fun i=>i + 1 }
end Go.Ab
namespace Go.Ab
open Go Go.RowKit Go.Proofs Go.Sh Go.En
abbrev q50_1 (r:Run) (t:Trth) (C:Prop):Prop:=okRun r=true/\tfits t->(bif !decide ((↑(t.minutes.length):Int)=(↑(r.machines.length):Int)) then true else !decide ((↑(t.frm.length):Int)=(↑(r.found.length):Int)))=false->C
abbrev q50_2 (r:Run) (t:Trth) (C:Nat->Prop):Prop:=q50_1 r t (∀ (x16:Nat),(x16<=r.machines.length /\ ∀ (j:Nat),j < x16->trM r t j=true)->decide ((x16:Int) < (↑(t.minutes.length):Int))=true->C x16)
abbrev q50_3 (r:Run) (t:Trth) (C:Nat->Prop):Prop:=q50_2 r t fun x16=>(!decide ((↑((t.minutes.getD x16 []).length):Int)=r.plates))=false->C x16
abbrev q50_4 (r:Run) (t:Trth) (C:Nat->Nat->Prop):Prop:=q50_3 r t fun x16 => ∀ (x19:Nat),(x19<=r.plates.toNat /\ ∀ (j:Nat),j < x19->trM1 r t x16 j=true)->decide ((x19:Int) < r.plates)=true->C x16 x19
abbrev q50_5 (r:Run) (t:Trth) (C:Nat->Nat->Prop):Prop:=q50_4 r t fun x16 x19=>(!within ((t.minutes.getD x16 []).getD x19 0) ((mach r x16).changes.getD x19 default).lo ((mach r x16).changes.getD x19 default).hi)=false->C x16 x19
abbrev q50_6 (r:Run) (t:Trth) (C:Nat->Nat->Prop):Prop:=q50_3 r t fun x16 => ∀ (x19:Nat),(x19<=r.plates.toNat /\ ∀ (j:Nat),j < x19->trM1 r t x16 j=true)->decide ((x19:Int) < r.plates)=false->C x16 x19
abbrev q50_7 (r:Run) (t:Trth) (C:Nat->Prop):Prop:=q50_1 r t (∀ (x16:Nat),(x16<=r.machines.length /\ ∀ (j:Nat),j < x16->trM r t j=true)->decide ((x16:Int) < (↑(t.minutes.length):Int))=false->C x16)
abbrev q50_8 (r:Run) (t:Trth) (C:Nat->Nat->Prop):Prop:=q50_7 r t fun x16 => ∀ (x23:Nat),(x23<=r.found.length /\ ∀ (j:Nat),j < x23->trF r t j=true)->decide ((x23:Int) < (↑(t.frm.length):Int))=true->C x16 x23
abbrev q50_9 (r:Run) (t:Trth) (C:Nat->Nat->Nat->Prop):Prop:=q50_8 r t fun x16 x23=>(!isIn (fnd r x23).frm (t.frm.getD x23 0))=false -> ∀ (x27:Nat),(x27<=r.plates.toNat /\ ∀ (j:Nat),j < x27->trF1 r t x23 j=true)->C x16 x23 x27
abbrev q50_10 (r:Run) (t:Trth) (C:Nat->Nat->Nat->Prop):Prop:=q50_9 r t fun x16 x23 x27=>decide ((x27:Int) < r.plates)=true->C x16 x23 x27
abbrev q50_11 (r:Run) (t:Trth) (C:Nat->Nat->Nat->Prop):Prop:=q50_10 r t fun x16 x23 x27=>(!decide ((fnd r x23).new.getD x27 0 = -1))->C x16 x23 x27
abbrev q50_12 (r:Run) (t:Trth) (C:Nat->Nat->Nat->Prop):Prop:=q50_10 r t fun x16 x23 x27=>(bif !decide ((fnd r x23).new.getD x27 0 = -1) then !decide ((fnd r x23).new.getD x27 0=1) == decide ((t.minutes.getD (t.frm.getD x23 0).toNat []).getD x27 0<=(fnd r x23).minute) else false)=false->C x16 x23 x27
theorem w50 (r:Run) (t:Trth)
 (o0:okRun r=true/\tfits t->(!decide ((↑(t.minutes.length):Int)=(↑(r.machines.length):Int)))=false->(!!decide ((↑(t.minutes.length):Int)=(↑(r.machines.length):Int)))=true)
 (o1:okRun r=true/\tfits t->(bif !decide ((↑(t.minutes.length):Int)=(↑(r.machines.length):Int)) then true else !decide ((↑(t.frm.length):Int)=(↑(r.found.length):Int)))=true->false=isTruth r t)
 (o2:q50_1 r t (0=(↑0:Int)))
 (o3:q50_1 r t (0<=r.machines.length /\ ∀ (j:Nat),j < 0->trM r t j=true))
 (o4:q50_2 r t fun x16=>0<=(x16:Int))
 (o5:q50_2 r t fun x16=>(x16:Int) < (↑(t.minutes.length):Int))
 (o6:q50_2 r t fun x16=>(!decide ((↑((t.minutes.getD x16 []).length):Int)=r.plates))->false=isTruth r t)
 (o7:q50_3 r t fun x16=>0=(↑0:Int))
 (o8:q50_3 r t fun x16=>0<=r.plates.toNat /\ ∀ (j:Nat),j < 0->trM1 r t x16 j=true)
 (o9:q50_4 r t fun x16 x19=>0<=(x16:Int))
 (o10:q50_4 r t fun x16 x19=>(x16:Int) < (↑(r.machines.length):Int))
 (o11:q50_4 r t fun x16 x19=>0<=(x19:Int))
 (o12:q50_4 r t fun x16 x19=>(x19:Int) < (↑((mach r x16).changes.length):Int))
 (o13:q50_4 r t fun x16 x19=>0<=(x16:Int))
 (o14:q50_4 r t fun x16 x19=>(x16:Int) < (↑(t.minutes.length):Int))
 (o15:q50_4 r t fun x16 x19=>0<=(x19:Int))
 (o16:q50_4 r t fun x16 x19=>(x19:Int) < (↑((t.minutes.getD x16 []).length):Int))
 (o17:q50_4 r t fun x16 x19=>(!within ((t.minutes.getD x16 []).getD x19 0) ((mach r x16).changes.getD x19 default).lo ((mach r x16).changes.getD x19 default).hi)=true->false=isTruth r t)
 (o18:q50_5 r t fun x16 x19=>inI ((x19:Int) + 1))
 (o19:q50_5 r t fun x16 x19=>(x19:Int) + 1=(↑(x19 + 1):Int))
 (o20:q50_5 r t fun x16 x19=>x19 + 1<=r.plates.toNat /\ ∀ (j:Nat),j < x19 + 1->trM1 r t x16 j=true)
 (o21:q50_5 r t fun x16 x19=>r.plates.toNat - (x19 + 1) < r.plates.toNat - x19)
 (o22:q50_6 r t fun x16 x19=>inI ((x16:Int) + 1))
 (o23:q50_6 r t fun x16 x19=>(x16:Int) + 1=(↑(x16 + 1):Int))
 (o24:q50_6 r t fun x16 x19=>x16 + 1<=r.machines.length /\ ∀ (j:Nat),j < x16 + 1->trM r t j=true)
 (o25:q50_6 r t fun x16 x19=>r.machines.length - (x16 + 1) < r.machines.length - x16)
 (o26:q50_7 r t fun x16=>0=(↑0:Int))
 (o27:q50_7 r t fun x16=>0<=r.found.length /\ ∀ (j:Nat),j < 0->trF r t j=true)
 (o28:q50_8 r t fun x16 x23=>0<=(x23:Int))
 (o29:q50_8 r t fun x16 x23=>(x23:Int) < (↑(r.found.length):Int))
 (o30:q50_8 r t fun x16 x23=>0<=(x23:Int))
 (o31:q50_8 r t fun x16 x23=>(x23:Int) < (↑(t.frm.length):Int))
 (o32:q50_8 r t fun x16 x23=>(fnd r x23).frm.length<=1125899906842624)
 (o33:q50_8 r t fun x16 x23=>(!isIn (fnd r x23).frm (t.frm.getD x23 0))=true->false=isTruth r t)
 (o34:q50_8 r t fun x16 x23=>(!isIn (fnd r x23).frm (t.frm.getD x23 0))=false->0=(↑0:Int))
 (o35:q50_8 r t fun x16 x23=>(!isIn (fnd r x23).frm (t.frm.getD x23 0))=false->0<=r.plates.toNat /\ ∀ (j:Nat),j < 0->trF1 r t x23 j=true)
 (o36:q50_10 r t fun x16 x23 x27=>0<=(x27:Int))
 (o37:q50_10 r t fun x16 x23 x27=>(x27:Int) < (↑((fnd r x23).new.length):Int))
 (o38:q50_11 r t fun x16 x23 x27=>0<=(x27:Int))
 (o39:q50_11 r t fun x16 x23 x27=>(x27:Int) < (↑((fnd r x23).new.length):Int))
 (o40:q50_11 r t fun x16 x23 x27=>0<=(x23:Int))
 (o41:q50_11 r t fun x16 x23 x27=>(x23:Int) < (↑(t.frm.length):Int))
 (o42:q50_11 r t fun x16 x23 x27=>0<=t.frm.getD x23 0)
 (o43:q50_11 r t fun x16 x23 x27=>t.frm.getD x23 0 < (↑(t.minutes.length):Int))
 (o44:q50_11 r t fun x16 x23 x27=>0<=(x27:Int))
 (o45:q50_11 r t fun x16 x23 x27=>(x27:Int) < (↑((t.minutes.getD (t.frm.getD x23 0).toNat []).length):Int))
 (o46:q50_10 r t fun x16 x23 x27=>(bif !decide ((fnd r x23).new.getD x27 0 = -1) then !decide ((fnd r x23).new.getD x27 0=1) == decide ((t.minutes.getD (t.frm.getD x23 0).toNat []).getD x27 0<=(fnd r x23).minute) else false)=true->false=isTruth r t)
 (o47:q50_12 r t fun x16 x23 x27=>inI ((x27:Int) + 1))
 (o48:q50_12 r t fun x16 x23 x27=>(x27:Int) + 1=(↑(x27 + 1):Int))
 (o49:q50_12 r t fun x16 x23 x27=>x27 + 1<=r.plates.toNat /\ ∀ (j:Nat),j < x27 + 1->trF1 r t x23 j=true)
 (o50:q50_12 r t fun x16 x23 x27=>r.plates.toNat - (x27 + 1) < r.plates.toNat - x27)
 (o51:q50_9 r t fun x16 x23 x27=>decide ((x27:Int) < r.plates)=false->inI ((x23:Int) + 1))
 (o52:q50_9 r t fun x16 x23 x27=>decide ((x27:Int) < r.plates)=false->(x23:Int) + 1=(↑(x23 + 1):Int))
 (o53:q50_9 r t fun x16 x23 x27=>decide ((x27:Int) < r.plates)=false->x23 + 1<=r.found.length /\ ∀ (j:Nat),j < x23 + 1->trF r t j=true)
 (o54:q50_9 r t fun x16 x23 x27=>decide ((x27:Int) < r.plates)=false->r.found.length - (x23 + 1) < r.found.length - x23)
 (o55:q50_7 r t fun x16 => ∀ (x23:Nat),(x23<=r.found.length /\ ∀ (j:Nat),j < x23->trF r t j=true)->decide ((x23:Int) < (↑(t.frm.length):Int))=false->true=isTruth r t) :
  Triple Try.prog 50 (s50 r t):=by
 refine triple_of Try.func50 rfl Try.call50 T0_ok _ rfl rfl rfl rfl (Nat.le_of_ble_eq_true (by kernel_rfl)) (fun _ _ _ _ h=>h) ?_
 intro hp C hC _ hE
 obtain ⟨P,w0,E0,av,hA⟩:=C
 subst hC
 refine swp_seq ?_
 refine sR (kt:=[2,3]) (kh:=[0,8]) (q:=True/\True/\True/\True) (st':=ASt.mk [(2,.ptr 0 []),(3,.ptr 8 [])] [(0,.cells 25 (cRun r)),(8,.cells 56 (cTrth t))] 24) (by kernel_rfl) ⟨tv,tv,tv,tv⟩ ?_
 refine swp_seq (swp_seq ?_)
 refine sR (kt:=[2,3,26]) (kh:=[0,8]) (q:=True/\True/\True/\True/\True/\True/\True/\True/\((!!decide ((↑(t.minutes.length):Int)=(↑(r.machines.length):Int)))->(True/\True)/\True)/\((!!decide ((↑(t.minutes.length):Int)=(↑(r.machines.length):Int)))->(((!!decide ((↑(t.minutes.length):Int)=(↑(r.machines.length):Int)))->(!!decide ((↑(t.minutes.length):Int)=(↑(r.machines.length):Int)))=true)/\True)/\True)/\((!!decide ((↑(t.minutes.length):Int)=(↑(r.machines.length):Int)))->(((!!decide ((↑(t.minutes.length):Int)=(↑(r.machines.length):Int)))->(!!decide ((↑(t.minutes.length):Int)=(↑(r.machines.length):Int)))=true)/\True)/\True)/\((!!decide ((↑(t.minutes.length):Int)=(↑(r.machines.length):Int)))->(True/\True)/\True)/\((!!decide ((↑(t.minutes.length):Int)=(↑(r.machines.length):Int)))->(((!!decide ((↑(t.minutes.length):Int)=(↑(r.machines.length):Int)))->(!!decide ((↑(t.minutes.length):Int)=(↑(r.machines.length):Int)))=true)/\True)/\True)/\((!!decide ((↑(t.minutes.length):Int)=(↑(r.machines.length):Int)))->(((!!decide ((↑(t.minutes.length):Int)=(↑(r.machines.length):Int)))->(!!decide ((↑(t.minutes.length):Int)=(↑(r.machines.length):Int)))=true)/\True)/\True)/\((!!decide ((↑(t.minutes.length):Int)=(↑(r.machines.length):Int)))->(((!!decide ((↑(t.minutes.length):Int)=(↑(r.machines.length):Int)))->(!!decide ((↑(t.minutes.length):Int)=(↑(r.machines.length):Int)))=true)/\((!!decide ((↑(t.minutes.length):Int)=(↑(r.machines.length):Int)))->(!!decide ((↑(t.minutes.length):Int)=(↑(r.machines.length):Int)))=true)/\True)/\True)/\(((!decide ((↑(t.minutes.length):Int)=(↑(r.machines.length):Int)))->True)/\((!decide ((↑(t.minutes.length):Int)=(↑(r.machines.length):Int)))=false->(!!decide ((↑(t.minutes.length):Int)=(↑(r.machines.length):Int)))=true))/\True) (st':=ASt.mk [(2,.ptr 0 []),(3,.ptr 8 []),(26,bv (bif !decide ((↑(t.minutes.length):Int)=(↑(r.machines.length):Int)) then true else !decide ((↑(t.frm.length):Int)=(↑(r.found.length):Int))))] [(0,.cells 25 (cRun r)),(8,.cells 56 (cTrth t))] 152) (by kernel_rfl) ⟨tv,tv,tv,tv,tv,tv,tv,tv,(fun h0=>⟨⟨tv,tv⟩,tv⟩),(fun h1=>⟨⟨(fun h2=>h1),tv⟩,tv⟩),(fun h3=>⟨⟨(fun h4=>h3),tv⟩,tv⟩),(fun h5=>⟨⟨tv,tv⟩,tv⟩),(fun h6=>⟨⟨(fun h7=>h6),tv⟩,tv⟩),(fun h8=>⟨⟨(fun h9=>h8),tv⟩,tv⟩),(fun h10=>⟨⟨(fun h11=>h10),(fun h12=>h10),tv⟩,tv⟩),⟨(fun h13=>tv),(fun h14=>(o0 hp h14))⟩,tv⟩ ?_
 refine swp_cond (bif !decide ((↑(t.minutes.length):Int)=(↑(r.machines.length):Int)) then true else !decide ((↑(t.frm.length):Int)=(↑(r.found.length):Int))) (by kernel_rfl) (fun h15 => ?_) (fun h15 => ?_)
 ·refine swp_seq ?_
  refine sR (kt:=[4]) (kh:=[]) (q:=True/\True) (st':=ASt.mk [(4,bv false)] [] 160) (by kernel_rfl) ⟨tv,tv⟩ ?_
  refine swp_ret ?_
  exact ret_q [] ((True/\True)/\(bv false=bv (isTruth r t)/\nilN = [])/\T3) (by kernel_rfl) ⟨⟨tv,tv⟩,⟨(congrArg bv (o1 hp h15)),rfl⟩,rfl,rfl,rfl⟩
 ·refine swp_skip (swp_seq (swp_seq ?_))
  refine sR (kt:=[2,3,5]) (kh:=[0,8]) (q:=True/\True) (st':=ASt.mk [(2,.ptr 0 []),(3,.ptr 8 []),(5,iv 0)] [(0,.cells 25 (cRun r)),(8,.cells 56 (cTrth t))] 160) (by kernel_rfl) ⟨tv,tv⟩ ?_
  refine swp_block ?_
  refine swp_loopA (Hint.ann (h50a r t) [(2,AV.ptr 0 []),(3,AV.ptr 8 [])] [(0,OB.cells 25 (cRun r)),(8,OB.cells 56 (cTrth t))] 10160) (ent_q hE [] [(0,.same 0),(8,.same 8)] [] [0,8] (((some (Src.same 0)=some (Src.same 0)/\nilP = [])/\(some (Src.same 8)=some (Src.same 8)/\nilP = [])/\(iv 0=iv (↑0:Int)/\nilN = [])/\True)/\((OB.cells 25 (cRun r)=OB.cells 25 (cRun r)/\true=true)/\(OB.cells 56 (cTrth t)=OB.cells 56 (cTrth t)/\true=true)/\True)/\T2) (by kernel_rfl) (by kernel_rfl) ⟨⟨⟨rfl,rfl⟩,⟨rfl,rfl⟩,⟨(congrArg iv (o2 hp h15)),rfl⟩,tv⟩,⟨⟨rfl,rfl⟩,⟨rfl,rfl⟩,tv⟩,rfl,rfl⟩) (o3 hp h15) (fun (x16:Nat) hx16 => ?_)
  refine swp_seq (swp_seq ?_)
  refine sR (kt:=[2,3,5,31]) (kh:=[0,8]) (q:=True/\True/\True/\True/\True/\True) (st':=ASt.mk [(2,.ptr 0 []),(3,.ptr 8 []),(5,iv (x16:Int)),(31,bv (decide ((x16:Int) < (↑(t.minutes.length):Int))))] [(0,.cells 25 (cRun r)),(8,.cells 56 (cTrth t))] 10200) (by kernel_rfl) ⟨tv,tv,tv,tv,tv,tv⟩ ?_
  refine swp_cond (decide ((x16:Int) < (↑(t.minutes.length):Int))) (by kernel_rfl) (fun h17 => ?_) (fun h17 => ?_)
  ·refine swp_skip (swp_seq (swp_block (swp_seq (swp_seq ?_))))
   refine sR (kt:=[2,3,5,42]) (kh:=[0,8]) (q:=True/\True/\True/\(0<=(x16:Int)/\(x16:Int) < (↑(t.minutes.length):Int))/\True/\True/\True/\True/\True/\True) (st':=ASt.mk [(2,.ptr 0 []),(3,.ptr 8 []),(5,iv (x16:Int)),(42,bv !decide ((↑((t.minutes.getD x16 []).length):Int)=r.plates))] [(0,.cells 25 (cRun r)),(8,.cells 56 (cTrth t))] 10272) (by kernel_rfl) ⟨tv,tv,tv,⟨(o4 hp h15 x16 hx16 h17),(o5 hp h15 x16 hx16 h17)⟩,tv,tv,tv,tv,tv,tv⟩ ?_
   refine swp_cond (!decide ((↑((t.minutes.getD x16 []).length):Int)=r.plates)) (by kernel_rfl) (fun h18 => ?_) (fun h18 => ?_)
   ·refine swp_seq ?_
    refine sR (kt:=[4]) (kh:=[]) (q:=True/\True) (st':=ASt.mk [(4,bv false)] [] 10280) (by kernel_rfl) ⟨tv,tv⟩ ?_
    refine swp_ret ?_
    exact ret_q [] ((True/\True)/\(bv false=bv (isTruth r t)/\nilN = [])/\T3) (by kernel_rfl) ⟨⟨tv,tv⟩,⟨(congrArg bv (o6 hp h15 x16 hx16 h17 h18)),rfl⟩,rfl,rfl,rfl⟩
   ·refine swp_skip (swp_seq ?_)
    refine sR (kt:=[2,3,5,6]) (kh:=[0,8]) (q:=True/\True) (st':=ASt.mk [(2,.ptr 0 []),(3,.ptr 8 []),(5,iv (x16:Int)),(6,iv 0)] [(0,.cells 25 (cRun r)),(8,.cells 56 (cTrth t))] 10280) (by kernel_rfl) ⟨tv,tv⟩ ?_
    refine swp_block ?_
    refine swp_loopA (Hint.ann (h50b r t x16) [(2,AV.ptr 0 []),(3,AV.ptr 8 []),(5,iv (x16:Int))] [(0,OB.cells 25 (cRun r)),(8,OB.cells 56 (cTrth t))] 20280) (ent_q hE [] [(0,.same 0),(8,.same 8)] [5] [0,8] (((some (Src.same 0)=some (Src.same 0)/\nilP = [])/\(some (Src.same 8)=some (Src.same 8)/\nilP = [])/\(iv (x16:Int)=iv (x16:Int)/\true=true)/\(iv 0=iv (↑0:Int)/\nilN = [])/\True)/\((OB.cells 25 (cRun r)=OB.cells 25 (cRun r)/\true=true)/\(OB.cells 56 (cTrth t)=OB.cells 56 (cTrth t)/\true=true)/\True)/\T2) (by kernel_rfl) (by kernel_rfl) ⟨⟨⟨rfl,rfl⟩,⟨rfl,rfl⟩,⟨rfl,rfl⟩,⟨(congrArg iv (o7 hp h15 x16 hx16 h17 h18)),rfl⟩,tv⟩,⟨⟨rfl,rfl⟩,⟨rfl,rfl⟩,tv⟩,rfl,rfl⟩) (o8 hp h15 x16 hx16 h17 h18) (fun (x19:Nat) hx19 => ?_)
    refine swp_seq (swp_seq ?_)
    refine sR (kt:=[2,3,5,6,46]) (kh:=[0,8]) (q:=True/\True/\True/\True/\True) (st':=ASt.mk [(2,.ptr 0 []),(3,.ptr 8 []),(5,iv (x16:Int)),(6,iv (x19:Int)),(46,bv (decide ((x19:Int) < r.plates)))] [(0,.cells 25 (cRun r)),(8,.cells 56 (cTrth t))] 20312) (by kernel_rfl) ⟨tv,tv,tv,tv,tv⟩ ?_
    refine swp_cond (decide ((x19:Int) < r.plates)) (by kernel_rfl) (fun h20 => ?_) (fun h20 => ?_)
    ·refine swp_skip (swp_seq (swp_block (swp_seq ?_)))
     refine sR (kt:=[2,3,5,6,7]) (kh:=[0,8,20384]) (q:=True/\True/\True/\(0<=(x16:Int)/\(x16:Int) < (↑(r.machines.length):Int))/\True/\True/\True/\(0<=(x19:Int)/\(x19:Int) < (↑((mach r x16).changes.length):Int))/\True/\True/\True/\True) (st':=ASt.mk [(2,.ptr 0 []),(3,.ptr 8 []),(5,iv (x16:Int)),(6,iv (x19:Int)),(7,.ptr 20384 [])] [(0,.cells 25 (cRun r)),(8,.cells 56 (cTrth t)),(20384,.cells 37 (cSpan ((mach r x16).changes.getD x19 default)))] 20400) (by kernel_rfl) ⟨tv,tv,tv,⟨(o9 hp h15 x16 hx16 h17 h18 x19 hx19 h20),(o10 hp h15 x16 hx16 h17 h18 x19 hx19 h20)⟩,tv,tv,tv,⟨(o11 hp h15 x16 hx16 h17 h18 x19 hx19 h20),(o12 hp h15 x16 hx16 h17 h18 x19 hx19 h20)⟩,tv,tv,tv,tv⟩ ?_
     refine swp_seq ?_
     refine swp_region T0_ok mixed (cs:=[(12,CallSpec.eq (s76 ((t.minutes.getD x16 []).getD x19 0) ((mach r x16).changes.getD x19 default).lo ((mach r x16).changes.getD x19 default).hi) [true,true,true])]) (kt:=[2,3,5,6,71]) (kh:=[0,8]) (q:=True/\True/\True/\(0<=(x16:Int)/\(x16:Int) < (↑(t.minutes.length):Int))/\True/\True/\(0<=(x19:Int)/\(x19:Int) < (↑((t.minutes.getD x16 []).length):Int))/\True/\True/\True/\True/\True/\((iv ((t.minutes.getD x16 []).getD x19 0)=iv ((t.minutes.getD x16 []).getD x19 0)/\iv ((mach r x16).changes.getD x19 default).lo=iv ((mach r x16).changes.getD x19 default).lo/\iv ((mach r x16).changes.getD x19 default).hi=iv ((mach r x16).changes.getD x19 default).hi/\True)/\Triple Try.prog 76 (s76 ((t.minutes.getD x16 []).getD x19 0) ((mach r x16).changes.getD x19 default).lo ((mach r x16).changes.getD x19 default).hi)/\True/\True /\ ∀ (i21:Env),True)/\True/\True) (st':=ASt.mk [(2,.ptr 0 []),(3,.ptr 8 []),(5,iv (x16:Int)),(6,iv (x19:Int)),(71,bv !within ((t.minutes.getD x16 []).getD x19 0) ((mach r x16).changes.getD x19 default).lo ((mach r x16).changes.getD x19 default).hi)] [(0,.cells 25 (cRun r)),(8,.cells 56 (cTrth t))] 20512) (by kernel_rfl) ⟨tv,tv,tv,⟨(o13 hp h15 x16 hx16 h17 h18 x19 hx19 h20),(o14 hp h15 x16 hx16 h17 h18 x19 hx19 h20)⟩,tv,tv,⟨(o15 hp h15 x16 hx16 h17 h18 x19 hx19 h20),(o16 hp h15 x16 hx16 h17 h18 x19 hx19 h20)⟩,tv,tv,tv,tv,tv,⟨⟨rfl,rfl,rfl,tv⟩,(t76 ((t.minutes.getD x16 []).getD x19 0) ((mach r x16).changes.getD x19 default).lo ((mach r x16).changes.getD x19 default).hi),tv,tv,(fun i21=>tv)⟩,tv,tv⟩ ?_
     refine swp_cond (!within ((t.minutes.getD x16 []).getD x19 0) ((mach r x16).changes.getD x19 default).lo ((mach r x16).changes.getD x19 default).hi) (by kernel_rfl) (fun h22 => ?_) (fun h22 => ?_)
     ·refine swp_seq ?_
      refine sR (kt:=[4]) (kh:=[]) (q:=True/\True) (st':=ASt.mk [(4,bv false)] [] 20520) (by kernel_rfl) ⟨tv,tv⟩ ?_
      refine swp_ret ?_
      exact ret_q [] ((True/\True)/\(bv false=bv (isTruth r t)/\nilN = [])/\T3) (by kernel_rfl) ⟨⟨tv,tv⟩,⟨(congrArg bv (o17 hp h15 x16 hx16 h17 h18 x19 hx19 h20 h22)),rfl⟩,rfl,rfl,rfl⟩
     ·refine swp_skip ?_
      refine sR (kt:=[2,3,5,6]) (kh:=[0,8]) (q:=True/\inI ((x19:Int) + 1)/\True/\True) (st':=ASt.mk [(2,.ptr 0 []),(3,.ptr 8 []),(5,iv (x16:Int)),(6,iv ((x19:Int) + 1))] [(0,.cells 25 (cRun r)),(8,.cells 56 (cTrth t))] 20536) (by kernel_rfl) ⟨tv,(o18 hp h15 x16 hx16 h17 h18 x19 hx19 h20 h22),tv,tv⟩ ?_
      exact loop_next (Hint.ann (h50b r t x16) [(2,AV.ptr 0 []),(3,AV.ptr 8 []),(5,iv (x16:Int))] [(0,OB.cells 25 (cRun r)),(8,OB.cells 56 (cTrth t))] 20280) x19 (ent_q hE [] [(0,.same 0),(8,.same 8)] [5] [0,8] (((some (Src.same 0)=some (Src.same 0)/\nilP = [])/\(some (Src.same 8)=some (Src.same 8)/\nilP = [])/\(iv (x16:Int)=iv (x16:Int)/\true=true)/\(iv ((x19:Int) + 1)=iv (↑(x19 + 1):Int)/\nilN = [])/\True)/\((OB.cells 25 (cRun r)=OB.cells 25 (cRun r)/\true=true)/\(OB.cells 56 (cTrth t)=OB.cells 56 (cTrth t)/\true=true)/\True)/\T2) (by kernel_rfl) (by kernel_rfl) ⟨⟨⟨rfl,rfl⟩,⟨rfl,rfl⟩,⟨rfl,rfl⟩,⟨(congrArg iv (o19 hp h15 x16 hx16 h17 h18 x19 hx19 h20 h22)),rfl⟩,tv⟩,⟨⟨rfl,rfl⟩,⟨rfl,rfl⟩,tv⟩,rfl,rfl⟩) (o20 hp h15 x16 hx16 h17 h18 x19 hx19 h20 h22) (o21 hp h15 x16 hx16 h17 h18 x19 hx19 h20 h22)
    ·refine swp_exit ?_
     refine sR (kt:=[2,3,5]) (kh:=[0,8]) (q:=True/\inI ((x16:Int) + 1)/\True/\True) (st':=ASt.mk [(2,.ptr 0 []),(3,.ptr 8 []),(5,iv ((x16:Int) + 1))] [(0,.cells 25 (cRun r)),(8,.cells 56 (cTrth t))] 20336) (by kernel_rfl) ⟨tv,(o22 hp h15 x16 hx16 h17 h18 x19 hx19 h20),tv,tv⟩ ?_
     exact loop_next (Hint.ann (h50a r t) [(2,AV.ptr 0 []),(3,AV.ptr 8 [])] [(0,OB.cells 25 (cRun r)),(8,OB.cells 56 (cTrth t))] 10160) x16 (ent_q hE [] [(0,.same 0),(8,.same 8)] [] [0,8] (((some (Src.same 0)=some (Src.same 0)/\nilP = [])/\(some (Src.same 8)=some (Src.same 8)/\nilP = [])/\(iv ((x16:Int) + 1)=iv (↑(x16 + 1):Int)/\nilN = [])/\True)/\((OB.cells 25 (cRun r)=OB.cells 25 (cRun r)/\true=true)/\(OB.cells 56 (cTrth t)=OB.cells 56 (cTrth t)/\true=true)/\True)/\T2) (by kernel_rfl) (by kernel_rfl) ⟨⟨⟨rfl,rfl⟩,⟨rfl,rfl⟩,⟨(congrArg iv (o23 hp h15 x16 hx16 h17 h18 x19 hx19 h20)),rfl⟩,tv⟩,⟨⟨rfl,rfl⟩,⟨rfl,rfl⟩,tv⟩,rfl,rfl⟩) (o24 hp h15 x16 hx16 h17 h18 x19 hx19 h20) (o25 hp h15 x16 hx16 h17 h18 x19 hx19 h20)
  ·refine swp_exit (swp_seq (swp_seq ?_))
   refine sR (kt:=[2,3,8]) (kh:=[0,8]) (q:=True/\True) (st':=ASt.mk [(2,.ptr 0 []),(3,.ptr 8 []),(8,iv 0)] [(0,.cells 25 (cRun r)),(8,.cells 56 (cTrth t))] 10208) (by kernel_rfl) ⟨tv,tv⟩ ?_
   refine swp_block ?_
   refine swp_loopA (Hint.ann (h50c r t) [(2,AV.ptr 0 []),(3,AV.ptr 8 [])] [(0,OB.cells 25 (cRun r)),(8,OB.cells 56 (cTrth t))] 20208) (ent_q hE [] [(0,.same 0),(8,.same 8)] [] [0,8] (((some (Src.same 0)=some (Src.same 0)/\nilP = [])/\(some (Src.same 8)=some (Src.same 8)/\nilP = [])/\(iv 0=iv (↑0:Int)/\nilN = [])/\True)/\((OB.cells 25 (cRun r)=OB.cells 25 (cRun r)/\true=true)/\(OB.cells 56 (cTrth t)=OB.cells 56 (cTrth t)/\true=true)/\True)/\T2) (by kernel_rfl) (by kernel_rfl) ⟨⟨⟨rfl,rfl⟩,⟨rfl,rfl⟩,⟨(congrArg iv (o26 hp h15 x16 hx16 h17)),rfl⟩,tv⟩,⟨⟨rfl,rfl⟩,⟨rfl,rfl⟩,tv⟩,rfl,rfl⟩) (o27 hp h15 x16 hx16 h17) (fun (x23:Nat) hx23 => ?_)
   refine swp_seq (swp_seq ?_)
   refine sR (kt:=[2,3,8,76]) (kh:=[0,8]) (q:=True/\True/\True/\True/\True/\True) (st':=ASt.mk [(2,.ptr 0 []),(3,.ptr 8 []),(8,iv (x23:Int)),(76,bv (decide ((x23:Int) < (↑(t.frm.length):Int))))] [(0,.cells 25 (cRun r)),(8,.cells 56 (cTrth t))] 20248) (by kernel_rfl) ⟨tv,tv,tv,tv,tv,tv⟩ ?_
   refine swp_cond (decide ((x23:Int) < (↑(t.frm.length):Int))) (by kernel_rfl) (fun h24 => ?_) (fun h24 => ?_)
   ·refine swp_skip (swp_seq (swp_block (swp_seq ?_)))
    refine sR (kt:=[2,3,8,9]) (kh:=[0,8,20288]) (q:=True/\True/\True/\(0<=(x23:Int)/\(x23:Int) < (↑(r.found.length):Int))/\True/\True/\True/\True) (st':=ASt.mk [(2,.ptr 0 []),(3,.ptr 8 []),(8,iv (x23:Int)),(9,.ptr 20288 [])] [(0,.cells 25 (cRun r)),(8,.cells 56 (cTrth t)),(20288,.cells 32 (cFnd (fnd r x23)))] 20304) (by kernel_rfl) ⟨tv,tv,tv,⟨(o28 hp h15 x16 hx16 h17 x23 hx23 h24),(o29 hp h15 x16 hx16 h17 x23 hx23 h24)⟩,tv,tv,tv,tv⟩ ?_
    refine swp_seq (swp_seq ?_)
    refine swp_region T0_ok mixed (cs:=[(7,CallSpec.eq (s51 (fnd r x23).frm (t.frm.getD x23 0)) [true,true])]) (kt:=[2,3,8,9,92]) (kh:=[0,8,20288]) (q:=True/\True/\True/\True/\True/\(0<=(x23:Int)/\(x23:Int) < (↑(t.frm.length):Int))/\True/\((aInts (fnd r x23).frm=aInts (fnd r x23).frm/\iv (t.frm.getD x23 0)=iv (t.frm.getD x23 0)/\True)/\Triple Try.prog 51 (s51 (fnd r x23).frm (t.frm.getD x23 0))/\(fnd r x23).frm.length<=1125899906842624/\True /\ ∀ (i25:Env),True)/\True/\True) (st':=ASt.mk [(2,.ptr 0 []),(3,.ptr 8 []),(8,iv (x23:Int)),(9,.ptr 20288 []),(92,bv !isIn (fnd r x23).frm (t.frm.getD x23 0))] [(0,.cells 25 (cRun r)),(8,.cells 56 (cTrth t)),(20288,.cells 32 (cFnd (fnd r x23)))] 20376) (by kernel_rfl) ⟨tv,tv,tv,tv,tv,⟨(o30 hp h15 x16 hx16 h17 x23 hx23 h24),(o31 hp h15 x16 hx16 h17 x23 hx23 h24)⟩,tv,⟨⟨rfl,rfl,tv⟩,(t51 (fnd r x23).frm (t.frm.getD x23 0)),(o32 hp h15 x16 hx16 h17 x23 hx23 h24),tv,(fun i25=>tv)⟩,tv,tv⟩ ?_
    refine swp_cond (!isIn (fnd r x23).frm (t.frm.getD x23 0)) (by kernel_rfl) (fun h26 => ?_) (fun h26 => ?_)
    ·refine swp_seq ?_
     refine sR (kt:=[4]) (kh:=[]) (q:=True/\True) (st':=ASt.mk [(4,bv false)] [] 20384) (by kernel_rfl) ⟨tv,tv⟩ ?_
     refine swp_ret ?_
     exact ret_q [] ((True/\True)/\(bv false=bv (isTruth r t)/\nilN = [])/\T3) (by kernel_rfl) ⟨⟨tv,tv⟩,⟨(congrArg bv (o33 hp h15 x16 hx16 h17 x23 hx23 h24 h26)),rfl⟩,rfl,rfl,rfl⟩
    ·refine swp_skip (swp_seq ?_)
     refine sR (kt:=[2,3,8,9,10]) (kh:=[0,8,20288]) (q:=True/\True) (st':=ASt.mk [(2,.ptr 0 []),(3,.ptr 8 []),(8,iv (x23:Int)),(9,.ptr 20288 []),(10,iv 0)] [(0,.cells 25 (cRun r)),(8,.cells 56 (cTrth t)),(20288,.cells 32 (cFnd (fnd r x23)))] 20384) (by kernel_rfl) ⟨tv,tv⟩ ?_
     refine swp_block ?_
     refine swp_loopA (Hint.ann (h50d r t x23) [(2,AV.ptr 0 []),(3,AV.ptr 8 []),(8,iv (x23:Int)),(9,AV.ptr 20288 [])] [(0,OB.cells 25 (cRun r)),(8,OB.cells 56 (cTrth t)),(20288,OB.cells 32 (cFnd (fnd r x23)))] 30384) (ent_q hE [] [(0,.same 0),(8,.same 8),(20288,.same 20288)] [8] [0,8,20288] (((some (Src.same 0)=some (Src.same 0)/\nilP = [])/\(some (Src.same 8)=some (Src.same 8)/\nilP = [])/\(iv (x23:Int)=iv (x23:Int)/\true=true)/\(some (Src.same 20288)=some (Src.same 20288)/\nilP = [])/\(iv 0=iv (↑0:Int)/\nilN = [])/\True)/\((OB.cells 25 (cRun r)=OB.cells 25 (cRun r)/\true=true)/\(OB.cells 56 (cTrth t)=OB.cells 56 (cTrth t)/\true=true)/\(OB.cells 32 (cFnd (fnd r x23))=OB.cells 32 (cFnd (fnd r x23))/\true=true)/\True)/\T2) (by kernel_rfl) (by kernel_rfl) ⟨⟨⟨rfl,rfl⟩,⟨rfl,rfl⟩,⟨rfl,rfl⟩,⟨rfl,rfl⟩,⟨(congrArg iv (o34 hp h15 x16 hx16 h17 x23 hx23 h24 h26)),rfl⟩,tv⟩,⟨⟨rfl,rfl⟩,⟨rfl,rfl⟩,⟨rfl,rfl⟩,tv⟩,rfl,rfl⟩) (o35 hp h15 x16 hx16 h17 x23 hx23 h24 h26) (fun (x27:Nat) hx27 => ?_)
     refine swp_seq (swp_seq ?_)
     refine sR (kt:=[2,3,8,9,10,96]) (kh:=[0,8,20288]) (q:=True/\True/\True/\True/\True) (st':=ASt.mk [(2,.ptr 0 []),(3,.ptr 8 []),(8,iv (x23:Int)),(9,.ptr 20288 []),(10,iv (x27:Int)),(96,bv (decide ((x27:Int) < r.plates)))] [(0,.cells 25 (cRun r)),(8,.cells 56 (cTrth t)),(20288,.cells 32 (cFnd (fnd r x23)))] 30416) (by kernel_rfl) ⟨tv,tv,tv,tv,tv⟩ ?_
     refine swp_cond (decide ((x27:Int) < r.plates)) (by kernel_rfl) (fun h28 => ?_) (fun h28 => ?_)
     ·refine swp_skip (swp_seq (swp_block (swp_seq ?_)))
      refine sR (kt:=[2,3,8,9,10,128]) (kh:=[0,8,20288]) (q:=True/\True/\True/\(0<=(x27:Int)/\(x27:Int) < (↑((fnd r x23).new.length):Int))/\True/\True/\True/\((!decide ((fnd r x23).new.getD x27 0 = -1))->(True/\True)/\True)/\((!decide ((fnd r x23).new.getD x27 0 = -1))->(((!decide ((fnd r x23).new.getD x27 0 = -1))->(!decide ((fnd r x23).new.getD x27 0 = -1))=true)/\True)/\True)/\((!decide ((fnd r x23).new.getD x27 0 = -1))->(True/\True)/\True)/\((!decide ((fnd r x23).new.getD x27 0 = -1))->(((!decide ((fnd r x23).new.getD x27 0 = -1))->(!decide ((fnd r x23).new.getD x27 0 = -1))=true)/\((!decide ((fnd r x23).new.getD x27 0 = -1))->(!decide ((fnd r x23).new.getD x27 0 = -1))=true)/\True)/\0<=(x27:Int)/\(x27:Int) < (↑((fnd r x23).new.length):Int))/\((!decide ((fnd r x23).new.getD x27 0 = -1))->(((!decide ((fnd r x23).new.getD x27 0 = -1))->(!decide ((fnd r x23).new.getD x27 0 = -1))=true)/\True)/\True)/\((!decide ((fnd r x23).new.getD x27 0 = -1))->(((!decide ((fnd r x23).new.getD x27 0 = -1))->(!decide ((fnd r x23).new.getD x27 0 = -1))=true)/\True/\True)/\True)/\((!decide ((fnd r x23).new.getD x27 0 = -1))->(True/\True)/\True)/\((!decide ((fnd r x23).new.getD x27 0 = -1))->(((!decide ((fnd r x23).new.getD x27 0 = -1))->(!decide ((fnd r x23).new.getD x27 0 = -1))=true)/\True)/\True)/\((!decide ((fnd r x23).new.getD x27 0 = -1))->(True/\True)/\True)/\((!decide ((fnd r x23).new.getD x27 0 = -1))->(((!decide ((fnd r x23).new.getD x27 0 = -1))->(!decide ((fnd r x23).new.getD x27 0 = -1))=true)/\True)/\True)/\((!decide ((fnd r x23).new.getD x27 0 = -1))->(True/\True)/\True)/\((!decide ((fnd r x23).new.getD x27 0 = -1))->(((!decide ((fnd r x23).new.getD x27 0 = -1))->(!decide ((fnd r x23).new.getD x27 0 = -1))=true)/\((!decide ((fnd r x23).new.getD x27 0 = -1))->(!decide ((fnd r x23).new.getD x27 0 = -1))=true)/\True)/\0<=(x23:Int)/\(x23:Int) < (↑(t.frm.length):Int))/\((!decide ((fnd r x23).new.getD x27 0 = -1))->(((!decide ((fnd r x23).new.getD x27 0 = -1))->(!decide ((fnd r x23).new.getD x27 0 = -1))=true)/\True)/\True)/\((!decide ((fnd r x23).new.getD x27 0 = -1))->(((!decide ((fnd r x23).new.getD x27 0 = -1))->(!decide ((fnd r x23).new.getD x27 0 = -1))=true)/\((!decide ((fnd r x23).new.getD x27 0 = -1))->(!decide ((fnd r x23).new.getD x27 0 = -1))=true)/\True)/\0<=t.frm.getD x23 0/\t.frm.getD x23 0 < (↑(t.minutes.length):Int))/\((!decide ((fnd r x23).new.getD x27 0 = -1))->(((!decide ((fnd r x23).new.getD x27 0 = -1))->(!decide ((fnd r x23).new.getD x27 0 = -1))=true)/\True)/\True)/\((!decide ((fnd r x23).new.getD x27 0 = -1))->(True/\True)/\True)/\((!decide ((fnd r x23).new.getD x27 0 = -1))->(((!decide ((fnd r x23).new.getD x27 0 = -1))->(!decide ((fnd r x23).new.getD x27 0 = -1))=true)/\((!decide ((fnd r x23).new.getD x27 0 = -1))->(!decide ((fnd r x23).new.getD x27 0 = -1))=true)/\True)/\0<=(x27:Int)/\(x27:Int) < (↑((t.minutes.getD (t.frm.getD x23 0).toNat []).length):Int))/\((!decide ((fnd r x23).new.getD x27 0 = -1))->(((!decide ((fnd r x23).new.getD x27 0 = -1))->(!decide ((fnd r x23).new.getD x27 0 = -1))=true)/\True)/\True)/\((!decide ((fnd r x23).new.getD x27 0 = -1))->(True/\True)/\True)/\((!decide ((fnd r x23).new.getD x27 0 = -1))->(((!decide ((fnd r x23).new.getD x27 0 = -1))->(!decide ((fnd r x23).new.getD x27 0 = -1))=true)/\True)/\True)/\((!decide ((fnd r x23).new.getD x27 0 = -1))->(((!decide ((fnd r x23).new.getD x27 0 = -1))->(!decide ((fnd r x23).new.getD x27 0 = -1))=true)/\((!decide ((fnd r x23).new.getD x27 0 = -1))->(!decide ((fnd r x23).new.getD x27 0 = -1))=true)/\True)/\True)/\((!decide ((fnd r x23).new.getD x27 0 = -1))->(((!decide ((fnd r x23).new.getD x27 0 = -1))->(!decide ((fnd r x23).new.getD x27 0 = -1))=true)/\((!decide ((fnd r x23).new.getD x27 0 = -1))->(!decide ((fnd r x23).new.getD x27 0 = -1))=true)/\True)/\True)/\(((!decide ((fnd r x23).new.getD x27 0 = -1))->(!decide ((fnd r x23).new.getD x27 0 = -1))=true)/\((!decide ((fnd r x23).new.getD x27 0 = -1))=false->True))/\True) (st':=ASt.mk [(2,.ptr 0 []),(3,.ptr 8 []),(8,iv (x23:Int)),(9,.ptr 20288 []),(10,iv (x27:Int)),(128,bv (bif !decide ((fnd r x23).new.getD x27 0 = -1) then !decide ((fnd r x23).new.getD x27 0=1) == decide ((t.minutes.getD (t.frm.getD x23 0).toNat []).getD x27 0<=(fnd r x23).minute) else false))] [(0,.cells 25 (cRun r)),(8,.cells 56 (cTrth t)),(20288,.cells 32 (cFnd (fnd r x23)))] 30656) (by kernel_rfl) ⟨tv,tv,tv,⟨(o36 hp h15 x16 hx16 h17 x23 hx23 h24 h26 x27 hx27 h28),(o37 hp h15 x16 hx16 h17 x23 hx23 h24 h26 x27 hx27 h28)⟩,tv,tv,tv,(fun h29=>⟨⟨tv,tv⟩,tv⟩),(fun h30=>⟨⟨(fun h31=>h30),tv⟩,tv⟩),(fun h32=>⟨⟨tv,tv⟩,tv⟩),(fun h33=>⟨⟨(fun h34=>h33),(fun h35=>h33),tv⟩,(o38 hp h15 x16 hx16 h17 x23 hx23 h24 h26 x27 hx27 h28 h33),(o39 hp h15 x16 hx16 h17 x23 hx23 h24 h26 x27 hx27 h28 h33)⟩),(fun h36=>⟨⟨(fun h37=>h36),tv⟩,tv⟩),(fun h38=>⟨⟨(fun h39=>h38),tv,tv⟩,tv⟩),(fun h40=>⟨⟨tv,tv⟩,tv⟩),(fun h41=>⟨⟨(fun h42=>h41),tv⟩,tv⟩),(fun h43=>⟨⟨tv,tv⟩,tv⟩),(fun h44=>⟨⟨(fun h45=>h44),tv⟩,tv⟩),(fun h46=>⟨⟨tv,tv⟩,tv⟩),(fun h47=>⟨⟨(fun h48=>h47),(fun h49=>h47),tv⟩,(o40 hp h15 x16 hx16 h17 x23 hx23 h24 h26 x27 hx27 h28 h47),(o41 hp h15 x16 hx16 h17 x23 hx23 h24 h26 x27 hx27 h28 h47)⟩),(fun h50=>⟨⟨(fun h51=>h50),tv⟩,tv⟩),(fun h52=>⟨⟨(fun h53=>h52),(fun h54=>h52),tv⟩,(o42 hp h15 x16 hx16 h17 x23 hx23 h24 h26 x27 hx27 h28 h52),(o43 hp h15 x16 hx16 h17 x23 hx23 h24 h26 x27 hx27 h28 h52)⟩),(fun h55=>⟨⟨(fun h56=>h55),tv⟩,tv⟩),(fun h57=>⟨⟨tv,tv⟩,tv⟩),(fun h58=>⟨⟨(fun h59=>h58),(fun h60=>h58),tv⟩,(o44 hp h15 x16 hx16 h17 x23 hx23 h24 h26 x27 hx27 h28 h58),(o45 hp h15 x16 hx16 h17 x23 hx23 h24 h26 x27 hx27 h28 h58)⟩),(fun h61=>⟨⟨(fun h62=>h61),tv⟩,tv⟩),(fun h63=>⟨⟨tv,tv⟩,tv⟩),(fun h64=>⟨⟨(fun h65=>h64),tv⟩,tv⟩),(fun h66=>⟨⟨(fun h67=>h66),(fun h68=>h66),tv⟩,tv⟩),(fun h69=>⟨⟨(fun h70=>h69),(fun h71=>h69),tv⟩,tv⟩),⟨(fun h72=>h72),(fun h73=>tv)⟩,tv⟩ ?_
      refine swp_cond (bif !decide ((fnd r x23).new.getD x27 0 = -1) then !decide ((fnd r x23).new.getD x27 0=1) == decide ((t.minutes.getD (t.frm.getD x23 0).toNat []).getD x27 0<=(fnd r x23).minute) else false) (by kernel_rfl) (fun h74 => ?_) (fun h74 => ?_)
      ·refine swp_seq ?_
       refine sR (kt:=[4]) (kh:=[]) (q:=True/\True) (st':=ASt.mk [(4,bv false)] [] 30664) (by kernel_rfl) ⟨tv,tv⟩ ?_
       refine swp_ret ?_
       exact ret_q [] ((True/\True)/\(bv false=bv (isTruth r t)/\nilN = [])/\T3) (by kernel_rfl) ⟨⟨tv,tv⟩,⟨(congrArg bv (o46 hp h15 x16 hx16 h17 x23 hx23 h24 h26 x27 hx27 h28 h74)),rfl⟩,rfl,rfl,rfl⟩
      ·refine swp_skip ?_
       refine sR (kt:=[2,3,8,9,10]) (kh:=[0,8,20288]) (q:=True/\inI ((x27:Int) + 1)/\True/\True) (st':=ASt.mk [(2,.ptr 0 []),(3,.ptr 8 []),(8,iv (x23:Int)),(9,.ptr 20288 []),(10,iv ((x27:Int) + 1))] [(0,.cells 25 (cRun r)),(8,.cells 56 (cTrth t)),(20288,.cells 32 (cFnd (fnd r x23)))] 30680) (by kernel_rfl) ⟨tv,(o47 hp h15 x16 hx16 h17 x23 hx23 h24 h26 x27 hx27 h28 h74),tv,tv⟩ ?_
       exact loop_next (Hint.ann (h50d r t x23) [(2,AV.ptr 0 []),(3,AV.ptr 8 []),(8,iv (x23:Int)),(9,AV.ptr 20288 [])] [(0,OB.cells 25 (cRun r)),(8,OB.cells 56 (cTrth t)),(20288,OB.cells 32 (cFnd (fnd r x23)))] 30384) x27 (ent_q hE [] [(0,.same 0),(8,.same 8),(20288,.same 20288)] [8] [0,8,20288] (((some (Src.same 0)=some (Src.same 0)/\nilP = [])/\(some (Src.same 8)=some (Src.same 8)/\nilP = [])/\(iv (x23:Int)=iv (x23:Int)/\true=true)/\(some (Src.same 20288)=some (Src.same 20288)/\nilP = [])/\(iv ((x27:Int) + 1)=iv (↑(x27 + 1):Int)/\nilN = [])/\True)/\((OB.cells 25 (cRun r)=OB.cells 25 (cRun r)/\true=true)/\(OB.cells 56 (cTrth t)=OB.cells 56 (cTrth t)/\true=true)/\(OB.cells 32 (cFnd (fnd r x23))=OB.cells 32 (cFnd (fnd r x23))/\true=true)/\True)/\T2) (by kernel_rfl) (by kernel_rfl) ⟨⟨⟨rfl,rfl⟩,⟨rfl,rfl⟩,⟨rfl,rfl⟩,⟨rfl,rfl⟩,⟨(congrArg iv (o48 hp h15 x16 hx16 h17 x23 hx23 h24 h26 x27 hx27 h28 h74)),rfl⟩,tv⟩,⟨⟨rfl,rfl⟩,⟨rfl,rfl⟩,⟨rfl,rfl⟩,tv⟩,rfl,rfl⟩) (o49 hp h15 x16 hx16 h17 x23 hx23 h24 h26 x27 hx27 h28 h74) (o50 hp h15 x16 hx16 h17 x23 hx23 h24 h26 x27 hx27 h28 h74)
     ·refine swp_exit ?_
      refine sR (kt:=[2,3,8]) (kh:=[0,8]) (q:=True/\inI ((x23:Int) + 1)/\True/\True) (st':=ASt.mk [(2,.ptr 0 []),(3,.ptr 8 []),(8,iv ((x23:Int) + 1))] [(0,.cells 25 (cRun r)),(8,.cells 56 (cTrth t))] 30440) (by kernel_rfl) ⟨tv,(o51 hp h15 x16 hx16 h17 x23 hx23 h24 h26 x27 hx27 h28),tv,tv⟩ ?_
      exact loop_next (Hint.ann (h50c r t) [(2,AV.ptr 0 []),(3,AV.ptr 8 [])] [(0,OB.cells 25 (cRun r)),(8,OB.cells 56 (cTrth t))] 20208) x23 (ent_q hE [] [(0,.same 0),(8,.same 8)] [] [0,8] (((some (Src.same 0)=some (Src.same 0)/\nilP = [])/\(some (Src.same 8)=some (Src.same 8)/\nilP = [])/\(iv ((x23:Int) + 1)=iv (↑(x23 + 1):Int)/\nilN = [])/\True)/\((OB.cells 25 (cRun r)=OB.cells 25 (cRun r)/\true=true)/\(OB.cells 56 (cTrth t)=OB.cells 56 (cTrth t)/\true=true)/\True)/\T2) (by kernel_rfl) (by kernel_rfl) ⟨⟨⟨rfl,rfl⟩,⟨rfl,rfl⟩,⟨(congrArg iv (o52 hp h15 x16 hx16 h17 x23 hx23 h24 h26 x27 hx27 h28)),rfl⟩,tv⟩,⟨⟨rfl,rfl⟩,⟨rfl,rfl⟩,tv⟩,rfl,rfl⟩) (o53 hp h15 x16 hx16 h17 x23 hx23 h24 h26 x27 hx27 h28) (o54 hp h15 x16 hx16 h17 x23 hx23 h24 h26 x27 hx27 h28)
   ·refine swp_exit (swp_seq ?_)
    refine sR (kt:=[4]) (kh:=[]) (q:=True/\True) (st':=ASt.mk [(4,bv true)] [] 20256) (by kernel_rfl) ⟨tv,tv⟩ ?_
    refine swp_ret ?_
    exact ret_q [] ((True/\True)/\(bv true=bv (isTruth r t)/\nilN = [])/\T3) (by kernel_rfl) ⟨⟨tv,tv⟩,⟨(congrArg bv (o55 hp h15 x16 hx16 h17 x23 hx23 h24)),rfl⟩,rfl,rfl,rfl⟩
theorem t50 (r:Run) (t:Trth):Triple Try.prog 50 (s50 r t):=by
  have hd:∀ {b:Bool},(bif !decide ((t.minutes.length:Int)=r.machines.length) then true else !decide ((t.frm.length:Int)=r.found.length))=b->trHead r t = !b:=by
    intro b h
    rw [← h,trHead]
    by_cases e1:t.minutes.length=r.machines.length <;> by_cases e2:t.frm.length=r.found.length <;> simp [e1,e2] <;> omega
  apply w50
  all_goals (first
    | ((repeat intro _) <;> (try simp only [v0,v1,v2,v3,v4,v5,v6,v7,v8,v9,inI,fits,Go.Sh.small] at *) <;> first | (exact rfl) | omega | exact vz | (simp_all; done) | (simp_all; omega))
    | (intro hp h; rw [trHead_bad (hd h)]; done)
    | (intro hp h
       have h0:=hd h
       have h1:=h0
       simp only [trHead,Bool.not_false,Bool.and_eq_true,decide_eq_true_eq] at h1
       have ok:=ok_of hp.1
       have hpl:=ok.plates
       have h7:=ok.machines
       have h8:=ok.found
       intro m hm hml
       simp only [decide_eq_true_eq,decide_eq_false_iff_not] at hml
       first
       | (intro e
          have ek:=ok.mach m (by omega)
          simp only [Bool.not_eq_true',Bool.not_eq_false',decide_eq_true_eq,decide_eq_false_iff_not] at e
          first
          | (rw [trM_bad (by omega) (trM_len e)]; done)
          | (intro p hpp hpl2
             simp only [decide_eq_true_eq,decide_eq_false_iff_not] at hpl2
             first
             | omega
             | ((repeat intro _); simp only [inI]; omega)
             | (intro e2
                simp only [Bool.not_eq_true'] at e2
                have e3:trM1 r t m p=false:=e2
                rw [trM_bad (by omega) (trM_one (by omega) e3)]; done)
             | (intro e2
                simp only [Bool.not_eq_false'] at e2
                have e3:trM1 r t m p=true:=e2
                exact ⟨by omega,lt_succ_cases hpp.2 e3⟩)
             | exact ⟨by omega,lt_succ_cases hm.2 (trM_of e (fun j hj=>hpp.2 j (by omega)))⟩
             | skip))
       | (intro i hi hil
          simp only [decide_eq_true_eq,decide_eq_false_iff_not] at hil
          first
          | (rw [isTruth_of h0 (fun j hj=>hm.2 j (by omega)) (fun j hj=>hi.2 j (by omega))]; done)
          | (have ef:=ok.fnd i (by omega)
             have e3:=frm_len ok (i:=i) (by omega)
             first
             | omega
             | (intro e
                simp only [Bool.not_eq_true',Bool.not_eq_false'] at e
                first
                | (rw [trF_bad (by omega) (trF_in e)]; done)
                | (intro p hpp hpl2
                   have hin:0<=t.frm.getD i 0/\t.frm.getD i 0 < r.machines.length:=by
                     refine frm_range ok (i:=i) (by omega) ?_
                     simpa [isIn] using e
                   have hmm:=hm.2 (t.frm.getD i 0).toNat (by omega)
                   simp only [trM,Bool.and_eq_true,decide_eq_true_eq,tmin] at hmm
                   have hm1:=hmm.1
                   simp only [decide_eq_true_eq,decide_eq_false_iff_not] at hpl2
                   first
                   | omega
                   | ((repeat intro _); simp only [inI]; omega)
                   | ((repeat intro _); omega)
                   | exact ⟨by omega,lt_succ_cases hi.2 (trF_of e (fun j hj=>hpp.2 j (by omega)))⟩
                   | (intro e2
                      have e3:trF1 r t i p=false:=by
                        rw [trF1]
                        show (decide ((fnd r i).new.getD p 0 = -1) || (decide ((fnd r i).new.getD p 0=1) == decide ((t.minutes.getD (t.frm.getD i 0).toNat []).getD p 0<=(fnd r i).minute)))=false
                        revert e2
                        cases decide ((fnd r i).new.getD p 0 = -1) <;> cases decide ((fnd r i).new.getD p 0=1) <;> cases decide ((t.minutes.getD (t.frm.getD i 0).toNat []).getD p 0<=(fnd r i).minute) <;> simp
                      rw [trF_bad (by omega) (trF_one (by omega) e3)]; done)
                   | (intro _ e2
                      have e3:trF1 r t i p=true:=by
                        rw [trF1]
                        show (decide ((fnd r i).new.getD p 0 = -1) || (decide ((fnd r i).new.getD p 0=1) == decide ((t.minutes.getD (t.frm.getD i 0).toNat []).getD p 0<=(fnd r i).minute)))=true
                        revert e2
                        cases decide ((fnd r i).new.getD p 0 = -1) <;> cases decide ((fnd r i).new.getD p 0=1) <;> cases decide ((t.minutes.getD (t.frm.getD i 0).toNat []).getD p 0<=(fnd r i).minute) <;> simp
                      exact ⟨by omega,lt_succ_cases hpp.2 e3⟩)
                   | (intro e2
                      have e3:trF1 r t i p=true:=by
                        rw [trF1]
                        show (decide ((fnd r i).new.getD p 0 = -1) || (decide ((fnd r i).new.getD p 0=1) == decide ((t.minutes.getD (t.frm.getD i 0).toNat []).getD p 0<=(fnd r i).minute)))=true
                        revert e2
                        cases decide ((fnd r i).new.getD p 0 = -1) <;> cases decide ((fnd r i).new.getD p 0=1) <;> cases decide ((t.minutes.getD (t.frm.getD i 0).toNat []).getD p 0<=(fnd r i).minute) <;> simp
                      exact ⟨by omega,lt_succ_cases hpp.2 e3⟩)
                   | (intro _
                      show (p:Int) < ((t.minutes.getD (t.frm.getD i 0).toNat []).length:Int)
                      rw [of_decide_eq_true hm1]; exact hpl2)))))))
end Go.Ab
namespace Go.Sh
def eqv (v x:Int):Bool:=decide (v=x)
def logTo (l:List Int) (j:Nat):List (Int × Int):=(List.range j).foldl (fun es i=>es ++ [(l.getD i 0,Go.Ab.mlook es (l.getD i 0) + 1)]) []
theorem logTo_succ (l:List Int) (j:Nat):logTo l (j + 1)=logTo l j ++ [(l.getD j 0,Go.Ab.mlook (logTo l j) (l.getD j 0) + 1)]:=Go.Ab.foldl_range_succ _ _ _
theorem logTo_len (l:List Int):∀ j,(logTo l j).length=j:=by
 intro j
 induction j with
 | zero=>rfl
 | succ j ih=>rw [logTo_succ,List.length_append,ih]; rfl
theorem logTo_look (l:List Int) (k:Int):∀ j,0<=Go.Ab.mlook (logTo l j) k/\Go.Ab.mlook (logTo l j) k<=j:=by
 intro j
 induction j with
 | zero=>exact ⟨Int.le_refl 0,Int.le_refl 0⟩
 | succ j ih =>
  rw [logTo_succ,Go.Ab.mlook_snoc]
  split
  ·rename_i e
   simp only at e ⊢
   rw [e]; omega
  ·omega
def usedW (l:List Int):Nat:=(Go.Ab.mkeys (logTo l l.length)).length
def fewPTo (r:Run) (l:List WayS) (n:Nat):Int:=(List.range n).foldl (fun o i=>min o (usedW (l.getD i default).frm:Int)) r.machines.length
theorem fewPTo_succ (r:Run) (l:List WayS) (n:Nat):fewPTo r l (n + 1)=min (fewPTo r l n) (usedW (l.getD n default).frm:Int):=Go.Ab.foldl_range_succ _ _ _
def fewP (r:Run):Int:=if openE r true=0 then fewPTo r (waysOf r) (waysOf r).length else 0
end Go.Sh
namespace Go.Ab
open Go Go.RowKit Go.Proofs Go.Sh Go.En
def h145 (l:List Int) (v:Int):Hint:={ X:=Nat,M:=fun i=>[(8,iv i)],I:=fun i=>i<=l.length /\ ∀ j,j < i->eqv v (l.getD j 0)=false,mu:=fun i=>l.length - i,x0:=(0:Nat),nx:=fun i=>i + 1 }
def s22 (r:Run):CallSpec:={ args:=[vRun r],res := .tup [iv (fewP r),iv (openE r true)],pre:=fits r }
def h22a (r:Run):Hint:={ X:=Nat,M:=fun i=>[(25,iv i),(6,iv (fewPTo r (openL r true) i))],I:=fun i=>i<=(openL r true).length,mu:=fun i=>(openL r true).length - i,x0:=(0:Nat),nx:=fun i=>i + 1 }
def h22b (r:Run) (i:Nat):Hint:={ X:=Nat,M:=fun j=>[(33,iv j),(9,.vec 5000)],H:=fun j=>[(5000,.mp 108 (logTo ((openL r true).getD i default).frm j))],I:=fun j=>j<=((openL r true).getD i default).frm.length,mu:=fun j=>((openL r true).getD i default).frm.length - j,x0:=(0:Nat),nx:=fun j=>j + 1 }
end Go.Ab
namespace Go.Ab
open Go Go.RowKit Go.Proofs Go.Sh Go.En
abbrev q22_1 (r:Run) (C:Prop):Prop:=fits r->(!decide (openE r true=0))=false->C
abbrev q22_2 (r:Run) (C:Nat->Prop):Prop:=q22_1 r (∀ (x2:Nat),x2<=(openL r true).length->decide ((x2:Int) < (↑((openL r true).length):Int))=true->C x2)
abbrev q22_3 (r:Run) (C:Nat->Nat->Prop):Prop:=q22_2 r fun x2 => ∀ (x4:Nat),x4<=((openL r true).getD x2 default).frm.length->decide ((x4:Int) < (↑(((openL r true).getD x2 default).frm.length):Int))=true->C x2 x4
abbrev q22_4 (r:Run) (C:Nat->Nat->Prop):Prop:=q22_2 r fun x2 => ∀ (x4:Nat),x4<=((openL r true).getD x2 default).frm.length->decide ((x4:Int) < (↑(((openL r true).getD x2 default).frm.length):Int))=false->C x2 x4
abbrev q22_5 (r:Run) (C:Nat->Prop):Prop:=q22_1 r (∀ (x2:Nat),x2<=(openL r true).length->decide ((x2:Int) < (↑((openL r true).length):Int))=false->C x2)
theorem w22 (r:Run)
 (o0:fits r->(!decide (openE r true=0))->0=fewP r)
 (o1:q22_1 r (0=(↑0:Int)))
 (o2:q22_1 r ((↑(r.machines.length):Int)=fewPTo r (openL r true) 0))
 (o3:q22_1 r (0<=(openL r true).length))
 (o4:q22_2 r fun x2=>0<=(x2:Int))
 (o5:q22_2 r fun x2=>(x2:Int) < (↑((openL r true).length):Int))
 (o6:q22_2 r fun x2=>0=(↑0:Int))
 (o7:q22_2 r fun x2=>[]=logTo ((openL r true).getD x2 default).frm 0)
 (o8:q22_2 r fun x2=>0<=((openL r true).getD x2 default).frm.length)
 (o9:q22_3 r fun x2 x4=>0<=(x4:Int))
 (o10:q22_3 r fun x2 x4=>(x4:Int) < (↑(((openL r true).getD x2 default).frm.length):Int))
 (o11:q22_3 r fun x2 x4=>inI (((openL r true).getD x2 default).frm.getD x4 0))
 (o12:q22_3 r fun x2 x4=>inI (mlook (logTo ((openL r true).getD x2 default).frm x4) (((openL r true).getD x2 default).frm.getD x4 0) + 1))
 (o13:q22_3 r fun x2 x4=>inI (((openL r true).getD x2 default).frm.getD x4 0))
 (o14:q22_3 r fun x2 x4=>inI (mlook (logTo ((openL r true).getD x2 default).frm x4) (((openL r true).getD x2 default).frm.getD x4 0) + 1))
 (o15:q22_3 r fun x2 x4=>(logTo ((openL r true).getD x2 default).frm x4).length < 65536)
 (o16:q22_3 r fun x2 x4=>inI ((x4:Int) + 1))
 (o17:q22_3 r fun x2 x4=>(x4:Int) + 1=(↑(x4 + 1):Int))
 (o18:q22_3 r fun x2 x4=>logTo ((openL r true).getD x2 default).frm x4 ++ [(((openL r true).getD x2 default).frm.getD x4 0,mlook (logTo ((openL r true).getD x2 default).frm x4) (((openL r true).getD x2 default).frm.getD x4 0) + 1)]=logTo ((openL r true).getD x2 default).frm (x4 + 1))
 (o19:q22_3 r fun x2 x4=>x4 + 1<=((openL r true).getD x2 default).frm.length)
 (o20:q22_3 r fun x2 x4=>((openL r true).getD x2 default).frm.length - (x4 + 1) < ((openL r true).getD x2 default).frm.length - x4)
 (o21:q22_4 r fun x2 x4=>inI ((x2:Int) + 1))
 (o22:q22_4 r fun x2 x4=>(x2:Int) + 1=(↑(x2 + 1):Int))
 (o23:q22_4 r fun x2 x4=>min (fewPTo r (openL r true) x2) (↑((mkeys (logTo ((openL r true).getD x2 default).frm x4)).length):Int)=fewPTo r (openL r true) (x2 + 1))
 (o24:q22_4 r fun x2 x4=>x2 + 1<=(openL r true).length)
 (o25:q22_4 r fun x2 x4=>(openL r true).length - (x2 + 1) < (openL r true).length - x2)
 (o26:q22_5 r fun x2=>fewPTo r (openL r true) x2=fewP r)
 (o27:q22_5 r fun x2=>0=openE r true) :
  Triple Try.prog 22 (s22 r):=by
 refine triple_of Try.func22 rfl Try.call22 T0_ok _ rfl rfl rfl rfl (Nat.le_of_ble_eq_true (by kernel_rfl)) (fun _ _ _ _ h=>h) ?_
 intro hp C hC _ hE
 obtain ⟨P,w0,E0,av,hA⟩:=C
 subst hC
 refine swp_seq ?_
 refine sR (kt:=[1]) (kh:=[0]) (q:=True/\True/\True/\True) (st':=ASt.mk [(1,.ptr 0 [])] [(0,.cells 25 (cRun r))] 24) (by kernel_rfl) ⟨tv,tv,tv,tv⟩ ?_
 refine swp_seq ?_
 refine swp_region T0_ok mixed (cs:=[(1,CallSpec.eq (s78 r true) [true,true])]) (kt:=[1,4,5]) (kh:=[0]) (q:=True/\((AV.agg (cRun r)=AV.agg (cRun r)/\bv true=bv true/\True)/\Triple Try.prog 78 (s78 r true)/\fits r/\True /\ ∀ (i0:Env),True)/\True/\True/\True/\True/\True/\True) (st':=ASt.mk [(1,.ptr 0 []),(4,aWays (openL r true)),(5,iv (openE r true))] [(0,.cells 25 (cRun r))] 80) (by kernel_rfl) ⟨tv,⟨⟨rfl,rfl,tv⟩,(t78 (r) (true)),hp,tv,(fun i0=>tv)⟩,tv,tv,tv,tv,tv,tv⟩ ?_
 refine swp_seq (swp_seq ?_)
 refine sR (kt:=[1,4,5,18]) (kh:=[0]) (q:=True/\True/\True) (st':=ASt.mk [(1,.ptr 0 []),(4,aWays (openL r true)),(5,iv (openE r true)),(18,bv !decide (openE r true=0))] [(0,.cells 25 (cRun r))] 96) (by kernel_rfl) ⟨tv,tv,tv⟩ ?_
 refine swp_cond (!decide (openE r true=0)) (by kernel_rfl) (fun h1 => ?_) (fun h1 => ?_)
 ·refine swp_seq ?_
  refine sR (kt:=[2,3]) (kh:=[]) (q:=True/\True/\True/\True) (st':=ASt.mk [(2,iv 0),(3,iv (openE r true))] [] 120) (by kernel_rfl) ⟨tv,tv,tv,tv⟩ ?_
  refine swp_ret ?_
  exact ret_q [] ((True/\True/\True)/\((iv 0=iv (fewP r)/\nilN = [])/\(iv (openE r true)=iv (openE r true)/\nilN = [])/\True)/\T3) (by kernel_rfl) ⟨⟨tv,tv,tv⟩,⟨⟨(congrArg iv (o0 hp h1)),rfl⟩,⟨rfl,rfl⟩,tv⟩,rfl,rfl,rfl⟩
 ·refine swp_skip (swp_seq ?_)
  refine sR (kt:=[4,6]) (kh:=[]) (q:=True/\True/\True/\True/\True) (st':=ASt.mk [(4,aWays (openL r true)),(6,iv (↑(r.machines.length):Int))] [] 128) (by kernel_rfl) ⟨tv,tv,tv,tv,tv⟩ ?_
  refine swp_seq (swp_seq ?_)
  refine sR (kt:=[6,23,24,25]) (kh:=[]) (q:=True/\True/\True/\True) (st':=ASt.mk [(6,iv (↑(r.machines.length):Int)),(23,aWays (openL r true)),(24,iv (↑((openL r true).length):Int)),(25,iv 0)] [] 152) (by kernel_rfl) ⟨tv,tv,tv,tv⟩ ?_
  refine swp_block ?_
  refine swp_loopA (Hint.ann (h22a r) [(23,aWays (openL r true)),(24,iv (↑((openL r true).length):Int))] [] 10152) (ent_q hE [] [] [23,24] [] (((aWays (openL r true)=aWays (openL r true)/\true=true)/\(iv (↑((openL r true).length):Int)=iv (↑((openL r true).length):Int)/\true=true)/\(iv 0=iv (↑0:Int)/\nilN = [])/\(iv (↑(r.machines.length):Int)=iv (fewPTo r (openL r true) 0)/\nilN = [])/\True)/\True/\T2) (by kernel_rfl) (by kernel_rfl) ⟨⟨⟨rfl,rfl⟩,⟨rfl,rfl⟩,⟨(congrArg iv (o1 hp h1)),rfl⟩,⟨(congrArg iv (o2 hp h1)),rfl⟩,tv⟩,tv,rfl,rfl⟩) (o3 hp h1) (fun (x2:Nat) hx2 => ?_)
  refine swp_seq ?_
  refine sR (kt:=[23,24,25,6,26]) (kh:=[]) (q:=True/\True) (st':=ASt.mk [(23,aWays (openL r true)),(24,iv (↑((openL r true).length):Int)),(25,iv (x2:Int)),(6,iv (fewPTo r (openL r true) x2)),(26,bv (decide ((x2:Int) < (↑((openL r true).length):Int))))] [] 10160) (by kernel_rfl) ⟨tv,tv⟩ ?_
  refine swp_seq ?_
  refine swp_cond (decide ((x2:Int) < (↑((openL r true).length):Int))) (by kernel_rfl) (fun h3 => ?_) (fun h3 => ?_)
  ·refine swp_skip (swp_seq (swp_block (swp_seq ?_)))
   refine sR (kt:=[23,24,25,6,8]) (kh:=[10176]) (q:=(0<=(x2:Int)/\(x2:Int) < (↑((openL r true).length):Int))/\True/\True/\True/\True) (st':=ASt.mk [(23,aWays (openL r true)),(24,iv (↑((openL r true).length):Int)),(25,iv (x2:Int)),(6,iv (fewPTo r (openL r true) x2)),(8,.ptr 10176 [])] [(10176,.cells 107 (cWay ((openL r true).getD x2 default)))] 10192) (by kernel_rfl) ⟨⟨(o4 hp h1 x2 hx2 h3),(o5 hp h1 x2 hx2 h3)⟩,tv,tv,tv,tv⟩ ?_
   refine swp_seq ?_
   refine sR (kt:=[23,24,25,6,8,9]) (kh:=[10176,10192]) (q:=True/\True/\True) (st':=ASt.mk [(23,aWays (openL r true)),(24,iv (↑((openL r true).length):Int)),(25,iv (x2:Int)),(6,iv (fewPTo r (openL r true) x2)),(8,.ptr 10176 []),(9,.vec 10192)] [(10176,.cells 107 (cWay ((openL r true).getD x2 default))),(10192,.mp 108 [])] 10208) (by kernel_rfl) ⟨tv,tv,tv⟩ ?_
   refine swp_seq (swp_seq ?_)
   refine sR (kt:=[23,24,25,6,9,31,32,33]) (kh:=[10192]) (q:=True/\True/\True/\True/\True) (st':=ASt.mk [(23,aWays (openL r true)),(24,iv (↑((openL r true).length):Int)),(25,iv (x2:Int)),(6,iv (fewPTo r (openL r true) x2)),(9,.vec 10192),(31,aInts ((openL r true).getD x2 default).frm),(32,iv (↑(((openL r true).getD x2 default).frm.length):Int)),(33,iv 0)] [(10192,.mp 108 [])] 10240) (by kernel_rfl) ⟨tv,tv,tv,tv,tv⟩ ?_
   refine swp_block ?_
   refine swp_loopA (Hint.ann (h22b r x2) [(23,aWays (openL r true)),(24,iv (↑((openL r true).length):Int)),(25,iv (x2:Int)),(6,iv (fewPTo r (openL r true) x2)),(31,aInts ((openL r true).getD x2 default).frm),(32,iv (↑(((openL r true).getD x2 default).frm.length):Int))] [] 20240) (ent_q hE [] [(5000,.same 10192)] [23,24,25,6,31,32] [] (((aWays (openL r true)=aWays (openL r true)/\true=true)/\(iv (↑((openL r true).length):Int)=iv (↑((openL r true).length):Int)/\true=true)/\(iv (x2:Int)=iv (x2:Int)/\true=true)/\(iv (fewPTo r (openL r true) x2)=iv (fewPTo r (openL r true) x2)/\true=true)/\(aInts ((openL r true).getD x2 default).frm=aInts ((openL r true).getD x2 default).frm/\true=true)/\(iv (↑(((openL r true).getD x2 default).frm.length):Int)=iv (↑(((openL r true).getD x2 default).frm.length):Int)/\true=true)/\(iv 0=iv (↑0:Int)/\nilN = [])/\some (Src.same 10192)=some (Src.same 10192)/\True)/\((108=108 /\ []=logTo ((openL r true).getD x2 default).frm 0)/\True)/\T2) (by kernel_rfl) (by kernel_rfl) ⟨⟨⟨rfl,rfl⟩,⟨rfl,rfl⟩,⟨rfl,rfl⟩,⟨rfl,rfl⟩,⟨rfl,rfl⟩,⟨rfl,rfl⟩,⟨(congrArg iv (o6 hp h1 x2 hx2 h3)),rfl⟩,rfl,tv⟩,⟨⟨rfl,(o7 hp h1 x2 hx2 h3)⟩,tv⟩,rfl,rfl⟩) (o8 hp h1 x2 hx2 h3) (fun (x4:Nat) hx4 => ?_)
   refine swp_seq ?_
   refine sR (kt:=[23,24,25,6,31,32,33,9,34]) (kh:=[5000]) (q:=True/\True) (st':=ASt.mk [(23,aWays (openL r true)),(24,iv (↑((openL r true).length):Int)),(25,iv (x2:Int)),(6,iv (fewPTo r (openL r true) x2)),(31,aInts ((openL r true).getD x2 default).frm),(32,iv (↑(((openL r true).getD x2 default).frm.length):Int)),(33,iv (x4:Int)),(9,.vec 5000),(34,bv (decide ((x4:Int) < (↑(((openL r true).getD x2 default).frm.length):Int))))] [(5000,.mp 108 (logTo ((openL r true).getD x2 default).frm x4))] 20248) (by kernel_rfl) ⟨tv,tv⟩ ?_
   refine swp_seq ?_
   refine swp_cond (decide ((x4:Int) < (↑(((openL r true).getD x2 default).frm.length):Int))) (by kernel_rfl) (fun h5 => ?_) (fun h5 => ?_)
   ·refine swp_skip (swp_seq (swp_block (swp_seq ?_)))
    refine sR (kt:=[23,24,25,6,31,32,33,9,11]) (kh:=[5000]) (q:=(0<=(x4:Int)/\(x4:Int) < (↑(((openL r true).getD x2 default).frm.length):Int))/\True/\True/\True) (st':=ASt.mk [(23,aWays (openL r true)),(24,iv (↑((openL r true).length):Int)),(25,iv (x2:Int)),(6,iv (fewPTo r (openL r true) x2)),(31,aInts ((openL r true).getD x2 default).frm),(32,iv (↑(((openL r true).getD x2 default).frm.length):Int)),(33,iv (x4:Int)),(9,.vec 5000),(11,iv (((openL r true).getD x2 default).frm.getD x4 0))] [(5000,.mp 108 (logTo ((openL r true).getD x2 default).frm x4))] 20272) (by kernel_rfl) ⟨⟨(o9 hp h1 x2 hx2 h3 x4 hx4 h5),(o10 hp h1 x2 hx2 h3 x4 hx4 h5)⟩,tv,tv,tv⟩ ?_
    refine sR (kt:=[23,24,25,6,31,32,33,9]) (kh:=[5000]) (q:=True/\True/\inI (((openL r true).getD x2 default).frm.getD x4 0)/\inI (mlook (logTo ((openL r true).getD x2 default).frm x4) (((openL r true).getD x2 default).frm.getD x4 0) + 1)/\(inI (((openL r true).getD x2 default).frm.getD x4 0)/\inI (mlook (logTo ((openL r true).getD x2 default).frm x4) (((openL r true).getD x2 default).frm.getD x4 0) + 1)/\(logTo ((openL r true).getD x2 default).frm x4).length < 65536)/\True) (st':=ASt.mk [(23,aWays (openL r true)),(24,iv (↑((openL r true).length):Int)),(25,iv (x2:Int)),(6,iv (fewPTo r (openL r true) x2)),(31,aInts ((openL r true).getD x2 default).frm),(32,iv (↑(((openL r true).getD x2 default).frm.length):Int)),(33,iv (x4:Int)),(9,.vec 5000)] [(5000,.mp 108 (logTo ((openL r true).getD x2 default).frm x4 ++ [(((openL r true).getD x2 default).frm.getD x4 0,mlook (logTo ((openL r true).getD x2 default).frm x4) (((openL r true).getD x2 default).frm.getD x4 0) + 1)]))] 20312) (by kernel_rfl) ⟨tv,tv,(o11 hp h1 x2 hx2 h3 x4 hx4 h5),(o12 hp h1 x2 hx2 h3 x4 hx4 h5),⟨(o13 hp h1 x2 hx2 h3 x4 hx4 h5),(o14 hp h1 x2 hx2 h3 x4 hx4 h5),(o15 hp h1 x2 hx2 h3 x4 hx4 h5)⟩,tv⟩ ?_
    refine sR (kt:=[23,24,25,6,31,32,33,9]) (kh:=[5000]) (q:=inI ((x4:Int) + 1)/\True/\True) (st':=ASt.mk [(23,aWays (openL r true)),(24,iv (↑((openL r true).length):Int)),(25,iv (x2:Int)),(6,iv (fewPTo r (openL r true) x2)),(31,aInts ((openL r true).getD x2 default).frm),(32,iv (↑(((openL r true).getD x2 default).frm.length):Int)),(33,iv ((x4:Int) + 1)),(9,.vec 5000)] [(5000,.mp 108 (logTo ((openL r true).getD x2 default).frm x4 ++ [(((openL r true).getD x2 default).frm.getD x4 0,mlook (logTo ((openL r true).getD x2 default).frm x4) (((openL r true).getD x2 default).frm.getD x4 0) + 1)]))] 20328) (by kernel_rfl) ⟨(o16 hp h1 x2 hx2 h3 x4 hx4 h5),tv,tv⟩ ?_
    exact loop_next (Hint.ann (h22b r x2) [(23,aWays (openL r true)),(24,iv (↑((openL r true).length):Int)),(25,iv (x2:Int)),(6,iv (fewPTo r (openL r true) x2)),(31,aInts ((openL r true).getD x2 default).frm),(32,iv (↑(((openL r true).getD x2 default).frm.length):Int))] [] 20240) x4 (ent_q hE [] [(5000,.same 5000)] [23,24,25,6,31,32] [] (((aWays (openL r true)=aWays (openL r true)/\true=true)/\(iv (↑((openL r true).length):Int)=iv (↑((openL r true).length):Int)/\true=true)/\(iv (x2:Int)=iv (x2:Int)/\true=true)/\(iv (fewPTo r (openL r true) x2)=iv (fewPTo r (openL r true) x2)/\true=true)/\(aInts ((openL r true).getD x2 default).frm=aInts ((openL r true).getD x2 default).frm/\true=true)/\(iv (↑(((openL r true).getD x2 default).frm.length):Int)=iv (↑(((openL r true).getD x2 default).frm.length):Int)/\true=true)/\(iv ((x4:Int) + 1)=iv (↑(x4 + 1):Int)/\nilN = [])/\some (Src.same 5000)=some (Src.same 5000)/\True)/\((108=108/\logTo ((openL r true).getD x2 default).frm x4 ++ [(((openL r true).getD x2 default).frm.getD x4 0,mlook (logTo ((openL r true).getD x2 default).frm x4) (((openL r true).getD x2 default).frm.getD x4 0) + 1)]=logTo ((openL r true).getD x2 default).frm (x4 + 1))/\True)/\T2) (by kernel_rfl) (by kernel_rfl) ⟨⟨⟨rfl,rfl⟩,⟨rfl,rfl⟩,⟨rfl,rfl⟩,⟨rfl,rfl⟩,⟨rfl,rfl⟩,⟨rfl,rfl⟩,⟨(congrArg iv (o17 hp h1 x2 hx2 h3 x4 hx4 h5)),rfl⟩,rfl,tv⟩,⟨⟨rfl,(o18 hp h1 x2 hx2 h3 x4 hx4 h5)⟩,tv⟩,rfl,rfl⟩) (o19 hp h1 x2 hx2 h3 x4 hx4 h5) (o20 hp h1 x2 hx2 h3 x4 hx4 h5)
   ·refine swp_exit ?_
    refine sR (kt:=[23,24,25,6]) (kh:=[]) (q:=True/\True/\True/\True/\True/\True) (st':=ASt.mk [(23,aWays (openL r true)),(24,iv (↑((openL r true).length):Int)),(25,iv (x2:Int)),(6,iv (min (fewPTo r (openL r true) x2) (↑((mkeys (logTo ((openL r true).getD x2 default).frm x4)).length):Int)))] [] 20288) (by kernel_rfl) ⟨tv,tv,tv,tv,tv,tv⟩ ?_
    refine sR (kt:=[23,24,25,6]) (kh:=[]) (q:=inI ((x2:Int) + 1)/\True/\True) (st':=ASt.mk [(23,aWays (openL r true)),(24,iv (↑((openL r true).length):Int)),(25,iv ((x2:Int) + 1)),(6,iv (min (fewPTo r (openL r true) x2) (↑((mkeys (logTo ((openL r true).getD x2 default).frm x4)).length):Int)))] [] 20304) (by kernel_rfl) ⟨(o21 hp h1 x2 hx2 h3 x4 hx4 h5),tv,tv⟩ ?_
    exact loop_next (Hint.ann (h22a r) [(23,aWays (openL r true)),(24,iv (↑((openL r true).length):Int))] [] 10152) x2 (ent_q hE [] [] [23,24] [] (((aWays (openL r true)=aWays (openL r true)/\true=true)/\(iv (↑((openL r true).length):Int)=iv (↑((openL r true).length):Int)/\true=true)/\(iv ((x2:Int) + 1)=iv (↑(x2 + 1):Int)/\nilN = [])/\(iv (min (fewPTo r (openL r true) x2) (↑((mkeys (logTo ((openL r true).getD x2 default).frm x4)).length):Int))=iv (fewPTo r (openL r true) (x2 + 1))/\nilN = [])/\True)/\True/\T2) (by kernel_rfl) (by kernel_rfl) ⟨⟨⟨rfl,rfl⟩,⟨rfl,rfl⟩,⟨(congrArg iv (o22 hp h1 x2 hx2 h3 x4 hx4 h5)),rfl⟩,⟨(congrArg iv (o23 hp h1 x2 hx2 h3 x4 hx4 h5)),rfl⟩,tv⟩,tv,rfl,rfl⟩) (o24 hp h1 x2 hx2 h3 x4 hx4 h5) (o25 hp h1 x2 hx2 h3 x4 hx4 h5)
  ·refine swp_exit (swp_seq ?_)
   refine sR (kt:=[2,3]) (kh:=[]) (q:=True/\True/\True/\True) (st':=ASt.mk [(2,iv (fewPTo r (openL r true) x2)),(3,iv 0)] [] 10184) (by kernel_rfl) ⟨tv,tv,tv,tv⟩ ?_
   refine swp_ret ?_
   exact ret_q [] ((True/\True/\True)/\((iv (fewPTo r (openL r true) x2)=iv (fewP r)/\nilN = [])/\(iv 0=iv (openE r true)/\nilN = [])/\True)/\T3) (by kernel_rfl) ⟨⟨tv,tv,tv⟩,⟨⟨(congrArg iv (o26 hp h1 x2 hx2 h3)),rfl⟩,⟨(congrArg iv (o27 hp h1 x2 hx2 h3)),rfl⟩,tv⟩,rfl,rfl,rfl⟩
theorem t22 (r:Run):Triple Try.prog 22 (s22 r):=by
  apply w22
  all_goals (first
    | (intro _ h; rw [fewP,if_neg (openBad h)]; done)
    | ((repeat intro _) <;> (try simp only [v0,v1,v2,v3,v4,v5,v6,v7,v8,v9,inI,fits,Go.Sh.small] at *) <;> first | (exact rfl) | omega | exact vz | (simp_all; done) | (simp_all; omega))
    | (intro _ h
       have F:=openF h
       have h2:=F.len
       have h3:=F.ok.machines
       have h4:=F.ok.found
       first
       | exact F.zero.symm
       | (intro x hx hl
          simp only [decide_eq_true_eq,decide_eq_false_iff_not] at hl
          first
          | exact F.zero.symm
          | omega
          | (simp only [inI]; omega)
          | (rw [fewP,if_pos F.zero,← F.eq,show x=(openL r true).length by omega]; done)
          | (intro j hj hjl
             have h5:=F.frm x (by omega)
             simp only [decide_eq_true_eq,decide_eq_false_iff_not] at hjl
             have h6:=logTo_look ((openL r true).getD x default).frm (((openL r true).getD x default).frm.getD j 0) j
             have h7:=logTo_len ((openL r true).getD x default).frm j
             first
             | omega
             | (simp only [inI]; omega)
             | (simp only [inI]; have h8:=F.mach x (by omega) j (by omega); omega)
             | (rw [logTo_succ]; done)
             | (rw [fewPTo_succ,usedW,show ((openL r true).getD x default).frm.length=j by omega]; done))))
    | skip)
end Go.Ab
namespace Go.Proofs
open Go.Shelf
def Try.lays189_ren:Go.Shelf.Ren:=⟨fun | 189=>119 | 125=>141 | 257=>140 | 128=>155 | 129=>156 | 294=>146 | 295=>147 | 296=>148 | 297=>149 | 298=>150 | 299=>151 | 216=>152 | 300=>153 | 301=>154 | 328=>158 | 329=>159 | 330=>160 | 331=>161 | 332=>162 | 215=>163 | 343=>164 | n=>n,fun | 28=>30 | 3=>3 | 46=>157 | 0=>0 | 51=>171 | 53=>173 | 4=>4 | 183=>166 | 182=>165 | 131=>75 | 5=>5 | 9=>9 | 218=>175 | 222=>179 | 228=>181 | 229=>182 | n=>n,fun | n=>n⟩
theorem Try.lays189:Go.Proofs.Lays.n189 Try.prog Try.lays189_ren:={
 mixed:=by kernel_rfl
 f125:=Try.func141.trans (congrArg some (by kernel_rfl))
 f128:=Try.func155.trans (congrArg some (by kernel_rfl))
 f129:=Try.func156.trans (congrArg some (by kernel_rfl))
 f189:=Try.func119.trans (congrArg some (by kernel_rfl))
 f215:=Try.func163.trans (congrArg some (by kernel_rfl))
 f216:=Try.func152.trans (congrArg some (by kernel_rfl))
 f257:=Try.func140.trans (congrArg some (by kernel_rfl))
 f294:=Try.func146.trans (congrArg some (by kernel_rfl))
 f295:=Try.func147.trans (congrArg some (by kernel_rfl))
 f296:=Try.func148.trans (congrArg some (by kernel_rfl))
 f297:=Try.func149.trans (congrArg some (by kernel_rfl))
 f298:=Try.func150.trans (congrArg some (by kernel_rfl))
 f299:=Try.func151.trans (congrArg some (by kernel_rfl))
 f300:=Try.func153.trans (congrArg some (by kernel_rfl))
 f301:=Try.func154.trans (congrArg some (by kernel_rfl))
 f328:=Try.func158.trans (congrArg some (by kernel_rfl))
 f329:=Try.func159.trans (congrArg some (by kernel_rfl))
 f330:=Try.func160.trans (congrArg some (by kernel_rfl))
 f331:=Try.func161.trans (congrArg some (by kernel_rfl))
 f332:=Try.func162.trans (congrArg some (by kernel_rfl))
 f343:=Try.func164.trans (congrArg some (by kernel_rfl))
 t0:=Try.underlying0
 a0:=Try.isAgg0
 z0:=Try.sizeOf0
 v0:=Try.zeroValue0
 t3:=Try.underlying3
 a3:=Try.isAgg3
 z3:=Try.sizeOf3
 v3:=Try.zeroValue3
 t4:=Try.underlying4
 a4:=Try.isAgg4
 z4:=Try.sizeOf4
 v4:=Try.zeroValue4
 t5:=Try.underlying5
 a5:=Try.isAgg5
 z5:=Try.sizeOf5
 v5:=Try.zeroValue5
 t9:=Try.underlying9
 a9:=Try.isAgg9
 z9:=Try.sizeOf9
 v9:=Try.zeroValue9
 t28:=Try.underlying30
 a28:=Try.isAgg30
 z28:=Try.sizeOf30
 v28:=Try.zeroValue30
 t46:=Try.underlying157
 a46:=Try.isAgg157
 z46:=Try.sizeOf157
 v46:=Try.zeroValue157
 t51:=Try.underlying171
 a51:=Try.isAgg171
 z51:=Try.sizeOf171
 v51:=Try.zeroValue171
 t53:=Try.underlying173
 a53:=Try.isAgg173
 z53:=Try.sizeOf173
 v53:=Try.zeroValue173
 t131:=Try.underlying75
 a131:=Try.isAgg75
 z131:=Try.sizeOf75
 v131:=Try.zeroValue75
 t182:=Try.underlying165
 a182:=Try.isAgg165
 z182:=Try.sizeOf165
 v182:=Try.zeroValue165
 t183:=Try.underlying166
 a183:=Try.isAgg166
 z183:=Try.sizeOf166
 v183:=Try.zeroValue166
 t218:=Try.underlying175
 a218:=Try.isAgg175
 z218:=Try.sizeOf175
 v218:=Try.zeroValue175
 t222:=Try.underlying179
 a222:=Try.isAgg179
 z222:=Try.sizeOf179
 v222:=Try.zeroValue179
 t228:=Try.underlying181
 a228:=Try.isAgg181
 z228:=Try.sizeOf181
 v228:=Try.zeroValue181
 t229:=Try.underlying182
 a229:=Try.isAgg182
 z229:=Try.sizeOf182
 v229:=Try.zeroValue182 }
open Go.Sort Go.RowKit in
theorem Try.slices_Sort_int (blk off cap:Nat) (zs:List Int) (w:World) (hH:Holds (Value.int .i64) w blk off zs.toArray) (hblk:blk < w.heap.size) (hsz:zs.length < 4611686018427387904) :
  Calls Try.prog 119 #[.slice (some ⟨blk,off,none⟩) zs.length cap] w fun e w' =>
   e = .returned (.tuple #[]) /\ ∃ n os,w'=grow (putRow (Value.int .i64) (Sort.ahead w n) blk off (zs.mergeSort fun x y=>decide (x<=y)).toArray) os:=Any.slices_Sort_int Try.lays189 blk off cap zs w hH hblk hsz
def Try.laysNm220_ren:Go.Shelf.Ren:=⟨fun | 20=>120 | n=>n,fun | 22=>30 | 3=>3 | 4=>4 | 0=>0 | n=>n,fun | n=>n⟩
theorem Try.laysNm220:Go.Proofs.Lays2.n20 Try.prog Try.laysNm220_ren:={
 mixed:=by kernel_rfl
 f20:=Try.func120.trans (congrArg some (by kernel_rfl))
 t0:=Try.underlying0
 a0:=Try.isAgg0
 z0:=Try.sizeOf0
 v0:=Try.zeroValue0
 t3:=Try.underlying3
 a3:=Try.isAgg3
 z3:=Try.sizeOf3
 v3:=Try.zeroValue3
 t4:=Try.underlying4
 a4:=Try.isAgg4
 z4:=Try.sizeOf4
 v4:=Try.zeroValue4
 t22:=Try.underlying30
 a22:=Try.isAgg30
 z22:=Try.sizeOf30
 v22:=Try.zeroValue30
 i3:=by kernel_rfl }
open Go.RowKit Go.Lib Go.Sort in
theorem Try.slices_Compact_int (blk off cap:Nat) (zs:List Int) (w:World) (hH:Holds (Value.int .i64) w blk off zs.toArray) (hsz:zs.length<=9223372036854775807) (hcap:zs.length<=cap) :
  Calls Try.prog 120 #[.slice (some ⟨blk,off,none⟩) zs.length cap] w fun e w'=>e = .returned (.slice (some ⟨blk,off,none⟩) (Lib.compact zs).length cap) /\ ∃ q,w'=putRow (Value.int .i64) (Sort.ahead w q) blk off (Lib.compact zs ++ List.replicate (zs.length - (Lib.compact zs).length) 0).toArray:=Any.slices_Compact_int Try.laysNm220 blk off cap zs w hH hsz hcap
end Go.Proofs
namespace Go.Sh
def sortI (l:List Int):List Int:=l.mergeSort (fun x y=>decide (x<=y))
theorem sortI_len (l:List Int):(sortI l).length=l.length:=List.length_mergeSort _
def compactI (l:List Int):List Int:=Go.Lib.compact l
theorem compact_le (l:List Int):(compactI l).length<=l.length:=by
 unfold compactI Go.Lib.compact Go.Lib.compactUpTo
 rw [List.length_map]
 exact Nat.le_trans (List.length_filter_le _ _) (by simp)
end Go.Sh
namespace Go.Ab
open Go Go.RowKit Go.Sort Go.Sh
theorem putRow_heap {α:Type} [Inhabited α] (enc:α->Value) (w:World) (q k:Nat) (ys:List α) (os:Array Obj) (us:List Value) (e:TypeId) (hw:w.heap[k]? = some (.cells us.toArray e (0,0))) (hl:ys.length<=us.length) :
  (grow (putRow enc (Sort.ahead w q) k 0 ys.toArray) os).heap[k]? = some (.cells (ys.map enc ++ us.drop ys.length).toArray e (0,0))/\w.grownBy (grow (putRow enc (Sort.ahead w q) k 0 ys.toArray) os) (some k):=by
 have hlt:k < w.heap.size:=(Array.getElem?_eq_some_iff.1 hw).1
 have hsz:(putRow enc (Sort.ahead w q) k 0 ys.toArray).heap.size=w.heap.size:=by simp [putRow,mapBlock,Sort.ahead]
 refine ⟨?_,⟨rfl,rfl,rfl,by rw [size_grow,hsz]; omega,fun j hj hne => ?_⟩⟩
 ·rw [heap_grow_old _ _ (by rw [hsz]; exact hlt)]
  show ((Sort.ahead w q).heap.modify k _)[k]? = _
  have hw':(Sort.ahead w q).heap[k]? = some (.cells us.toArray e (0,0)):=hw
  rw [Array.getElem?_modify,if_pos rfl,hw']
  simp only [Option.map_some,onCells,Option.some.injEq,Obj.cells.injEq,and_true]
  apply Array.ext_getElem?
  intro i
  simp only [putCells,Array.getElem?_mapIdx,List.getElem?_toArray,List.size_toArray,Nat.zero_le,true_and,Nat.zero_add,Nat.sub_zero]
  by_cases h1:i < ys.length
  ·rw [List.getElem?_append_left (by simpa using h1),List.getElem?_map,List.getElem?_eq_getElem h1,List.getElem?_eq_getElem (show i < us.length by omega)]
   simp only [Option.map_some,if_pos h1]
   rw [getElem!_pos _ i (by simpa using h1)]
   simp
  ·rw [List.getElem?_append_right (by simpa using h1),List.getElem?_drop]
   have:ys.length + (i - (List.map enc ys).length)=i:=by simp; omega
   rw [this]
   cases us[i]? with
   | none=>rfl
   | some u=>simp only [Option.map_some,if_neg h1]
 ·rw [heap_grow_old _ _ (by rw [hsz]; exact hj)]
  show ((Sort.ahead w q).heap.modify k _)[j]? = _
  rw [Array.getElem?_modify,if_neg (fun e=>hne (by rw [e]))]
  rfl
def rowI (t:TypeId) (l:List Int):OB := .vec t 1 l.length (fun i=>[iv (l.getD i 0)])
theorem rowI_flat {E:Env} {l:List Int} {g:Nat->List Value} (hr:∀ i,i < l.length->RelL E false [iv (l.getD i 0)] (g i)):(List.range l.length).flatMap g=l.map (Value.int .i64):=by
 have h1:∀ i,i < l.length->g i = [Value.int .i64 (l.getD i 0)]:=by
  intro i hi
  have:=hr i hi
  generalize g i=x at this
  cases this with
  | cons h _ hs=>cases hs; cases h; rfl
 refine List.ext_getElem? fun i => ?_
 have hlen:=flat_length g 1 l.length (fun i hi=>by rw [h1 i hi]; rfl)
 by_cases hi:i < l.length
 ·have:=flat_get g 1 l.length (fun i hi=>by rw [h1 i hi]; rfl) i 0 hi (by omega)
  simp only [Nat.mul_one,Nat.add_zero] at this
  rw [this,h1 i hi,List.getElem?_map,List.getElem?_eq_getElem hi]
  simp [List.getD,List.getElem?_eq_getElem hi]
 ·rw [List.getElem?_eq_none (by omega),List.getElem?_eq_none (by simpa using hi)]
theorem rowI_rel (E:Env) (l:List Int):∀ i,i < l.length->RelL E false [iv (l.getD i 0)] [Value.int .i64 (l.getD i 0)]:=fun i _ => .cons (.lit _) rfl .nil
theorem rowI_flat' (l:List Int):(List.range l.length).flatMap (fun i=>[Value.int .i64 (l.getD i 0)])=l.map (Value.int .i64):=by
 let E0:Env:=⟨fun _=>none,fun _=>none,fun _=>none,fun _ _=>False⟩
 exact rowI_flat (E:=E0) (rowI_rel E0 l)
theorem holdsI {w:World} {k:Nat} {l:List Int} {us:List Value} {e:TypeId} (hw:w.heap[k]? = some (.cells us.toArray e (0,0))) (ht:us.take l.length=l.map (Value.int .i64)):Holds (Value.int .i64) w k 0 l.toArray:=by
 intro j hj
 have hj':j < l.length:=by simpa using hj
 have h1:us[j]? = some (.int .i64 l[j]):=by
  have:=congrArg (fun x=>x[j]?) ht
  simp only [List.getElem?_take,if_pos hj',List.getElem?_map,List.getElem?_eq_getElem hj',Option.map_some] at this
  exact this
 refine ⟨?_,?_⟩
 ·rw [Nat.zero_add,getElem!_pos _ j hj]
  simp only [World.cell?,hw]
  simpa using h1
 ·simp only [World.frozen?,hw]
  rfl
theorem own_rowI {C:Ctx} {E:Env} {w:World} {b:Nat} {t:TypeId} {l:List Int} (h:OwnOB C E w b (rowI t l)) (hn:0 < l.length) :
  ∃ k cap us,E.hdr b=some (.slice (some ⟨k,0,none⟩) l.length cap)/\l.length<=cap/\cap<=maxLen/\w.heap[k]? = some (.cells (List.toArray us) t (0,0))/\us.length=cap/\us.take l.length=l.map (Value.int .i64)/\E.blk b=some k/\C.avail k/\E.M k=none:=by
 obtain ⟨hd,g,hh,ho,hl,hr,hbk,hav⟩:=h
 rcases ownsRow_form ho with ⟨_,h0⟩ | ⟨k,cap,rfl,hnc,hcm,us,hw,hul,hut⟩
 ·omega
 ·rw [Nat.mul_one] at hul hut
  rw [rowI_flat hr] at hut
  exact ⟨k,cap,us,hh,hnc,hcm,hw,hul,hut,hbk,(hav k rfl).1,(hav k rfl).2⟩
theorem ownsRow_of {w:World} {k cap:Nat} {us:List Value} {t:TypeId} {l:List Int} (hw:w.heap[k]? = some (.cells us.toArray t (0,0))) (hnc:l.length<=cap) (hcm:cap<=maxLen) (hul:us.length=cap) (hut:us.take l.length=l.map (Value.int .i64)) :
  w.ownsRow 0 t 1 (.slice (some ⟨k,0,none⟩) l.length cap) l.length ((List.range l.length).flatMap (fun i=>[Value.int .i64 (l.getD i 0)])):=by
 rw [rowI_flat']
 refine ⟨by simp,.inr ⟨k,cap,us.toArray,rfl,Nat.zero_le _,hw,hnc,hcm,by simpa using hul,by simpa using hut⟩⟩
theorem triple_sort {P:Program} {f:FuncId} (hcall:Callable P f) (t:TypeId) (b:Nat) (l:List Int)
  (h:∀ k cap w,Holds (Value.int .i64) w k 0 l.toArray->k < w.heap.size->l.length < 4611686018427387904->Calls P f #[.slice (some ⟨k,0,none⟩) l.length cap] w fun e w'=>e = .returned (.tuple #[]) /\ ∃ n os,w'=grow (putRow (Value.int .i64) (Sort.ahead w n) k 0 (sortI l).toArray) os) :
  Triple P f { args:=[.vec b],pre:=0 < l.length/\l.length<=65536,hin:=[(b,rowI t l)],res := .tup [],hout:=[(b,rowI t (sortI l))] }:=by
 refine ⟨hcall,fun hpre E w vs _ hok hlen hrel _ => ?_⟩
 obtain ⟨v,rfl⟩:∃ v,vs = [v]:=by
  match vs,hlen with
  | [v],_=>exact ⟨v,rfl⟩
 have hv:=hrel 0
 simp only [List.getD_cons_zero] at hv
 have hob:Heap.of [(b,rowI t l)] b=some (rowI t l):=by rw [Heap.of_cons,if_pos rfl]
 obtain ⟨k,cap,us,hh,hnc,hcm,hw,hul,hut,hbk,hav,hM⟩:=own_rowI (hok.own b _ hob) hpre.1
 cases hv with
 | vec _ hh' _ =>
 rw [hh] at hh'
 cases hh'
 have hlt:k < w.heap.size:=(Array.getElem?_eq_some_iff.1 hw).1
 refine (h k cap w (holdsI hw hut) hlt (by omega)).mono ?_
 rintro e w' ⟨rfl,n,os,rfl⟩
 obtain ⟨h1,hg⟩:=putRow_heap (Value.int .i64) w n k (sortI l) os us t hw (by rw [sortI_len]; omega)
 refine ⟨_,E,rfl,?_,.tup rfl (fun k=>by simp; exact .any _),fun _ _=>⟨rfl,rfl⟩⟩
 have:=hok.setVec b k (by rw [hob]; simp) hbk hav hM hg (rowI t (sortI l)) ?_
 ·refine this.drop fun i ob hi => ?_
  rw [Heap.of_cons] at hi
  split at hi
  ·rename_i e; cases hi; unfold Heap.put; rw [if_pos e.symm]
  ·cases hi
 ·refine ⟨_,fun i=>[Value.int .i64 ((sortI l).getD i 0)],hh,?_,fun _ _=>rfl,rowI_rel E _,hbk,fun k' hk' => ?_⟩
  ·have:=ownsRow_of (l:=sortI l) (cap:=cap) h1 (by rw [sortI_len]; exact hnc) hcm (by simp [sortI_len,hul]; omega) (by rw [List.take_append_of_le_length (by rw [List.length_map]; exact Nat.le_refl _)]; exact List.take_of_length_le (by rw [List.length_map]; exact Nat.le_refl _))
   rw [sortI_len] at this ⊢
   exact this
  ·cases hk'; exact ⟨hav,hM⟩
theorem triple_compact {P:Program} {f:FuncId} (hcall:Callable P f) (t:TypeId) (b:Nat) (l:List Int)
  (h:∀ k cap w,Holds (Value.int .i64) w k 0 l.toArray->l.length<=9223372036854775807->l.length<=cap->Calls P f #[.slice (some ⟨k,0,none⟩) l.length cap] w fun e w'=>e = .returned (.slice (some ⟨k,0,none⟩) (Lib.compact l).length cap) /\ ∃ q,w'=putRow (Value.int .i64) (Sort.ahead w q) k 0 (Lib.compact l ++ List.replicate (l.length - (Lib.compact l).length) 0).toArray)
  (hc:(compactI l).length<=l.length) :
  Triple P f { args:=[.vec b],pre:=0 < l.length/\l.length<=65536,hin:=[(b,rowI t l)],res := .sl 1 (compactI l).length (fun i=>[iv ((compactI l).getD i 0)]),hout:=[] }:=by
 replace hc:(Lib.compact l).length<=l.length:=hc
 show Triple P f { args:=[.vec b],pre:=0 < l.length/\l.length<=65536,hin:=[(b,rowI t l)],res := .sl 1 (Lib.compact l).length (fun i=>[iv ((Lib.compact l).getD i 0)]),hout:=[] }
 refine ⟨hcall,fun hpre E w vs _ hok hlen hrel _ => ?_⟩
 obtain ⟨v,rfl⟩:∃ v,vs = [v]:=by
  match vs,hlen with
  | [v],_=>exact ⟨v,rfl⟩
 have hv:=hrel 0
 simp only [List.getD_cons_zero] at hv
 have hob:Heap.of [(b,rowI t l)] b=some (rowI t l):=by rw [Heap.of_cons,if_pos rfl]
 obtain ⟨k,cap,us,hh,hnc,hcm,hw,hul,hut,hbk,hav,hM⟩:=own_rowI (hok.own b _ hob) hpre.1
 cases hv with
 | vec _ hh' _ =>
 rw [hh] at hh'
 cases hh'
 refine (h k cap w (holdsI hw hut) (by omega) hnc).mono ?_
 rintro e w' ⟨rfl,q,rfl⟩
 let ys:=Lib.compact l ++ List.replicate (l.length - (Lib.compact l).length) 0
 have hys:ys.length=l.length:=by simp [ys]; omega
 obtain ⟨h1,hg⟩:=putRow_heap (Value.int .i64) w q k ys #[] us t hw (by omega)
 rw [grow_empty] at h1 hg
 have hown:=hok.setVec b k (by rw [hob]; simp) hbk hav hM hg (rowI t ys) ⟨_,fun i=>[Value.int .i64 (ys.getD i 0)],by rw [hh,← hys],ownsRow_of (l:=ys) (cap:=cap) h1 (by omega) hcm (by simp [hul]; omega) (by rw [List.take_append_of_le_length (by rw [List.length_map]; exact Nat.le_refl _)]; exact List.take_of_length_le (by rw [List.length_map]; exact Nat.le_refl _)),fun _ _=>rfl,rowI_rel E _,hbk,fun k' hk'=>by cases hk'; exact ⟨hav,hM⟩⟩
 have hfz:=hown.freeze b k _ (by unfold Heap.put; rw [if_pos rfl]; simp) hbk hav hM h1
 refine ⟨_,E.freeze k (.cells (ys.map (Value.int .i64) ++ us.drop ys.length).toArray t (0,0)),rfl,?_,?_,fun _ _=>⟨rfl,rfl⟩⟩
 ·refine hfz.drop fun i ob hi => ?_
  cases hi
 ·refine .slA 1 _ _ k 0 cap (fun i=>[Value.int .i64 ((Lib.compact l).getD i 0)]) (by omega) hcm (fun _ _=>rfl) (fun i j hi hj => ?_) (fun i hi => .cons (.lit _) rfl .nil)
  have hj0:j=0:=by omega
  subst hj0
  simp only [mcell,frozen_self,Nat.zero_add,Nat.mul_one,Nat.add_zero,List.getElem?_toArray,List.getElem?_cons_zero]
  have hlt:i < (ys.map (Value.int .i64)).length:=by rw [List.length_map,hys]; omega
  rw [List.getElem?_append_left hlt,List.getElem?_map]
  simp only [ys,List.getElem?_append_left hi,List.getElem?_eq_getElem hi,Option.map_some]
  simp [List.getD,List.getElem?_eq_getElem hi]
end Go.Ab
namespace Go.Sh
def wfTo (l:List WayS) (f n:Nat):List Int:=(l.take n).map (fun w=>w.frm.getD f 0)
def wf (l:List WayS) (f:Nat):List Int:=l.map (fun w=>w.frm.getD f 0)
theorem wfTo_succ {l:List WayS} {f n:Nat} (h:n < l.length):wfTo l f (n + 1)=wfTo l f n ++ [(l.getD n default).frm.getD f 0]:=by
 unfold wfTo; rw [Go.Ab.take_succ _ default h,List.map_append]; rfl
theorem wfTo_len {l:List WayS} {f n:Nat} (h:n<=l.length):(wfTo l f n).length=n:=by
 unfold wfTo; rw [List.length_map,List.length_take]; omega
theorem wfTo_full {l:List WayS} {f n:Nat} (h:l.length<=n):wfTo l f n=wf l f:=by
 unfold wfTo wf; rw [List.take_of_length_le h]
theorem wf_len (l:List WayS) (f:Nat):(wf l f).length=l.length:=by simp [wf]
def whereP (l:List WayS) (f:Nat):List Int:=compactI (sortI (wf l f))
def whereS (r:Run) (f:Int):List Int:=if openE r (isFound r f)=0 then whereP (waysOf r) f.toNat else []
end Go.Sh
namespace Go.Ab
open Go Go.RowKit Go.Proofs Go.Sh Go.En
def s119 (b:Nat) (l:List Int):CallSpec:={ args:=[.vec b],pre:=0 < l.length/\l.length<=65536,hin:=[(b,rowI 3 l)],res := .tup [],hout:=[(b,rowI 3 (sortI l))] }
theorem t119 (b:Nat) (l:List Int):Triple Try.prog 119 (s119 b l):=triple_sort Try.call119 3 b l (fun k cap w h1 h2 h3=>Try.slices_Sort_int k 0 cap l w h1 h2 h3)
def s120 (b:Nat) (l:List Int):CallSpec:={ args:=[.vec b],pre:=0 < l.length/\l.length<=65536,hin:=[(b,rowI 3 l)],res:=aInts (compactI l),hout:=[] }
theorem t120 (b:Nat) (l:List Int):Triple Try.prog 120 (s120 b l):=triple_compact Try.call120 3 b l (fun k cap w h1 h2 h3=>Try.slices_Compact_int k 0 cap l w h1 h2 h3) (compact_le l)
def s90 (l:List WayS) (f:Nat):CallSpec:={ args:=[aWays l,iv f],res:=aInts (whereP l f),pre:=0 < l.length/\l.length<=729 /\ ∀ x,x < l.length->f < (l.getD x default).frm.length }
def h90 (l:List WayS) (f:Nat):Hint:={ X:=Nat,M:=fun i=>[(10,iv i),(5,.vec 5000)],H:=fun i=>[(5000,rowI 3 (wfTo l f i))],I:=fun i=>i<=l.length,mu:=fun i=>l.length - i,x0:=(0:Nat),nx:=fun i=>i + 1 }
def c90a (l:List WayS) (f:Nat):CallSpec:=s119 5000 (wf l f)
def c90b (l:List WayS) (f:Nat):CallSpec:=s120 5000 (sortI (wf l f))
def s35 (r:Run) (f:Int):CallSpec:={ args:=[vRun r,iv f],res := .tup [aInts (whereS r f),iv (openE r (isFound r f))],pre:=fits r }
def c35o (r:Run) (f:Int):CallSpec:=s78 r (isFound r f)
def c35 (r:Run) (f:Int):CallSpec:=s90 (openL r (isFound r f)) f.toNat
end Go.Ab
namespace Go.Ab
open Go Go.RowKit Go.Proofs Go.Sh Go.En
abbrev q90_1 (l:List WayS) (f:Nat) (C:Prop):Prop:=(0 < l.length/\l.length<=729 /\ ∀ (x:Nat),x < l.length->f < (l.getD x default).frm.length)->C
abbrev q90_2 (l:List WayS) (f:Nat) (C:Nat->Prop):Prop:=q90_1 l f (∀ (x0:Nat),x0<=l.length->decide ((x0:Int) < (↑(l.length):Int))=true->C x0)
abbrev q90_3 (l:List WayS) (f:Nat) (C:Nat->Prop):Prop:=q90_1 l f (∀ (x0:Nat),x0<=l.length->decide ((x0:Int) < (↑(l.length):Int))=false->C x0)
theorem w90 (l:List WayS) (f:Nat)
 (o0:q90_1 l f (0=(↑0:Int)))
 (o1:q90_1 l f ((wfTo l f 0).length=0))
 (o2:q90_1 l f (0<=l.length))
 (o3:q90_2 l f fun x0=>0<=(x0:Int))
 (o4:q90_2 l f fun x0=>(x0:Int) < (↑(l.length):Int))
 (o5:q90_2 l f fun x0=>0<=(f:Int))
 (o6:q90_2 l f fun x0=>(f:Int) < (↑((l.getD x0 default).frm.length):Int))
 (o7:q90_2 l f fun x0=>(wfTo l f x0).length + 1<=65536)
 (o8:q90_2 l f fun x0=>inI ((x0:Int) + 1))
 (o9:q90_2 l f fun x0=>(x0:Int) + 1=(↑(x0 + 1):Int))
 (o10:q90_2 l f fun x0=>(wfTo l f x0).length + 1=(wfTo l f (x0 + 1)).length)
 (o11:q90_2 l f fun x0 => ∀ (i2:Nat),i2 < (wfTo l f x0).length + 1->catF (wfTo l f x0).length (fun (i:Nat)=>[iv ((wfTo l f x0).getD i 0)]) (fun (j:Nat)=>List.getD [[iv ((l.getD x0 default).frm.getD f 0)]] j (TI.za ti3)) i2 = [iv ((wfTo l f (x0 + 1)).getD i2 0)])
 (o12:q90_2 l f fun x0=>x0 + 1<=l.length)
 (o13:q90_2 l f fun x0=>l.length - (x0 + 1) < l.length - x0)
 (o14:q90_3 l f fun x0=>(wfTo l f x0).length=(wf l f).length)
 (o15:q90_3 l f fun x0 => ∀ (i4:Nat),i4 < (wfTo l f x0).length -> [iv ((wfTo l f x0).getD i4 0)] = [iv ((wf l f).getD i4 0)])
 (o16:q90_3 l f fun x0=>0 < (wf l f).length)
 (o17:q90_3 l f fun x0=>(wf l f).length<=65536)
 (o18:q90_3 l f fun x0=>0 < (sortI (wf l f)).length)
 (o19:q90_3 l f fun x0=>(sortI (wf l f)).length<=65536)
 (o20:q90_3 l f fun x0=>(compactI (sortI (wf l f))).length=(whereP l f).length)
 (o21:q90_3 l f fun x0 => ∀ (i8:Nat),i8 < (whereP l f).length -> [iv ((compactI (sortI (wf l f))).getD i8 0)] = [iv ((whereP l f).getD i8 0)]) :
  Triple Try.prog 90 (s90 l f):=by
 refine triple_of Try.func90 rfl Try.call90 T0_ok _ rfl rfl rfl rfl (Nat.le_of_ble_eq_true (by kernel_rfl)) (fun _ _ _ _ h=>h) ?_
 intro hp C hC _ hE
 obtain ⟨P,w0,E0,av,hA⟩:=C
 subst hC
 refine swp_seq ?_
 refine sR (kt:=[0,1]) (kh:=[]) (q:=True/\True) (st':=ASt.mk [(0,aWays l),(1,iv (f:Int))] [] 8) (by kernel_rfl) ⟨tv,tv⟩ ?_
 refine swp_seq ?_
 refine sR (kt:=[0,1,5]) (kh:=[]) (q:=True/\True) (st':=ASt.mk [(0,aWays l),(1,iv (f:Int)),(5,nilv)] [] 16) (by kernel_rfl) ⟨tv,tv⟩ ?_
 refine swp_seq (swp_seq ?_)
 refine sR (kt:=[1,5,8,9,10]) (kh:=[]) (q:=True/\True/\True/\True) (st':=ASt.mk [(1,iv (f:Int)),(5,nilv),(8,aWays l),(9,iv (↑(l.length):Int)),(10,iv 0)] [] 40) (by kernel_rfl) ⟨tv,tv,tv,tv⟩ ?_
 refine swp_block ?_
 refine swp_loopA (Hint.ann (h90 l f) [(1,iv (f:Int)),(8,aWays l),(9,iv (↑(l.length):Int))] [] 10040) (ent_q hE [] [(5000,.nil)] [1,8,9] [] (((iv (f:Int)=iv (f:Int)/\true=true)/\(aWays l=aWays l/\true=true)/\(iv (↑(l.length):Int)=iv (↑(l.length):Int)/\true=true)/\(iv 0=iv (↑0:Int)/\nilN = [])/\some Src.nil=some Src.nil/\True)/\((wfTo l f 0).length=0/\True)/\T2) (by kernel_rfl) (by kernel_rfl) ⟨⟨⟨rfl,rfl⟩,⟨rfl,rfl⟩,⟨rfl,rfl⟩,⟨(congrArg iv (o0 hp)),rfl⟩,rfl,tv⟩,⟨(o1 hp),tv⟩,rfl,rfl⟩) (o2 hp) (fun (x0:Nat) hx0 => ?_)
 refine swp_seq ?_
 refine sR (kt:=[1,8,9,10,5,11]) (kh:=[5000]) (q:=True/\True) (st':=ASt.mk [(1,iv (f:Int)),(8,aWays l),(9,iv (↑(l.length):Int)),(10,iv (x0:Int)),(5,.vec 5000),(11,bv (decide ((x0:Int) < (↑(l.length):Int))))] [(5000,.vec 3 1 (wfTo l f x0).length fun (i:Nat)=>[iv ((wfTo l f x0).getD i 0)])] 10048) (by kernel_rfl) ⟨tv,tv⟩ ?_
 refine swp_seq ?_
 refine swp_cond (decide ((x0:Int) < (↑(l.length):Int))) (by kernel_rfl) (fun h1 => ?_) (fun h1 => ?_)
 ·refine swp_skip (swp_seq (swp_block (swp_seq ?_)))
  refine sR (kt:=[1,8,9,10,5,7]) (kh:=[5000,10064]) (q:=(0<=(x0:Int)/\(x0:Int) < (↑(l.length):Int))/\True/\True/\True/\True) (st':=ASt.mk [(1,iv (f:Int)),(8,aWays l),(9,iv (↑(l.length):Int)),(10,iv (x0:Int)),(5,.vec 5000),(7,.ptr 10064 [])] [(5000,.vec 3 1 (wfTo l f x0).length fun (i:Nat)=>[iv ((wfTo l f x0).getD i 0)]),(10064,.cells 107 (cWay (l.getD x0 default)))] 10080) (by kernel_rfl) ⟨⟨(o3 hp x0 hx0 h1),(o4 hp x0 hx0 h1)⟩,tv,tv,tv,tv⟩ ?_
  refine sR (kt:=[1,8,9,10,5]) (kh:=[10136]) (q:=True/\True/\True/\True/\(0<=(f:Int)/\(f:Int) < (↑((l.getD x0 default).frm.length):Int))/\True/\True/\(wfTo l f x0).length + 1<=65536/\True/\True) (st':=ASt.mk [(1,iv (f:Int)),(8,aWays l),(9,iv (↑(l.length):Int)),(10,iv (x0:Int)),(5,.vec 10136)] [(10136,.vec 3 1 ((wfTo l f x0).length + 1) (catF (wfTo l f x0).length (fun (i:Nat)=>[iv ((wfTo l f x0).getD i 0)]) fun (j:Nat)=>List.getD [[iv ((l.getD x0 default).frm.getD f 0)]] j (TI.za ti3)))] 10152) (by kernel_rfl) ⟨tv,tv,tv,tv,⟨(o5 hp x0 hx0 h1),(o6 hp x0 hx0 h1)⟩,tv,tv,(o7 hp x0 hx0 h1),tv,tv⟩ ?_
  refine sR (kt:=[1,8,9,10,5]) (kh:=[10136]) (q:=inI ((x0:Int) + 1)/\True/\True) (st':=ASt.mk [(1,iv (f:Int)),(8,aWays l),(9,iv (↑(l.length):Int)),(10,iv ((x0:Int) + 1)),(5,.vec 10136)] [(10136,.vec 3 1 ((wfTo l f x0).length + 1) (catF (wfTo l f x0).length (fun (i:Nat)=>[iv ((wfTo l f x0).getD i 0)]) fun (j:Nat)=>List.getD [[iv ((l.getD x0 default).frm.getD f 0)]] j (TI.za ti3)))] 10168) (by kernel_rfl) ⟨(o8 hp x0 hx0 h1),tv,tv⟩ ?_
  exact loop_next (Hint.ann (h90 l f) [(1,iv (f:Int)),(8,aWays l),(9,iv (↑(l.length):Int))] [] 10040) x0 (ent_q hE [] [(5000,.same 10136)] [1,8,9] [] (((iv (f:Int)=iv (f:Int)/\true=true)/\(aWays l=aWays l/\true=true)/\(iv (↑(l.length):Int)=iv (↑(l.length):Int)/\true=true)/\(iv ((x0:Int) + 1)=iv (↑(x0 + 1):Int)/\nilN = [])/\some (Src.same 10136)=some (Src.same 10136)/\True)/\((3=3/\1=1/\(wfTo l f x0).length + 1=(wfTo l f (x0 + 1)).length /\ ∀ (i2:Nat),i2 < (wfTo l f x0).length + 1->catF (wfTo l f x0).length (fun (i:Nat)=>[iv ((wfTo l f x0).getD i 0)]) (fun (j:Nat)=>List.getD [[iv ((l.getD x0 default).frm.getD f 0)]] j (TI.za ti3)) i2 = [iv ((wfTo l f (x0 + 1)).getD i2 0)])/\True)/\T2) (by kernel_rfl) (by kernel_rfl) ⟨⟨⟨rfl,rfl⟩,⟨rfl,rfl⟩,⟨rfl,rfl⟩,⟨(congrArg iv (o9 hp x0 hx0 h1)),rfl⟩,rfl,tv⟩,⟨⟨rfl,rfl,(o10 hp x0 hx0 h1),(fun i2=>(fun h3=>(o11 hp x0 hx0 h1 i2 h3)))⟩,tv⟩,rfl,rfl⟩) (o12 hp x0 hx0 h1) (o13 hp x0 hx0 h1)
 ·refine swp_exit (swp_seq ?_)
  refine swp_ent (ent_q (st2:=ASt.mk [(1,iv (f:Int)),(8,aWays l),(9,iv (↑(l.length):Int)),(10,iv (x0:Int)),(5,AV.vec 5000),(11,bv (decide ((x0:Int) < (↑(l.length):Int))))] [(5000,OB.vec 3 1 (wf l f).length fun (i:Nat)=>[iv ((wf l f).getD i 0)])] 10048) hE [] [(5000,.same 5000)] [1,8,9,10,11] [] (((iv (f:Int)=iv (f:Int)/\true=true)/\(aWays l=aWays l/\true=true)/\(iv (↑(l.length):Int)=iv (↑(l.length):Int)/\true=true)/\(iv (x0:Int)=iv (x0:Int)/\true=true)/\some (Src.same 5000)=some (Src.same 5000)/\(bv (decide ((x0:Int) < (↑(l.length):Int)))=bv (decide ((x0:Int) < (↑(l.length):Int)))/\true=true)/\True)/\((3=3/\1=1/\(wfTo l f x0).length=(wf l f).length /\ ∀ (i4:Nat),i4 < (wfTo l f x0).length -> [iv ((wfTo l f x0).getD i4 0)] = [iv ((wf l f).getD i4 0)])/\True)/\T2) (by kernel_rfl) (by kernel_rfl) ⟨⟨⟨rfl,rfl⟩,⟨rfl,rfl⟩,⟨rfl,rfl⟩,⟨rfl,rfl⟩,rfl,⟨rfl,rfl⟩,tv⟩,⟨⟨rfl,rfl,(o14 hp x0 hx0 h1),(fun i4=>(fun h5=>(o15 hp x0 hx0 h1 i4 h5)))⟩,tv⟩,rfl,rfl⟩) ?_
  refine swp_region T0_ok mixed (cs:=[(1,CallSpec.eq (c90a l f) [true])]) (kt:=[5]) (kh:=[5000]) (q:=True/\((AV.vec 5000=AV.vec 5000/\True)/\Triple Try.prog 119 (c90a l f)/\(0 < (wf l f).length/\(wf l f).length<=65536)/\(some (OB.vec 3 1 (wf l f).length fun (i:Nat)=>[iv ((wf l f).getD i 0)])=some (OB.vec 3 1 (wf l f).length fun (i:Nat)=>[iv ((wf l f).getD i 0)])/\True) /\ ∀ (i6:Env),True)/\True) (st':=ASt.mk [(5,.vec 5000)] [(5000,.vec 3 1 (sortI (wf l f)).length fun (i:Nat)=>[iv ((sortI (wf l f)).getD i 0)])] 10064) (by kernel_rfl) ⟨tv,⟨⟨rfl,tv⟩,(t119 _ _),⟨(o16 hp x0 hx0 h1),(o17 hp x0 hx0 h1)⟩,⟨rfl,tv⟩,(fun i6=>tv)⟩,tv⟩ ?_
  refine swp_seq ?_
  refine swp_region T0_ok mixed (cs:=[(1,CallSpec.eq (c90b l f) [true])]) (kt:=[4]) (kh:=[]) (q:=True/\((AV.vec 5000=AV.vec 5000/\True)/\Triple Try.prog 120 (c90b l f)/\(0 < (sortI (wf l f)).length/\(sortI (wf l f)).length<=65536)/\(some (OB.vec 3 1 (sortI (wf l f)).length fun (i:Nat)=>[iv ((sortI (wf l f)).getD i 0)])=some (OB.vec 3 1 (sortI (wf l f)).length fun (i:Nat)=>[iv ((sortI (wf l f)).getD i 0)])/\True) /\ ∀ (i7:Env),True)/\True/\True) (st':=ASt.mk [(4,aInts (compactI (sortI (wf l f))))] [] 10088) (by kernel_rfl) ⟨tv,⟨⟨rfl,tv⟩,(t120 _ _),⟨(o18 hp x0 hx0 h1),(o19 hp x0 hx0 h1)⟩,⟨rfl,tv⟩,(fun i7=>tv)⟩,tv,tv⟩ ?_
  refine swp_ret ?_
  exact ret_q [] ((True/\True)/\(1=1/\(compactI (sortI (wf l f))).length=(whereP l f).length /\ ∀ (i8:Nat),i8 < (whereP l f).length -> [iv ((compactI (sortI (wf l f))).getD i8 0)] = [iv ((whereP l f).getD i8 0)])/\T3) (by kernel_rfl) ⟨⟨tv,tv⟩,⟨rfl,(o20 hp x0 hx0 h1),(fun i8=>(fun h9=>(o21 hp x0 hx0 h1 i8 h9)))⟩,rfl,rfl,rfl⟩
theorem t90 (l:List WayS) (f:Nat):Triple Try.prog 90 (s90 l f):=by
  have hs:(sortI (wf l f)).length=l.length:=by rw [sortI_len,wf_len]
  have hw:=wf_len l f
  apply w90
  all_goals (first
    | ((repeat intro _) <;> (try simp only [v0,v1,v2,v3,v4,v5,v6,v7,v8,v9,inI,fits,Go.Sh.small] at *) <;> first | (exact rfl) | omega | exact vz | (simp_all; done) | (simp_all; omega))
    | (intro hp x hx hl
       simp only [decide_eq_true_eq,decide_eq_false_iff_not] at hl
       have h1:=wfTo_len (l:=l) (f:=f) hx
       have h2:=hp.2.2 x
       first
       | omega
       | (rw [wfTo_succ (by omega),List.length_append]; rfl)
       | (intro i hi; rw [wfTo_succ (by omega)]; exact catF_one _ _ 0 (fun z=>[iv z]) rfl (fun _ _=>rfl) rfl hi)
       | (rw [wfTo_full (by omega)]; done)
       | (intro i hi; rw [wfTo_full (by omega)])))
abbrev q35_1 (r:Run) (f:Int) (C:Prop):Prop:=fits r->(!decide (openE r (isFound r f)=0))=false->C
theorem w35 (r:Run) (f:Int)
 (o0:fits r->(!decide (openE r (isFound r f)=0))->(whereS r f).length=0)
 (o1:q35_1 r f (f=(↑(f.toNat):Int)))
 (o2:q35_1 r f (0 < (openL r (isFound r f)).length))
 (o3:q35_1 r f ((openL r (isFound r f)).length<=729))
 (o4:q35_1 r f (∀ (i3:Nat),i3 < (openL r (isFound r f)).length->f.toNat < ((openL r (isFound r f)).getD i3 default).frm.length))
 (o5:q35_1 r f ((whereP (openL r (isFound r f)) f.toNat).length=(whereS r f).length))
 (o6:q35_1 r f (∀ (i6:Nat),i6 < (whereS r f).length -> [iv ((whereP (openL r (isFound r f)) f.toNat).getD i6 0)] = [iv ((whereS r f).getD i6 0)]))
 (o7:q35_1 r f (0=openE r (isFound r f))) :
  Triple Try.prog 35 (s35 r f):=by
 refine triple_of Try.func35 rfl Try.call35 T0_ok _ rfl rfl rfl rfl (Nat.le_of_ble_eq_true (by kernel_rfl)) (fun _ _ _ _ h=>h) ?_
 intro hp C hC _ hE
 obtain ⟨P,w0,E0,av,hA⟩:=C
 subst hC
 refine swp_seq ?_
 refine sR (kt:=[1,2]) (kh:=[0]) (q:=True/\True/\True/\True) (st':=ASt.mk [(1,iv f),(2,.ptr 0 [])] [(0,.cells 25 (cRun r))] 24) (by kernel_rfl) ⟨tv,tv,tv,tv⟩ ?_
 refine swp_seq ?_
 refine swp_region T0_ok mixed (cs:=[(3,CallSpec.eq (s85 r f) [true,true]),(4,CallSpec.eq (c35o r f) [true,true])]) (kt:=[1,6,7]) (kh:=[]) (q:=True/\True/\True/\((AV.agg (cRun r)=AV.agg (cRun r)/\iv f=iv f/\True)/\Triple Try.prog 85 (s85 r f)/\fits r/\True /\ ∀ (i0:Env),True)/\((AV.agg (cRun r)=AV.agg (cRun r)/\bv (isFound r f)=bv (isFound r f)/\True)/\Triple Try.prog 78 (c35o r f)/\fits r/\True /\ ∀ (i1:Env),True)/\True/\True/\True/\True/\True/\True) (st':=ASt.mk [(1,iv f),(6,aWays (openL r (isFound r f))),(7,iv (openE r (isFound r f)))] [] 104) (by kernel_rfl) ⟨tv,tv,tv,⟨⟨rfl,rfl,tv⟩,(t85 (r) (f)),hp,tv,(fun i0=>tv)⟩,⟨⟨rfl,rfl,tv⟩,(t78 _ _),hp,tv,(fun i1=>tv)⟩,tv,tv,tv,tv,tv,tv⟩ ?_
 refine swp_seq (swp_seq ?_)
 refine sR (kt:=[1,6,7,17]) (kh:=[]) (q:=True/\True/\True) (st':=ASt.mk [(1,iv f),(6,aWays (openL r (isFound r f))),(7,iv (openE r (isFound r f))),(17,bv !decide (openE r (isFound r f)=0))] [] 120) (by kernel_rfl) ⟨tv,tv,tv⟩ ?_
 refine swp_cond (!decide (openE r (isFound r f)=0)) (by kernel_rfl) (fun h2 => ?_) (fun h2 => ?_)
 ·refine swp_seq ?_
  refine sR (kt:=[4,5]) (kh:=[]) (q:=True/\True/\True/\True) (st':=ASt.mk [(4,nilv),(5,iv (openE r (isFound r f)))] [] 144) (by kernel_rfl) ⟨tv,tv,tv,tv⟩ ?_
  refine swp_ret ?_
  exact ret_q [] ((True/\True/\True)/\((whereS r f).length=0/\(iv (openE r (isFound r f))=iv (openE r (isFound r f))/\nilN = [])/\True)/\T3) (by kernel_rfl) ⟨⟨tv,tv,tv⟩,⟨(o0 hp h2),⟨rfl,rfl⟩,tv⟩,rfl,rfl,rfl⟩
 ·refine swp_skip (swp_seq ?_)
  refine swp_region T0_ok mixed (cs:=[(2,CallSpec.eq (c35 r f) [true,false])]) (kt:=[4,5]) (kh:=[]) (q:=True/\True/\((aWays (openL r (isFound r f))=aWays (openL r (isFound r f))/\iv f=iv (↑(f.toNat):Int)/\True)/\Triple Try.prog 90 (c35 r f)/\(0 < (openL r (isFound r f)).length/\(openL r (isFound r f)).length<=729 /\ ∀ (i3:Nat),i3 < (openL r (isFound r f)).length->f.toNat < ((openL r (isFound r f)).getD i3 default).frm.length)/\True /\ ∀ (i5:Env),True)/\True/\True/\True) (st':=ASt.mk [(4,aInts (whereP (openL r (isFound r f)) f.toNat)),(5,iv 0)] [] 160) (by kernel_rfl) ⟨tv,tv,⟨⟨rfl,(congrArg iv (o1 hp h2)),tv⟩,(t90 _ _),⟨(o2 hp h2),(o3 hp h2),(fun i3=>(fun h4=>(o4 hp h2 i3 h4)))⟩,tv,(fun i5=>tv)⟩,tv,tv,tv⟩ ?_
  refine swp_ret ?_
  exact ret_q [] ((True/\True/\True)/\((1=1/\(whereP (openL r (isFound r f)) f.toNat).length=(whereS r f).length /\ ∀ (i6:Nat),i6 < (whereS r f).length -> [iv ((whereP (openL r (isFound r f)) f.toNat).getD i6 0)] = [iv ((whereS r f).getD i6 0)])/\(iv 0=iv (openE r (isFound r f))/\nilN = [])/\True)/\T3) (by kernel_rfl) ⟨⟨tv,tv,tv⟩,⟨⟨rfl,(o5 hp h2),(fun i6=>(fun h7=>(o6 hp h2 i6 h7)))⟩,⟨(congrArg iv (o7 hp h2)),rfl⟩,tv⟩,rfl,rfl,rfl⟩
theorem t35 (r:Run) (f:Int):Triple Try.prog 35 (s35 r f):=by
  apply w35
  all_goals (first
    | ((repeat intro _) <;> (try simp only [v0,v1,v2,v3,v4,v5,v6,v7,v8,v9,inI,fits,Go.Sh.small] at *) <;> first | (exact rfl) | omega | exact vz | (simp_all; done) | (simp_all; omega))
    | (intro _ h; rw [whereS,if_neg (openBad h)] <;> rfl)
    | (intro _ h
       have F:=openF h
       have h1:0<=f/\f < r.found.length:=by have:=F.isT; simp only [isFound,Go.Sh.within_iff] at this; omega
       have h2:=F.len
       have h3:=F.pos
       first
       | exact F.zero.symm
       | omega
       | (intro x hx; rw [F.frm x hx]; omega)
       | (rw [whereS,if_pos F.zero,F.eq]; done)
       | (intro x hx; rw [whereS,if_pos F.zero,F.eq])))
end Go.Ab
namespace Go.Ab
open Go Go.RowKit
theorem swp_cases {C:Ctx} {nt:Nat} {K:AX->ASt->Prop} {st:ASt} {c:Code} (b:Bool) (h1:b=true->SWP C nt c K st) (h2:b=false->SWP C nt c K st):SWP C nt c K st:=by
 cases b with
 | true=>exact h1 rfl
 | false=>exact h2 rfl
def hoIn (L:List (Nat × OB)):List (Nat × OB)->Prop
 | []=>True
 | p :: r=>Heap.of L p.1=some p.2/\hoIn L r
theorem hoIn_mem {L:List (Nat × OB)}:∀ {l:List (Nat × OB)},hoIn L l -> ∀ p ∈ l,Heap.of L p.1=some p.2:=by
 intro l
 induction l with
 | nil=>intro _ p hp; cases hp
 | cons q r ih =>
  intro h p hp
  cases hp with
  | head=>exact h.1
  | tail _ hp=>exact ih h.2 p hp
def retO (T:Tab) (rs:List ResultVar) (st:ASt) (res:AV) (hout:List (Nat × OB)):Prop :=
 match resVals T st rs with
 | some (q,rvs)=>q/\retAV rvs=res/\hoIn st.hp hout
 | none=>False
def RetO (C:Ctx) (nt:Nat) (T:Tab) (rs:List ResultVar) (res:AV) (hout:List (Nat × OB)):AX->ASt->Prop
 | .exit _,_=>False
 | _,st => ∃ st2,Ent C nt st st2/\retO T rs st2 res hout
def renI:List (Nat × Nat)->Nat->Nat
 | [],j=>j
 | p :: r,j=>if p.1=j then p.2 else renI r j
def renC (l:List (Nat × Nat)):AV->AV
 | .vec b => .vec (renI l b)
 | v=>v
def renV1 (l:List (Nat × Nat)):AV->AV
 | .agg cs => .agg (cs.map (renC l))
 | v=>renC l v
def renV (l:List (Nat × Nat)):AV->AV
 | .tup vs => .tup (vs.map (renV1 l))
 | v=>renV1 l v
def renB (l:List (Nat × Nat)):OB->OB
 | .vecx t sz n f j fj => .vecx t sz n f j (fj.map (renC l))
 | ob=>ob
def okC (ks:List Nat):AV->Bool
 | .vec b=>ks.contains b
 | v=>(ids v).isEmpty
def okV1 (ks:List Nat):AV->Bool
 | .agg cs=>cs.all (okC ks)
 | v=>okC ks v
def okV (ks:List Nat):AV->Bool
 | .tup vs=>vs.all (okV1 ks)
 | v=>okV1 ks v
def okB (ks:List Nat):OB->Bool
 | .vec _ _ _ _=>true
 | .vecx _ _ _ _ _ fj=>fj.all (okC ks) && noFnL fj
 | _=>false
structure OutSpec where
 args:List AV
 pre:Prop:=True
 res:AV
 hout:List (Nat × OB)
def OutSpec.at (s:OutSpec) (l:List (Nat × Nat)):CallSpec:={ args:=s.args,pre:=s.pre,res:=renV l s.res,hout:=s.hout.map (fun p=>(renI l p.1,renB l p.2)) }
theorem noDup_nodup:∀ {l:List Nat},noDup l=true->l.Nodup:=by
 intro l
 induction l with
 | nil=>intro _; exact List.nodup_nil
 | cons c l ih =>
  intro h
  obtain ⟨h1,h2⟩:=noDup_cons h
  exact List.nodup_cons.2 ⟨h1,ih h2⟩
structure Ren (l:List (Nat × Nat)) (E F:Env):Prop where
 M:∀ b o,E.M b=some o->F.M b=some o
 fns:F.fns=E.fns
 same:∀ c,c ∈ l.map (·.1)->F.blk (renI l c)=E.blk c/\F.hdr (renI l c)=E.hdr c
theorem renC_rel {l:List (Nat × Nat)} {E F:Env} (hr:Ren l E F) {v:AV} {u:Value} (ho:okC (l.map (·.1)) v=true) (h:Rel E true v u):Rel F true (renC l v) u:=by
 cases v with
 | vec b =>
  have hm:b ∈ l.map (·.1):=by simpa [okC] using ho
  cases h with
  | vec _ hh h1=>exact .vec _ (by rw [(hr.same b hm).2]; exact hh) h1
 | _ =>
  simp only [renC]
  simp only [okC,List.isEmpty_iff] at ho
  exact Rel.trim hr.M hr.fns h (fun _=>ho)
theorem renL_rel {l:List (Nat × Nat)} {E F:Env} (hr:Ren l E F):∀ {cs:List AV} {us:List Value},cs.all (okC (l.map (·.1)))=true->RelL E true cs us->RelL F true (cs.map (renC l)) us:=by
 intro cs
 induction cs with
 | nil=>intro us _ h; cases h; exact .nil
 | cons c cs ih =>
  intro us ho h
  simp only [List.all_cons,Bool.and_eq_true] at ho
  cases h with
  | cons h h1 hs=>exact .cons (renC_rel hr ho.1 h) h1 (ih ho.2 hs)
  | arr g hg h hs=>exact .arr g hg (fun i hi=>(h i hi).trim hr.M hr.fns) (ih ho.2 hs)
theorem renV1_rel {l:List (Nat × Nat)} {E F:Env} (hr:Ren l E F) {v:AV} {u:Value} (ho:okV1 (l.map (·.1)) v=true) (h:Rel E true v u):Rel F true (renV1 l v) u:=by
 cases v with
 | agg cs =>
  cases h with
  | agg hl=>exact .agg (renL_rel hr ho hl)
 | _ =>
  simp only [renV1]
  simp only [okV1] at ho
  exact renC_rel hr ho h
theorem renV_rel {l:List (Nat × Nat)} {E F:Env} (hr:Ren l E F) {v:AV} {u:Value} (ho:okV (l.map (·.1)) v=true) (h:Rel E true v u):Rel F true (renV l v) u:=by
 cases v with
 | tup vs =>
  cases h with
  | tup hl hk =>
   rename_i us
   refine .tup (by rw [List.length_map]; exact hl) fun k => ?_
   have h0:=hk k
   simp only [okV,List.all_eq_true] at ho
   by_cases hlt:k < vs.length
   ·have e1:(vs.map (renV1 l)).getD k .any=renV1 l (vs.getD k .any):=by
     simp [List.getD,List.getElem?_eq_getElem hlt]
    rw [e1]
    refine renV1_rel hr (ho _ ?_) h0
    simp [List.getD,List.getElem?_eq_getElem hlt]
   ·rw [List.getD_eq_getElem?_getD,List.getElem?_eq_none (by simpa using hlt)]
    exact .any _
 | _ =>
  simp only [renV]
  simp only [okV] at ho
  exact renV1_rel hr ho h
theorem renI_mem:∀ {l:List (Nat × Nat)} {c:Nat},c ∈ l.map (·.1)->(c,renI l c) ∈ l:=by
 intro l
 induction l with
 | nil=>intro c h; cases h
 | cons p r ih =>
  intro c h
  unfold renI
  split
  ·rename_i e; rw [← e]; exact List.mem_cons_self
  ·rename_i e
   refine List.mem_cons_of_mem _ (ih ?_)
   simp only [List.map_cons,List.mem_cons] at h
   rcases h with h | h
   ·exact absurd h.symm e
   ·exact h
def unI:List (Nat × Nat)->Nat->Option Nat
 | [],_=>none
 | p :: r,j=>if p.2=j then some p.1 else unI r j
theorem unI_of:∀ {l:List (Nat × Nat)},(l.map (·.2)).Nodup -> ∀ {c b:Nat},(c,b) ∈ l->unI l b=some c:=by
 intro l
 induction l with
 | nil=>intro _ c b h; cases h
 | cons p r ih =>
  intro hn c b h
  rw [List.map_cons,List.nodup_cons] at hn
  unfold unI
  cases h with
  | head=>rw [if_pos rfl]
  | tail _ h =>
   have:¬ p.2=b:=fun e=>hn.1 (by rw [e]; exact List.mem_map_of_mem (f:=fun x:Nat × Nat=>x.2) h)
   rw [if_neg this]
   exact ih hn.2 h
theorem unI_mem:∀ {l:List (Nat × Nat)} {c b:Nat},unI l b=some c->(c,b) ∈ l:=by
 intro l
 induction l with
 | nil=>intro c b h; cases h
 | cons p r ih =>
  intro c b h
  unfold unI at h
  split at h
  ·rename_i e; cases h; rw [← e]; exact List.mem_cons_self
  ·exact List.mem_cons_of_mem _ (ih h)
theorem triple_out {P:Program} {f:FuncId} {fn:Func} {c:Code} {T:Tab} (hf:P.funcs[f]? = some fn) (hb:fn.body=some c) (hcall:Callable P f) (hT:Tab.ok P T) (args:List AV) (pre:Prop) (res:AV) (hout:List (Nat × OB)) (l:List (Nat × Nat))
  (hargs:idsL args = []) (hn:args.length<=fn.ntmps) (hl1:l.map (·.1)=hout.map (·.1)) (hnd:(l.map (·.2)).Nodup) (hres:okV (hout.map (·.1)) res=true) (hob:hout.all (fun p=>okB (hout.map (·.1)) p.2)=true) (hnd1:noDup (hout.map (·.1))=true)
  (body:pre -> ∀ C:Ctx,C.P=P->(∀ j,C.E0.blk j=none/\C.E0.hdr j=none)->SWP C fn.ntmps c (RetO C fn.ntmps T fn.results.toList res hout) ⟨argsTm args 0,[],0⟩) :
  Triple P f ((⟨args,pre,res,hout⟩:OutSpec).at l):=by
 have hk:∀ p ∈ l,∃ ob,(p.1,ob) ∈ hout:=by
  intro p hp
  have:p.1 ∈ hout.map (·.1):=by rw [← hl1]; exact List.mem_map_of_mem (f:=fun x:Nat × Nat=>x.1) hp
  obtain ⟨q,hq,he⟩:=List.mem_map.1 this
  exact ⟨q.2,by rw [← he]; exact hq⟩
 replace hnd1:(l.map (·.1)).Nodup:=by rw [hl1]; exact noDup_nodup hnd1
 rw [← hl1] at hres
 replace hob:hout.all (fun p=>okB (l.map (·.1)) p.2 && (l.map (·.1)).contains p.1)=true:=by
  rw [List.all_eq_true] at hob ⊢
  intro p hp
  rw [hl1,hob p hp,Bool.true_and,List.contains_eq_mem]
  exact decide_eq_true (List.mem_map_of_mem (f:=fun x:Nat × OB=>x.1) hp)
 show Triple P f { args:=args,pre:=pre,res:=renV l res,hout:=hout.map (fun p=>(renI l p.1,renB l p.2)) }
 refine ⟨hcall,fun hpre E w vs _ hok hlen hrel hfresh => ?_⟩
 let E0:Env:={ E with blk:=fun _=>none,hdr:=fun _=>none }
 let C:Ctx:=calleeCtx P E0 w []
 have hok0:HeapOK C E0 (Heap.of []) w:=⟨rfl,rfl,rfl,Nat.le_refl _,fun _ _=>rfl,fun b o h=>hok.mem b o h,Env.le.refl _,fun b o h => .inl h,(fun i ob h=>by cases h),(fun i j k _ h=>absurd rfl h)⟩
 have htm:∀ t,Rel E0 true (look (argsTm args 0) t) ((vs.toArray ++ Array.replicate (fn.ntmps - vs.toArray.size) undef).getD t undef):=by
  intro t
  rw [look_args,if_pos (Nat.zero_le _),Nat.sub_zero]
  rcases Nat.lt_or_ge t vs.length with ht | ht
  ·have h1:(vs.toArray ++ Array.replicate (fn.ntmps - vs.toArray.size) undef).getD t undef=vs.getD t undef:=by
    simp only [Array.getD_eq_getD_getElem?,List.getD_eq_getElem?_getD]
    rw [Array.getElem?_append_left (by simpa using ht)]
    simp
   rw [h1]
   exact Rel.trim (E:=E) (F:=E0) (fun _ _ h=>h) rfl (hrel t) (fun _=>idsL_get hargs t)
  ·have hl':vs.length=args.length:=hlen
   rw [List.getD_eq_getElem?_getD,List.getElem?_eq_none (by omega)]
   exact .any _
 have hl':vs.length=args.length:=hlen
 have hsat:Sat C E0 fn.ntmps ⟨argsTm args 0,[],0⟩ w { tmps:=vs.toArray ++ Array.replicate (fn.ntmps - vs.toArray.size) undef,defers:=[] } :=
  ⟨⟨hok0,htm,rfl,by simp; omega⟩,fun j _=>⟨rfl,rfl⟩⟩
 have hsw:=body hpre C rfl (fun j=>⟨rfl,rfl⟩) E0 w _ hsat
 refine calls_of_wp hf hb (wp_mono hsw ?_)
 rintro e a' w' ⟨x,E1,st1,rfl,hs1,hk1⟩
 have fin:(∃ st2,Ent C fn.ntmps st1 st2/\retO T fn.results.toList st2 res hout)->a'.defers = [] /\ ∃ v,(results fn a'.tmps).run P w' = .ok v w'/\CallPost P { args:=args,pre:=pre,res:=renV l res,hout:=hout.map (fun p=>(renI l p.1,renB l p.2)) } E w (.returned v) w':=by
  rintro ⟨st2,hent,hq⟩
  obtain ⟨E',hs'⟩:=hent E1 w' a' hs1
  refine ⟨hs'.ok.defers,?_⟩
  unfold retO at hq
  split at hq
  ·rename_i q rvs hrv
   obtain ⟨hq0,hres0,hho⟩:=hq
   obtain ⟨us,hus,hul,hur⟩:=resVals_run (C:=C) hT hs' _ q rvs hrv hq0
   have hrun:=results_run (P:=P) hus
   refine ⟨_,hrun,?_⟩
   have hrv':Rel E' true (retAV rvs) (if h:us.length=1 then us[0] else .tuple us.toArray):=by
    cases rvs with
    | nil =>
     have:us = []:=List.eq_nil_of_length_eq_zero hul
     subst this
     exact .tup rfl (fun k=>hur k)
    | cons v r =>
     cases r with
     | nil =>
      have hul1:us.length=1:=hul
      rw [dif_pos hul1]
      have:=hur 0
      simp only [List.getD_cons_zero] at this
      rw [List.getD_eq_getElem?_getD,List.getElem?_eq_getElem (by omega)] at this
      exact this
     | cons v2 r =>
      have hne:¬ us.length=1:=by rw [hul]; simp
      rw [dif_neg hne]
      exact .tup (cs:=v :: v2 :: r) hul hur
   rw [hres0] at hrv'
   have hle:=hs'.ok.heap.le
   let F:Env:={ E with M:=E'.M,blk:=fun j=>match unI l j with | some c=>E'.blk c | none=>E.blk j,hdr:=fun j=>match unI l j with | some c=>E'.hdr c | none=>E.hdr j }
   have hfns:F.fns=E'.fns:=by
    show E.fns=E'.fns
    exact (hle.fns.symm:E0.fns=E'.fns)
   have hren:Ren l E' F:=by
    refine ⟨fun b o h=>h,hfns,fun c hc => ?_⟩
    have:=unI_of hnd (renI_mem hc)
    constructor
    ·show (match unI l (renI l c) with | some c=>E'.blk c | none=>E.blk (renI l c))=_
     rw [this]
    ·show (match unI l (renI l c) with | some c=>E'.hdr c | none=>E.hdr (renI l c))=_
     rw [this]
   have hinfo:∀ p ∈ hout,okB (l.map (·.1)) p.2=true/\p.1 ∈ l.map (·.1):=by
    intro p hp
    rw [List.all_eq_true] at hob
    have:=hob p hp
    simp only [Bool.and_eq_true,List.contains_eq_mem,decide_eq_true_eq] at this
    exact this
   have hfr:∀ j c,unI l j=some c->E.blk j=none/\E.hdr j=none:=by
    intro j c hj
    obtain ⟨ob,hob'⟩:=hk _ (unI_mem hj)
    have hm:c ∈ l.map (·.1):=(hinfo _ hob').2
    have h1:=unI_of hnd (renI_mem hm)
    have h2:=renI_mem hm
    have hjr:renI l c=j:=by
     have h3:=unI_mem hj
     -- both pairs have the same first part
     have key:∀ {l:List (Nat × Nat)},(l.map (·.1)).Nodup -> ∀ {c a b:Nat},(c,a) ∈ l->(c,b) ∈ l->a=b:=by
      intro l
      induction l with
      | nil=>intro _ c a b h; cases h
      | cons p r ih =>
       intro hn c a b ha hb
       rw [List.map_cons,List.nodup_cons] at hn
       cases ha with
       | head =>
        cases hb with
        | head=>rfl
        | tail _ hb=>exact absurd (List.mem_map_of_mem (f:=fun x:Nat × Nat=>x.1) hb) hn.1
       | tail _ ha =>
        cases hb with
        | head=>exact absurd (List.mem_map_of_mem (f:=fun x:Nat × Nat=>x.1) ha) hn.1
        | tail _ hb=>exact ih hn.2 ha hb
     exact key hnd1 h2 h3
    have hmem:(renI l c,renB l ob) ∈ hout.map (fun p=>(renI l p.1,renB l p.2)):=List.mem_map_of_mem (f:=fun p:Nat × OB=>(renI l p.1,renB l p.2)) hob'
    have:=hfresh _ hmem (fun q hq=>by cases hq)
    rw [hjr] at this
    exact this
   have lF:E.le F:=by
    refine ⟨fun b o h=>hle.M b o h,fun b k h => ?_,fun b u h => ?_,rfl⟩
    ·show (match unI l b with | some c=>E'.blk c | none=>E.blk b)=some k
     cases e:unI l b with
     | none=>exact h
     | some c=>rw [(hfr b c e).1] at h; cases h
    ·show (match unI l b with | some c=>E'.hdr c | none=>E.hdr b)=some u
     cases e:unI l b with
     | none=>exact h
     | some c=>rw [(hfr b c e).2] at h; cases h
   have hget:∀ i ob,Heap.of (hout.map (fun p=>(renI l p.1,renB l p.2))) i=some ob -> ∃ c ob0,unI l i=some c/\ob=renB l ob0/\Heap.of st2.hp c=some ob0/\okB (l.map (·.1)) ob0=true/\renI l c=i:=by
    intro i ob hi
    have hm:=Heap.of_mem hi
    obtain ⟨p,hp,he⟩:=List.mem_map.1 hm
    cases he
    exact ⟨p.1,p.2,unI_of hnd (renI_mem (hinfo p hp).2),rfl,hoIn_mem hho p hp,(hinfo p hp).1,rfl⟩
   have h':=hs'.ok.heap
   have av1:∀ x,C.avail x->(calleeCtx P E w []).avail x:=by
    rintro x (h | ⟨q,hq,_⟩)
    ·exact .inl h
    ·cases hq
   refine ⟨_,F,rfl,?_,renV_rel hren hres hrv',fun j hj => ?_⟩
   ·refine ⟨h'.os,h'.tape,h'.output,h'.size,fun x hx=>h'.pres x (fun h=>hx (av1 x h)),fun x o h=>h'.mem x o h,lF,fun x o h => ?_,fun i ob hi => ?_,fun i j y hij hi hj hiy hjy => ?_⟩
    ·rcases h'.ext x o h with h | h
     ·exact .inl h
     ·exact .inr (av1 x h)
    ·obtain ⟨c,ob0,hc,rfl,hst,hok',hri⟩:=hget i ob hi
     have hown:=h'.own c ob0 hst
     have hcb:F.blk i=E'.blk c:=by
      show (match unI l i with | some c=>E'.blk c | none=>E.blk i)=_
      rw [hc]
     have hch:F.hdr i=E'.hdr c:=by
      show (match unI l i with | some c=>E'.hdr c | none=>E.hdr i)=_
      rw [hc]
     cases ob0 with
     | vec t sz n f =>
      obtain ⟨hd,g,hh,ho,hgl,hgr,hbk,hav⟩:=hown
      exact ⟨hd,g,by rw [hch]; exact hh,ho,hgl,fun i hi=>RelL.trim (E:=E') (F:=F) (fun _ _ h=>h) hfns (hgr i hi),by rw [hcb]; exact hbk,fun k hk=>⟨av1 k (hav k hk).1,(hav k hk).2⟩⟩
     | vecx t sz n f j fj =>
      obtain ⟨hd,g,hh,ho,hgl,hgr,hgj,hbk,hav⟩:=hown
      simp only [okB,Bool.and_eq_true] at hok'
      exact ⟨hd,g,by rw [hch]; exact hh,ho,hgl,fun i hi hij=>RelL.trim (E:=E') (F:=F) (fun _ _ h=>h) hfns (hgr i hi hij),fun h=>renL_rel hren hok'.1 (hgj h),by rw [hcb]; exact hbk,fun k hk=>⟨av1 k (hav k hk).1,(hav k hk).2⟩⟩
     | _=>cases hok'
    ·have get:∀ i,Heap.of (hout.map (fun p=>(renI l p.1,renB l p.2))) i ≠ none->F.blk i=some y -> ∃ c,unI l i=some c/\Heap.of st2.hp c ≠ none/\E'.blk c=some y/\renI l c=i:=by
      intro i hi hiy
      cases e:Heap.of (hout.map (fun p=>(renI l p.1,renB l p.2))) i with
      | none=>exact absurd e hi
      | some ob =>
       obtain ⟨c,ob0,hc,rfl,hst,hok',hri⟩:=hget i ob e
       refine ⟨c,hc,by rw [hst]; simp,?_,hri⟩
       have:F.blk i=E'.blk c:=by
        show (match unI l i with | some c=>E'.blk c | none=>E.blk i)=_
        rw [hc]
       rw [← this]; exact hiy
     obtain ⟨c1,_,n1,k1,r1⟩:=get i hi hiy
     obtain ⟨c2,_,n2,k2,r2⟩:=get j hj hjy
     exact h'.sep c1 c2 y (fun e=>hij (by rw [← r1,← r2,e])) n1 n2 k1 k2
   ·have:unI l j=none:=by
     cases e:unI l j with
     | none=>rfl
     | some c =>
      obtain ⟨ob,hob'⟩:=hk _ (unI_mem e)
      have hm:c ∈ l.map (·.1):=(hinfo _ hob').2
      exfalso
      have hmem:(renI l c,renB l ob) ∈ hout.map (fun p=>(renI l p.1,renB l p.2)):=List.mem_map_of_mem (f:=fun p:Nat × OB=>(renI l p.1,renB l p.2)) hob'
      refine hj _ hmem ?_
      show renI l c=j
      have h2:=renI_mem hm
      have h3:=unI_mem e
      have key:∀ {l:List (Nat × Nat)},(l.map (·.1)).Nodup -> ∀ {c a b:Nat},(c,a) ∈ l->(c,b) ∈ l->a=b:=by
       intro l
       induction l with
       | nil=>intro _ c a b h; cases h
       | cons p r ih =>
        intro hn c a b ha hb
        rw [List.map_cons,List.nodup_cons] at hn
        cases ha with
        | head =>
         cases hb with
         | head=>rfl
         | tail _ hb=>exact absurd (List.mem_map_of_mem (f:=fun x:Nat × Nat=>x.1) hb) hn.1
        | tail _ ha =>
         cases hb with
         | head=>exact absurd (List.mem_map_of_mem (f:=fun x:Nat × Nat=>x.1) ha) hn.1
         | tail _ hb=>exact ih hn.2 ha hb
      exact key hnd1 h2 h3
    constructor
    ·show (match unI l j with | some c=>E'.blk c | none=>E.blk j)=_
     rw [this]
    ·show (match unI l j with | some c=>E'.hdr c | none=>E.hdr j)=_
     rw [this]
  ·exact hq.elim
 cases x with
 | normal=>exact fin hk1
 | ret=>exact fin hk1
 | exit id=>exact hk1.elim
section
variable {C:Ctx} {nt:Nat} {K:AX->ASt->Prop} {st:ASt}
theorem ret_o {T:Tab} {rs:List ResultVar} {res:AV} {hout:List (Nat × OB)} (st2:ASt) (he:Ent C nt st st2) (q:Prop) (hq:retO T rs st2 res hout=q) (h:q):RetO C nt T rs res hout .ret st:=⟨st2,he,by rw [hq]; exact h⟩
end
end Go.Ab
namespace Go.Sh
def eqN (i j:Nat):Bool:=decide (i=j)
theorem eqN_t {i j:Nat} (h:eqN i j=true):i=j:=of_decide_eq_true h
theorem eqN_f {i j:Nat} (h:eqN i j=false):i ≠ j:=of_decide_eq_false h
def chLen (r:Run) (j i:Nat):Nat:=if j < i then (mach r j).changes.length else 0
def nwLen (r:Run) (j i:Nat):Nat:=if j < i then (fnd r j).new.length else 0
theorem chLen_self (r:Run) (j:Nat):chLen r j (j + 1)=(mach r j).changes.length:=if_pos (Nat.lt_succ_self j)
theorem chLen_other {r:Run} {j i:Nat} (h:i ≠ j):chLen r j (i + 1)=chLen r j i:=by
 unfold chLen
 by_cases h1:j < i
 ·rw [if_pos h1,if_pos (by omega)]
 ·rw [if_neg h1,if_neg (by omega)]
theorem nwLen_self (r:Run) (j:Nat):nwLen r j (j + 1)=(fnd r j).new.length:=if_pos (Nat.lt_succ_self j)
theorem nwLen_other {r:Run} {j i:Nat} (h:i ≠ j):nwLen r j (i + 1)=nwLen r j i:=by
 unfold nwLen
 by_cases h1:j < i
 ·rw [if_pos h1,if_pos (by omega)]
 ·rw [if_neg h1,if_neg (by omega)]
end Go.Sh
namespace Go.Ab
open Go Go.RowKit Go.Proofs Go.Sh Go.En
def focS:CallSpec:={ args:=[],res := .any }
def ou20 (r:Run) (jm jf:Nat):OutSpec:={ args:=[vRun r],pre:=small r,res := .agg [iv r.plates,iv r.last,.vec 0,.vec 1],hout:=[(0,.vecx 42 2 r.machines.length (fun k=>cMach (mach r k)) jm [.vec 2,iv (mach r jm).rate]),(1,.vecx 32 3 r.found.length (fun k=>cFnd (fnd r k)) jf [iv (fnd r jf).minute,.vec 3,aInts (fnd r jf).frm]),(2,.vec 37 2 (chLen r jm r.machines.length) (fun p=>cSpan (chg (mach r jm) p))),(3,.vec 3 1 (nwLen r jf r.found.length) (fun p=>[iv ((fnd r jf).new.getD p 0)]))] }
def h20xa (r:Run) (jm jf:Nat):Hint:={ X:=Nat,M:=fun i=>[(4,iv i)],H:=fun i=>[(56,.cells 25 [iv r.plates,iv r.last,.vec 5000,nilv]),(5000,.vecx 42 2 i (fun k=>cMach (mach r k)) jm [.vec 5002,iv (mach r jm).rate]),(5002,.vec 37 2 (chLen r jm i) (fun p=>cSpan (chg (mach r jm) p)))],I:=fun i=>i<=r.machines.length,mu:=fun i=>r.machines.length - i,x0:=(0:Nat),nx:=fun i=>i + 1 }
def h20xb (r:Run) (jm jf:Nat):Hint:={ X:=Nat,M:=fun i=>[(5,iv i)],H:=fun i=>[(56,.cells 25 [iv r.plates,iv r.last,.vec 5000,.vec 5001]),(5000,.vecx 42 2 r.machines.length (fun k=>cMach (mach r k)) jm [.vec 5002,iv (mach r jm).rate]),(5002,.vec 37 2 (chLen r jm r.machines.length) (fun p=>cSpan (chg (mach r jm) p))),(5001,.vecx 32 3 i (fun k=>cFnd (fnd r k)) jf [iv (fnd r jf).minute,.vec 5003,aInts (fnd r jf).frm]),(5003,.vec 3 1 (nwLen r jf i) (fun p=>[iv ((fnd r jf).new.getD p 0)]))],I:=fun i=>i<=r.found.length,mu:=fun i=>r.found.length - i,x0:=(0:Nat),nx:=fun i=>i + 1 }
def f20 (r:Run) (jm jf:Nat) (i:Nat):CallSpec:=focS
end Go.Ab
