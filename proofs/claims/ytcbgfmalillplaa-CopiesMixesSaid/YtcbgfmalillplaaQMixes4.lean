/- Part 4 of the proof: own library, plain forms and walks. -/
import Derived.Test.YtcbgfmalillplaaQMixes3
import Derived.Shelf.Sort.Plain
import Derived.Shelf.Slices.CompactI
import Derived.Test.YtcbgfmalillplaaProg
import Derived.Sort.Grow
import Derived.Lib.SlicesCompact
set_option linter.all false
set_option linter.deprecated false
namespace Go.Ab
open Go Go.RowKit Go.Proofs Go.Sh Go.En
abbrev z108_1 (w:WayS) (m:Nat) (p:Nat) (x0:Nat):LoopAnn:=Hint.ann (h108b w m p x0) [(6,AV.ptr 8 []),(7,AV.win 0 [PS.fld 1,PS.idx m 6] 2 p),(28,AV.win 0 [PS.fld 1,PS.idx m 6] 2 p),(29,iv (p:Int)),(8,iv (min (sprTo (w.whn m) p x0).first (w.whn m x0).hi)),(9,iv (max (sprTo (w.whn m) p x0).last (w.whn m x0).lo)),(30,iv (x0:Int)),(12,AV.ptr 10208 []),(11,iv (x0:Int)),(43,AV.win 0 [PS.fld 1,PS.idx m 6] 2 p),(44,iv (p:Int))] [(8,OB.cells 37 [iv 0,iv 0]),(0,OB.cells 107 (cWay w)),(10208,OB.cells 37 (cSpan (w.whn m x0)))] 20336
abbrev z108_2 (w:WayS) (m:Nat) (p:Nat):LoopAnn:=Hint.ann (h108a w m p) [(6,AV.ptr 8 []),(7,AV.win 0 [PS.fld 1,PS.idx m 6] 2 p),(28,AV.win 0 [PS.fld 1,PS.idx m 6] 2 p),(29,iv (p:Int))] [(8,OB.cells 37 [iv 0,iv 0]),(0,OB.cells 107 (cWay w))] 10176
abbrev q108_1 (w:WayS) (m:Nat) (p:Nat) (C:Prop):Prop:=wb w/\m < 3/\1<=p/\p<=3->C
abbrev q108_2 (w:WayS) (m:Nat) (p:Nat) (C:Nat->Prop):Prop:=q108_1 w m p (∀ (x0:Nat),x0<=p->decide ((x0:Int) < p)=true->C x0)
abbrev q108_3 (w:WayS) (m:Nat) (p:Nat) (C:Nat->Nat->Prop):Prop:=q108_2 w m p fun x0 => ∀ (x2:Nat),x2<=p->decide ((x2:Int) < p)=true->C x0 x2
abbrev q108_4 (w:WayS) (m:Nat) (p:Nat) (C:Nat->Nat->Prop):Prop:=q108_3 w m p fun x0 x2=>(!decide ((x0:Int)=x2))->C x0 x2
abbrev q108_5 (w:WayS) (m:Nat) (p:Nat) (C:Nat->Nat->Prop):Prop:=q108_3 w m p fun x0 x2=>(!decide ((x0:Int)=x2))=false->C x0 x2
abbrev q108_6 (w:WayS) (m:Nat) (p:Nat) (C:Nat->Nat->Prop):Prop:=q108_2 w m p fun x0 => ∀ (x2:Nat),x2<=p->decide ((x2:Int) < p)=false->C x0 x2
abbrev q108_7 (w:WayS) (m:Nat) (p:Nat) (C:Nat->Prop):Prop:=q108_1 w m p (∀ (x0:Nat),x0<=p->decide ((x0:Int) < p)=false->C x0)
theorem w108 (w:WayS) (m:Nat) (p:Nat)
 (o0:q108_1 w m p (0<=(↑m:Int)))
 (o1:q108_1 w m p ((m:Int) < (↑3:Int)))
 (o2:q108_1 w m p (0<=(↑p:Int)))
 (o3:q108_1 w m p ((p:Int)<=(↑3:Int)))
 (o4:q108_1 w m p (0 < (↑p:Int)))
 (o5:q108_1 w m p (m < 3))
 (o6:q108_1 w m p (0 < (↑p:Int)))
 (o7:q108_1 w m p (m < 3))
 (o8:q108_1 w m p ((w.whn m 0).hi=(sprTo (w.whn m) p 0).first))
 (o9:q108_1 w m p ((w.whn m 0).lo=(sprTo (w.whn m) p 0).last))
 (o10:q108_1 w m p (0=(sprTo (w.whn m) p 0).high))
 (o11:q108_1 w m p (0=(↑0:Int)))
 (o12:q108_1 w m p (0<=p))
 (o13:q108_2 w m p fun x0=>0<=(x0:Int))
 (o14:q108_2 w m p fun x0=>(x0:Int) < p)
 (o15:q108_2 w m p fun x0=>m < 3)
 (o16:q108_2 w m p fun x0=>x0 < 3)
 (o17:q108_2 w m p fun x0=>(sprTo (w.whn m) p x0).high=sprIn (w.whn m) x0 (sprTo (w.whn m) p x0).high 0)
 (o18:q108_2 w m p fun x0=>0=(↑0:Int))
 (o19:q108_2 w m p fun x0=>0<=p)
 (o20:q108_3 w m p fun x0 x2=>0<=(x2:Int))
 (o21:q108_3 w m p fun x0 x2=>(x2:Int) < p)
 (o22:q108_3 w m p fun x0 x2=>m < 3)
 (o23:q108_3 w m p fun x0 x2=>x2 < 3)
 (o24:q108_4 w m p fun x0 x2=>inI ((w.whn m x0).hi - (w.whn m x2).lo))
 (o25:q108_4 w m p fun x0 x2=>inI ((x2:Int) + 1))
 (o26:q108_4 w m p fun x0 x2=>max (sprIn (w.whn m) x0 (sprTo (w.whn m) p x0).high x2) ((w.whn m x0).hi - (w.whn m x2).lo)=sprIn (w.whn m) x0 (sprTo (w.whn m) p x0).high (x2 + 1))
 (o27:q108_4 w m p fun x0 x2=>(x2:Int) + 1=(↑(x2 + 1):Int))
 (o28:q108_4 w m p fun x0 x2=>x2 + 1<=p)
 (o29:q108_4 w m p fun x0 x2=>p - (x2 + 1) < p - x2)
 (o30:q108_5 w m p fun x0 x2=>inI ((x2:Int) + 1))
 (o31:q108_5 w m p fun x0 x2=>sprIn (w.whn m) x0 (sprTo (w.whn m) p x0).high x2=sprIn (w.whn m) x0 (sprTo (w.whn m) p x0).high (x2 + 1))
 (o32:q108_5 w m p fun x0 x2=>(x2:Int) + 1=(↑(x2 + 1):Int))
 (o33:q108_5 w m p fun x0 x2=>x2 + 1<=p)
 (o34:q108_5 w m p fun x0 x2=>p - (x2 + 1) < p - x2)
 (o35:q108_6 w m p fun x0 x2=>inI ((x0:Int) + 1))
 (o36:q108_6 w m p fun x0 x2=>min (sprTo (w.whn m) p x0).first (w.whn m x0).hi=(sprTo (w.whn m) p (x0 + 1)).first)
 (o37:q108_6 w m p fun x0 x2=>max (sprTo (w.whn m) p x0).last (w.whn m x0).lo=(sprTo (w.whn m) p (x0 + 1)).last)
 (o38:q108_6 w m p fun x0 x2=>sprIn (w.whn m) x0 (sprTo (w.whn m) p x0).high x2=(sprTo (w.whn m) p (x0 + 1)).high)
 (o39:q108_6 w m p fun x0 x2=>(x0:Int) + 1=(↑(x0 + 1):Int))
 (o40:q108_6 w m p fun x0 x2=>x0 + 1<=p)
 (o41:q108_6 w m p fun x0 x2=>p - (x0 + 1) < p - x0)
 (o42:q108_7 w m p fun x0=>inI ((sprTo (w.whn m) p x0).last - (sprTo (w.whn m) p x0).first))
 (o43:q108_7 w m p fun x0=>max 0 ((sprTo (w.whn m) p x0).last - (sprTo (w.whn m) p x0).first)=(spread (w.whn m) p).lo)
 (o44:q108_7 w m p fun x0=>(sprTo (w.whn m) p x0).high=(spread (w.whn m) p).hi) :
  Triple Try.prog 108 (s108 w m p):=by
 refine triple_of Try.func108 rfl Try.call108 T0_ok _ rfl rfl rfl rfl (Nat.le_of_ble_eq_true (by kernel_rfl)) (fun _ _ _ _ h=>h) ?_
 intro hp C hC _ hE
 obtain ⟨P,w0,E0,av,hA⟩:=C
 subst hC
 refine swp_seq ?_
 refine sQ (kt:=[1,2,3,6]) (kh:=[0,8]) (q:=tn 2) (st':=ASt.mk [(1,iv (m:Int)),(2,iv (p:Int)),(3,.ptr 0 []),(6,.ptr 8 [])] [(0,.cells 107 (cWay w)),(8,.cells 37 [iv 0,iv 0])] 16) (tp 2) ?_
 refine swp_seq ?_
 refine sQ (kt:=[6,7]) (kh:=[8,0]) (q:=True/\True/\(0<=(m:Int)/\(m:Int) < (↑3:Int))/\True/\(0<=(p:Int)/\(p:Int)<=(↑3:Int))/\True/\True) (st':=ASt.mk [(6,.ptr 8 []),(7,.win 0 [PS.fld 1,PS.idx m 6] 2 p)] [(8,.cells 37 [iv 0,iv 0]),(0,.cells 107 (cWay w))] 64) ⟨tv,tv,⟨(o0 hp),(o1 hp)⟩,tv,⟨(o2 hp),(o3 hp)⟩,tv,tv⟩ ?_
 refine swp_seq ?_
 refine sQ (kt:=[6,7,8,9,10]) (kh:=[8,0]) (q:=True/\(Int.ofNat 0<=Int.ofNat 0/\0 < (p:Int))/\True/\(m < 3/\0 < 3/\True)/\True/\(Int.ofNat 0<=Int.ofNat 0/\0 < (p:Int))/\True/\(m < 3/\0 < 3/\True)/\tn 3) (st':=ASt.mk [(6,.ptr 8 []),(7,.win 0 [PS.fld 1,PS.idx m 6] 2 p),(8,iv (w.whn m 0).hi),(9,iv (w.whn m 0).lo),(10,iv 0)] [(8,.cells 37 [iv 0,iv 0]),(0,.cells 107 (cWay w))] 152) ⟨tv,⟨(by decide),(o4 hp)⟩,tv,⟨(o5 hp),(by decide),tv⟩,tv,⟨(by decide),(o6 hp)⟩,tv,⟨(o7 hp),(by decide),tv⟩,tp 3⟩ ?_
 refine swp_seq (swp_seq ?_)
 refine sQ (kt:=[6,7,8,9,10,28,29,30]) (kh:=[8,0]) (q:=tn 3) (st':=ASt.mk [(6,.ptr 8 []),(7,.win 0 [PS.fld 1,PS.idx m 6] 2 p),(8,iv (w.whn m 0).hi),(9,iv (w.whn m 0).lo),(10,iv 0),(28,.win 0 [PS.fld 1,PS.idx m 6] 2 p),(29,iv (p:Int)),(30,iv 0)] [(8,.cells 37 [iv 0,iv 0]),(0,.cells 107 (cWay w))] 176) (tp 3) ?_
 refine swp_block ?_
 refine swp_loopA (z108_2 w m p) (eQ hE [] [(8,.same 8),(0,.same 0)] [29] [8,0] (((zP 8)/\(zE (some (Src.same 0))/\zE [PS.fld 1,PS.idx m 6]/\2=2/\p=p)/\(zE (some (Src.same 0))/\zE [PS.fld 1,PS.idx m 6]/\2=2/\p=p)/\(zT (iv (p:Int)))/\(zN (iv (w.whn m 0).hi) (iv (sprTo (w.whn m) p 0).first))/\(zN (iv (w.whn m 0).lo) (iv (sprTo (w.whn m) p 0).last))/\(zN (iv 0) (iv (sprTo (w.whn m) p 0).high))/\(zN (iv 0) (iv (↑0:Int)))/\True)/\((zT (OB.cells 37 [iv 0,iv 0]))/\(zT (OB.cells 107 (cWay w)))/\True)/\T2) ⟨⟨⟨rfl,rfl⟩,⟨rfl,rfl,rfl,rfl⟩,⟨rfl,rfl,rfl,rfl⟩,⟨rfl,rfl⟩,⟨(congrArg iv (o8 hp)),rfl⟩,⟨(congrArg iv (o9 hp)),rfl⟩,⟨(congrArg iv (o10 hp)),rfl⟩,⟨(congrArg iv (o11 hp)),rfl⟩,tv⟩,⟨⟨rfl,rfl⟩,⟨rfl,rfl⟩,tv⟩,rfl,rfl⟩) (o12 hp) (fun (x0:Nat) hx0 => ?_)
 refine swp_seq ?_
 refine sQ (kt:=[6,7,28,29,8,9,10,30,31]) (kh:=[8,0]) (q:=True/\True) (st':=ASt.mk [(6,.ptr 8 []),(7,.win 0 [PS.fld 1,PS.idx m 6] 2 p),(28,.win 0 [PS.fld 1,PS.idx m 6] 2 p),(29,iv (p:Int)),(8,iv (sprTo (w.whn m) p x0).first),(9,iv (sprTo (w.whn m) p x0).last),(10,iv (sprTo (w.whn m) p x0).high),(30,iv (x0:Int)),(31,bv (decide ((x0:Int) < p)))] [(8,.cells 37 [iv 0,iv 0]),(0,.cells 107 (cWay w))] 10184) ⟨tv,tv⟩ ?_
 refine swp_seq ?_
 refine swp_cond (decide ((x0:Int) < p)) (by kernel_rfl) (fun h1 => ?_) (fun h1 => ?_)
 ·refine swp_skip (swp_seq (swp_block (swp_seq ?_)))
  refine sQ (kt:=[6,7,28,29,8,9,10,30,12,11]) (kh:=[8,0,10208]) (q:=True/\(0<=(x0:Int)/\(x0:Int) < p)/\(m < 3/\x0 < 3/\True)/\tn 3) (st':=ASt.mk [(6,.ptr 8 []),(7,.win 0 [PS.fld 1,PS.idx m 6] 2 p),(28,.win 0 [PS.fld 1,PS.idx m 6] 2 p),(29,iv (p:Int)),(8,iv (sprTo (w.whn m) p x0).first),(9,iv (sprTo (w.whn m) p x0).last),(10,iv (sprTo (w.whn m) p x0).high),(30,iv (x0:Int)),(12,.ptr 10208 []),(11,iv (x0:Int))] [(8,.cells 37 [iv 0,iv 0]),(0,.cells 107 (cWay w)),(10208,.cells 37 (cSpan (w.whn m x0)))] 10232) ⟨tv,⟨(o13 hp x0 hx0 h1),(o14 hp x0 hx0 h1)⟩,⟨(o15 hp x0 hx0 h1),(o16 hp x0 hx0 h1),tv⟩,tp 3⟩ ?_
  refine swp_seq ?_
  refine sQ (kt:=[6,7,28,29,8,9,10,30,12,11]) (kh:=[8,0,10208]) (q:=tn 10) (st':=ASt.mk [(6,.ptr 8 []),(7,.win 0 [PS.fld 1,PS.idx m 6] 2 p),(28,.win 0 [PS.fld 1,PS.idx m 6] 2 p),(29,iv (p:Int)),(8,iv (min (sprTo (w.whn m) p x0).first (w.whn m x0).hi)),(9,iv (max (sprTo (w.whn m) p x0).last (w.whn m x0).lo)),(10,iv (sprTo (w.whn m) p x0).high),(30,iv (x0:Int)),(12,.ptr 10208 []),(11,iv (x0:Int))] [(8,.cells 37 [iv 0,iv 0]),(0,.cells 107 (cWay w)),(10208,.cells 37 (cSpan (w.whn m x0)))] 10312) (tp 10) ?_
  refine swp_seq ?_
  refine sQ (kt:=[6,7,28,29,8,9,10,30,12,11,43,44,45]) (kh:=[8,0,10208]) (q:=tn 3) (st':=ASt.mk [(6,.ptr 8 []),(7,.win 0 [PS.fld 1,PS.idx m 6] 2 p),(28,.win 0 [PS.fld 1,PS.idx m 6] 2 p),(29,iv (p:Int)),(8,iv (min (sprTo (w.whn m) p x0).first (w.whn m x0).hi)),(9,iv (max (sprTo (w.whn m) p x0).last (w.whn m x0).lo)),(10,iv (sprTo (w.whn m) p x0).high),(30,iv (x0:Int)),(12,.ptr 10208 []),(11,iv (x0:Int)),(43,.win 0 [PS.fld 1,PS.idx m 6] 2 p),(44,iv (p:Int)),(45,iv 0)] [(8,.cells 37 [iv 0,iv 0]),(0,.cells 107 (cWay w)),(10208,.cells 37 (cSpan (w.whn m x0)))] 10336) (tp 3) ?_
  refine swp_block ?_
  refine swp_loopA (z108_1 w m p x0) (eQ hE [] [(8,.same 8),(0,.same 0),(10208,.same 10208)] [29,8,9,30,11,44] [8,0,10208] (((zP 8)/\(zE (some (Src.same 0))/\zE [PS.fld 1,PS.idx m 6]/\2=2/\p=p)/\(zE (some (Src.same 0))/\zE [PS.fld 1,PS.idx m 6]/\2=2/\p=p)/\(zT (iv (p:Int)))/\(zT (iv (min (sprTo (w.whn m) p x0).first (w.whn m x0).hi)))/\(zT (iv (max (sprTo (w.whn m) p x0).last (w.whn m x0).lo)))/\(zT (iv (x0:Int)))/\(zP 10208)/\(zT (iv (x0:Int)))/\(zE (some (Src.same 0))/\zE [PS.fld 1,PS.idx m 6]/\2=2/\p=p)/\(zT (iv (p:Int)))/\(zN (iv (sprTo (w.whn m) p x0).high) (iv (sprIn (w.whn m) x0 (sprTo (w.whn m) p x0).high 0)))/\(zN (iv 0) (iv (↑0:Int)))/\True)/\((zT (OB.cells 37 [iv 0,iv 0]))/\(zT (OB.cells 107 (cWay w)))/\(zT (OB.cells 37 (cSpan (w.whn m x0))))/\True)/\T2) ⟨⟨⟨rfl,rfl⟩,⟨rfl,rfl,rfl,rfl⟩,⟨rfl,rfl,rfl,rfl⟩,⟨rfl,rfl⟩,⟨rfl,rfl⟩,⟨rfl,rfl⟩,⟨rfl,rfl⟩,⟨rfl,rfl⟩,⟨rfl,rfl⟩,⟨rfl,rfl,rfl,rfl⟩,⟨rfl,rfl⟩,⟨(congrArg iv (o17 hp x0 hx0 h1)),rfl⟩,⟨(congrArg iv (o18 hp x0 hx0 h1)),rfl⟩,tv⟩,⟨⟨rfl,rfl⟩,⟨rfl,rfl⟩,⟨rfl,rfl⟩,tv⟩,rfl,rfl⟩) (o19 hp x0 hx0 h1) (fun (x2:Nat) hx2 => ?_)
  refine swp_seq ?_
  refine sQ (kt:=[6,7,28,29,8,9,30,12,11,43,44,10,45,46]) (kh:=[8,0,10208]) (q:=True/\True) (st':=ASt.mk [(6,.ptr 8 []),(7,.win 0 [PS.fld 1,PS.idx m 6] 2 p),(28,.win 0 [PS.fld 1,PS.idx m 6] 2 p),(29,iv (p:Int)),(8,iv (min (sprTo (w.whn m) p x0).first (w.whn m x0).hi)),(9,iv (max (sprTo (w.whn m) p x0).last (w.whn m x0).lo)),(30,iv (x0:Int)),(12,.ptr 10208 []),(11,iv (x0:Int)),(43,.win 0 [PS.fld 1,PS.idx m 6] 2 p),(44,iv (p:Int)),(10,iv (sprIn (w.whn m) x0 (sprTo (w.whn m) p x0).high x2)),(45,iv (x2:Int)),(46,bv (decide ((x2:Int) < p)))] [(8,.cells 37 [iv 0,iv 0]),(0,.cells 107 (cWay w)),(10208,.cells 37 (cSpan (w.whn m x0)))] 20344) ⟨tv,tv⟩ ?_
  refine swp_seq ?_
  refine swp_cond (decide ((x2:Int) < p)) (by kernel_rfl) (fun h3 => ?_) (fun h3 => ?_)
  ·refine swp_skip (swp_seq (swp_block (swp_seq ?_)))
   refine sQ (kt:=[6,7,28,29,8,9,30,12,11,43,44,10,45,14,13]) (kh:=[8,0,10208,20368]) (q:=True/\(0<=(x2:Int)/\(x2:Int) < p)/\(m < 3/\x2 < 3/\True)/\tn 3) (st':=ASt.mk [(6,.ptr 8 []),(7,.win 0 [PS.fld 1,PS.idx m 6] 2 p),(28,.win 0 [PS.fld 1,PS.idx m 6] 2 p),(29,iv (p:Int)),(8,iv (min (sprTo (w.whn m) p x0).first (w.whn m x0).hi)),(9,iv (max (sprTo (w.whn m) p x0).last (w.whn m x0).lo)),(30,iv (x0:Int)),(12,.ptr 10208 []),(11,iv (x0:Int)),(43,.win 0 [PS.fld 1,PS.idx m 6] 2 p),(44,iv (p:Int)),(10,iv (sprIn (w.whn m) x0 (sprTo (w.whn m) p x0).high x2)),(45,iv (x2:Int)),(14,.ptr 20368 []),(13,iv (x2:Int))] [(8,.cells 37 [iv 0,iv 0]),(0,.cells 107 (cWay w)),(10208,.cells 37 (cSpan (w.whn m x0))),(20368,.cells 37 (cSpan (w.whn m x2)))] 20392) ⟨tv,⟨(o20 hp x0 hx0 h1 x2 hx2 h3),(o21 hp x0 hx0 h1 x2 hx2 h3)⟩,⟨(o22 hp x0 hx0 h1 x2 hx2 h3),(o23 hp x0 hx0 h1 x2 hx2 h3),tv⟩,tp 3⟩ ?_
   refine swp_seq ?_
   refine sQ (kt:=[6,7,28,29,8,9,30,12,11,43,44,10,45,14,52]) (kh:=[8,0,10208,20368]) (q:=tn 3) (st':=ASt.mk [(6,.ptr 8 []),(7,.win 0 [PS.fld 1,PS.idx m 6] 2 p),(28,.win 0 [PS.fld 1,PS.idx m 6] 2 p),(29,iv (p:Int)),(8,iv (min (sprTo (w.whn m) p x0).first (w.whn m x0).hi)),(9,iv (max (sprTo (w.whn m) p x0).last (w.whn m x0).lo)),(30,iv (x0:Int)),(12,.ptr 10208 []),(11,iv (x0:Int)),(43,.win 0 [PS.fld 1,PS.idx m 6] 2 p),(44,iv (p:Int)),(10,iv (sprIn (w.whn m) x0 (sprTo (w.whn m) p x0).high x2)),(45,iv (x2:Int)),(14,.ptr 20368 []),(52,bv !decide ((x0:Int)=x2))] [(8,.cells 37 [iv 0,iv 0]),(0,.cells 107 (cWay w)),(10208,.cells 37 (cSpan (w.whn m x0))),(20368,.cells 37 (cSpan (w.whn m x2)))] 20416) (tp 3) ?_
   refine swp_cond (!decide ((x0:Int)=x2)) (by kernel_rfl) (fun h4 => ?_) (fun h4 => ?_)
   ·refine sQ (kt:=[6,7,28,29,8,9,30,12,11,43,44,10,45]) (kh:=[8,0,10208]) (q:=True/\True/\True/\True/\True/\inI ((w.whn m x0).hi - (w.whn m x2).lo)/\tn 2) (st':=ASt.mk [(6,.ptr 8 []),(7,.win 0 [PS.fld 1,PS.idx m 6] 2 p),(28,.win 0 [PS.fld 1,PS.idx m 6] 2 p),(29,iv (p:Int)),(8,iv (min (sprTo (w.whn m) p x0).first (w.whn m x0).hi)),(9,iv (max (sprTo (w.whn m) p x0).last (w.whn m x0).lo)),(30,iv (x0:Int)),(12,.ptr 10208 []),(11,iv (x0:Int)),(43,.win 0 [PS.fld 1,PS.idx m 6] 2 p),(44,iv (p:Int)),(10,iv (max (sprIn (w.whn m) x0 (sprTo (w.whn m) p x0).high x2) ((w.whn m x0).hi - (w.whn m x2).lo))),(45,iv (x2:Int))] [(8,.cells 37 [iv 0,iv 0]),(0,.cells 107 (cWay w)),(10208,.cells 37 (cSpan (w.whn m x0)))] 20480) ⟨tv,tv,tv,tv,tv,(o24 hp x0 hx0 h1 x2 hx2 h3 h4),tp 2⟩ ?_
    refine sQ (kt:=[6,7,28,29,8,9,30,12,11,43,44,10,45]) (kh:=[8,0,10208]) (q:=inI ((x2:Int) + 1)/\True/\True) (st':=ASt.mk [(6,.ptr 8 []),(7,.win 0 [PS.fld 1,PS.idx m 6] 2 p),(28,.win 0 [PS.fld 1,PS.idx m 6] 2 p),(29,iv (p:Int)),(8,iv (min (sprTo (w.whn m) p x0).first (w.whn m x0).hi)),(9,iv (max (sprTo (w.whn m) p x0).last (w.whn m x0).lo)),(30,iv (x0:Int)),(12,.ptr 10208 []),(11,iv (x0:Int)),(43,.win 0 [PS.fld 1,PS.idx m 6] 2 p),(44,iv (p:Int)),(10,iv (max (sprIn (w.whn m) x0 (sprTo (w.whn m) p x0).high x2) ((w.whn m x0).hi - (w.whn m x2).lo))),(45,iv ((x2:Int) + 1))] [(8,.cells 37 [iv 0,iv 0]),(0,.cells 107 (cWay w)),(10208,.cells 37 (cSpan (w.whn m x0)))] 20496) ⟨(o25 hp x0 hx0 h1 x2 hx2 h3 h4),tv,tv⟩ ?_
    exact loop_next (z108_1 w m p x0) x2 (eQ hE [] [(8,.same 8),(0,.same 0),(10208,.same 10208)] [29,8,9,30,11,44] [8,0,10208] (((zP 8)/\(zE (some (Src.same 0))/\zE [PS.fld 1,PS.idx m 6]/\2=2/\p=p)/\(zE (some (Src.same 0))/\zE [PS.fld 1,PS.idx m 6]/\2=2/\p=p)/\(zT (iv (p:Int)))/\(zT (iv (min (sprTo (w.whn m) p x0).first (w.whn m x0).hi)))/\(zT (iv (max (sprTo (w.whn m) p x0).last (w.whn m x0).lo)))/\(zT (iv (x0:Int)))/\(zP 10208)/\(zT (iv (x0:Int)))/\(zE (some (Src.same 0))/\zE [PS.fld 1,PS.idx m 6]/\2=2/\p=p)/\(zT (iv (p:Int)))/\(zN (iv (max (sprIn (w.whn m) x0 (sprTo (w.whn m) p x0).high x2) ((w.whn m x0).hi - (w.whn m x2).lo))) (iv (sprIn (w.whn m) x0 (sprTo (w.whn m) p x0).high (x2 + 1))))/\(zN (iv ((x2:Int) + 1)) (iv (↑(x2 + 1):Int)))/\True)/\((zT (OB.cells 37 [iv 0,iv 0]))/\(zT (OB.cells 107 (cWay w)))/\(zT (OB.cells 37 (cSpan (w.whn m x0))))/\True)/\T2) ⟨⟨⟨rfl,rfl⟩,⟨rfl,rfl,rfl,rfl⟩,⟨rfl,rfl,rfl,rfl⟩,⟨rfl,rfl⟩,⟨rfl,rfl⟩,⟨rfl,rfl⟩,⟨rfl,rfl⟩,⟨rfl,rfl⟩,⟨rfl,rfl⟩,⟨rfl,rfl,rfl,rfl⟩,⟨rfl,rfl⟩,⟨(congrArg iv (o26 hp x0 hx0 h1 x2 hx2 h3 h4)),rfl⟩,⟨(congrArg iv (o27 hp x0 hx0 h1 x2 hx2 h3 h4)),rfl⟩,tv⟩,⟨⟨rfl,rfl⟩,⟨rfl,rfl⟩,⟨rfl,rfl⟩,tv⟩,rfl,rfl⟩) (o28 hp x0 hx0 h1 x2 hx2 h3 h4) (o29 hp x0 hx0 h1 x2 hx2 h3 h4)
   ·refine swp_skip ?_
    refine sQ (kt:=[6,7,28,29,8,9,30,12,11,43,44,10,45]) (kh:=[8,0,10208]) (q:=inI ((x2:Int) + 1)/\True/\True) (st':=ASt.mk [(6,.ptr 8 []),(7,.win 0 [PS.fld 1,PS.idx m 6] 2 p),(28,.win 0 [PS.fld 1,PS.idx m 6] 2 p),(29,iv (p:Int)),(8,iv (min (sprTo (w.whn m) p x0).first (w.whn m x0).hi)),(9,iv (max (sprTo (w.whn m) p x0).last (w.whn m x0).lo)),(30,iv (x0:Int)),(12,.ptr 10208 []),(11,iv (x0:Int)),(43,.win 0 [PS.fld 1,PS.idx m 6] 2 p),(44,iv (p:Int)),(10,iv (sprIn (w.whn m) x0 (sprTo (w.whn m) p x0).high x2)),(45,iv ((x2:Int) + 1))] [(8,.cells 37 [iv 0,iv 0]),(0,.cells 107 (cWay w)),(10208,.cells 37 (cSpan (w.whn m x0)))] 20432) ⟨(o30 hp x0 hx0 h1 x2 hx2 h3 h4),tv,tv⟩ ?_
    exact loop_next (z108_1 w m p x0) x2 (eQ hE [] [(8,.same 8),(0,.same 0),(10208,.same 10208)] [29,8,9,30,11,44] [8,0,10208] (((zP 8)/\(zE (some (Src.same 0))/\zE [PS.fld 1,PS.idx m 6]/\2=2/\p=p)/\(zE (some (Src.same 0))/\zE [PS.fld 1,PS.idx m 6]/\2=2/\p=p)/\(zT (iv (p:Int)))/\(zT (iv (min (sprTo (w.whn m) p x0).first (w.whn m x0).hi)))/\(zT (iv (max (sprTo (w.whn m) p x0).last (w.whn m x0).lo)))/\(zT (iv (x0:Int)))/\(zP 10208)/\(zT (iv (x0:Int)))/\(zE (some (Src.same 0))/\zE [PS.fld 1,PS.idx m 6]/\2=2/\p=p)/\(zT (iv (p:Int)))/\(zN (iv (sprIn (w.whn m) x0 (sprTo (w.whn m) p x0).high x2)) (iv (sprIn (w.whn m) x0 (sprTo (w.whn m) p x0).high (x2 + 1))))/\(zN (iv ((x2:Int) + 1)) (iv (↑(x2 + 1):Int)))/\True)/\((zT (OB.cells 37 [iv 0,iv 0]))/\(zT (OB.cells 107 (cWay w)))/\(zT (OB.cells 37 (cSpan (w.whn m x0))))/\True)/\T2) ⟨⟨⟨rfl,rfl⟩,⟨rfl,rfl,rfl,rfl⟩,⟨rfl,rfl,rfl,rfl⟩,⟨rfl,rfl⟩,⟨rfl,rfl⟩,⟨rfl,rfl⟩,⟨rfl,rfl⟩,⟨rfl,rfl⟩,⟨rfl,rfl⟩,⟨rfl,rfl,rfl,rfl⟩,⟨rfl,rfl⟩,⟨(congrArg iv (o31 hp x0 hx0 h1 x2 hx2 h3 h4)),rfl⟩,⟨(congrArg iv (o32 hp x0 hx0 h1 x2 hx2 h3 h4)),rfl⟩,tv⟩,⟨⟨rfl,rfl⟩,⟨rfl,rfl⟩,⟨rfl,rfl⟩,tv⟩,rfl,rfl⟩) (o33 hp x0 hx0 h1 x2 hx2 h3 h4) (o34 hp x0 hx0 h1 x2 hx2 h3 h4)
  ·refine swp_exit ?_
   refine sQ (kt:=[6,7,28,29,8,9,30,10]) (kh:=[8,0]) (q:=inI ((x0:Int) + 1)/\True/\True) (st':=ASt.mk [(6,.ptr 8 []),(7,.win 0 [PS.fld 1,PS.idx m 6] 2 p),(28,.win 0 [PS.fld 1,PS.idx m 6] 2 p),(29,iv (p:Int)),(8,iv (min (sprTo (w.whn m) p x0).first (w.whn m x0).hi)),(9,iv (max (sprTo (w.whn m) p x0).last (w.whn m x0).lo)),(30,iv ((x0:Int) + 1)),(10,iv (sprIn (w.whn m) x0 (sprTo (w.whn m) p x0).high x2))] [(8,.cells 37 [iv 0,iv 0]),(0,.cells 107 (cWay w))] 20360) ⟨(o35 hp x0 hx0 h1 x2 hx2 h3),tv,tv⟩ ?_
   exact loop_next (z108_2 w m p) x0 (eQ hE [] [(8,.same 8),(0,.same 0)] [29] [8,0] (((zP 8)/\(zE (some (Src.same 0))/\zE [PS.fld 1,PS.idx m 6]/\2=2/\p=p)/\(zE (some (Src.same 0))/\zE [PS.fld 1,PS.idx m 6]/\2=2/\p=p)/\(zT (iv (p:Int)))/\(zN (iv (min (sprTo (w.whn m) p x0).first (w.whn m x0).hi)) (iv (sprTo (w.whn m) p (x0 + 1)).first))/\(zN (iv (max (sprTo (w.whn m) p x0).last (w.whn m x0).lo)) (iv (sprTo (w.whn m) p (x0 + 1)).last))/\(zN (iv (sprIn (w.whn m) x0 (sprTo (w.whn m) p x0).high x2)) (iv (sprTo (w.whn m) p (x0 + 1)).high))/\(zN (iv ((x0:Int) + 1)) (iv (↑(x0 + 1):Int)))/\True)/\((zT (OB.cells 37 [iv 0,iv 0]))/\(zT (OB.cells 107 (cWay w)))/\True)/\T2) ⟨⟨⟨rfl,rfl⟩,⟨rfl,rfl,rfl,rfl⟩,⟨rfl,rfl,rfl,rfl⟩,⟨rfl,rfl⟩,⟨(congrArg iv (o36 hp x0 hx0 h1 x2 hx2 h3)),rfl⟩,⟨(congrArg iv (o37 hp x0 hx0 h1 x2 hx2 h3)),rfl⟩,⟨(congrArg iv (o38 hp x0 hx0 h1 x2 hx2 h3)),rfl⟩,⟨(congrArg iv (o39 hp x0 hx0 h1 x2 hx2 h3)),rfl⟩,tv⟩,⟨⟨rfl,rfl⟩,⟨rfl,rfl⟩,tv⟩,rfl,rfl⟩) (o40 hp x0 hx0 h1 x2 hx2 h3) (o41 hp x0 hx0 h1 x2 hx2 h3)
 ·refine swp_exit (swp_seq ?_)
  refine sQ (kt:=[6]) (kh:=[8]) (q:=True/\True/\inI ((sprTo (w.whn m) p x0).last - (sprTo (w.whn m) p x0).first)/\tn 4) (st':=ASt.mk [(6,.ptr 8 [])] [(8,.cells 37 [iv (max 0 ((sprTo (w.whn m) p x0).last - (sprTo (w.whn m) p x0).first)),iv (sprTo (w.whn m) p x0).high])] 10240) ⟨tv,tv,(o42 hp x0 hx0 h1),tp 4⟩ ?_
  refine swp_ret ?_
  exact rQ [] ((True/\True)/\((zN (iv (max 0 ((sprTo (w.whn m) p x0).last - (sprTo (w.whn m) p x0).first))) (iv (spread (w.whn m) p).lo))/\(zN (iv (sprTo (w.whn m) p x0).high) (iv (spread (w.whn m) p).hi))/\True)/\T3) ⟨⟨tv,tv⟩,⟨⟨(congrArg iv (o43 hp x0 hx0 h1)),rfl⟩,⟨(congrArg iv (o44 hp x0 hx0 h1)),rfl⟩,tv⟩,rfl,rfl,rfl⟩
theorem t108 (w:WayS) (m p:Nat):Triple Try.prog 108 (s108 w m p):=by
 have gbw:wb w->gb (w.whn m):=fun h p=>h m p
 apply w108
 all_goals (first
  | ((repeat intro _) <;> (try simp only [v0,v1,v2,v3,v4,v5,v6,v7,v8,v9,inI,fits,Go.Sh.small] at *) <;> first | (exact rfl) | omega | exact vz | (simp_all; done) | (simp_all; omega))
  | (intro hp x hx hl; have h1:=hp.1 m x; have h2:=sprTo_b (gbw hp.1) p x; simp only [sb] at h1; simp only [decide_eq_true_eq,decide_eq_false_iff_not,inI] at *; omega)
  | (intro hp x hx hl k hk hkl h; have h1:=hp.1 m x; have h2:=hp.1 m k; simp only [sb] at h1 h2; simp only [inI]; omega)
  | (intro hp x hx hl k hk hkl h; rw [sprIn_succ,if_neg (show ¬ x=k from fun e=>by simp [e] at h)]; done)
  | (intro hp x hx hl k hk hkl h; rw [sprIn_succ,if_pos (show x=k from by simp only [Bool.not_eq_false',decide_eq_true_eq] at h; omega)]; done)
  | (intro hp x hx hl k hk hkl; rw [sprTo_succ,show k=p by simp only [decide_eq_false_iff_not] at hkl; omega]; done)
  | (intro hp x hx hl k hk hkl; rw [sprTo_succ]; done)
  | (intro hp x hx hl; rw [show x=p by simp only [decide_eq_false_iff_not] at hl; omega] <;> rfl))
abbrev z83_1 (w:WayS) (r:Run) (p:Nat):LoopAnn:=Hint.ann (h83 w r p) [(2,AV.rp [iv (p:Int)]),(3,AV.ptr 0 []),(8,AV.sl 2 r.machines.length fun (i:Nat)=>cMach (mach r i)),(9,iv (↑(r.machines.length):Int))] [(0,OB.cells 107 (cWay w))] 10048
abbrev q83_1 (w:WayS) (r:Run) (p:Nat) (C:Prop):Prop:=rb r/\wb w/\p < 3->C
abbrev q83_2 (w:WayS) (r:Run) (p:Nat) (C:Nat->Prop):Prop:=q83_1 w r p (∀ (x0:Nat),x0<=r.machines.length->decide ((x0:Int) < (↑(r.machines.length):Int))=true->C x0)
theorem w83 (w:WayS) (r:Run) (p:Nat)
 (o0:q83_1 w r p (0=(↑0:Int)))
 (o1:q83_1 w r p (0=(sumTo r (fun (m:Nat)=>w.whn m p) 0).lo))
 (o2:q83_1 w r p (0=(sumTo r (fun (m:Nat)=>w.whn m p) 0).hi))
 (o3:q83_1 w r p (0<=r.machines.length))
 (o4:q83_2 w r p fun x0=>0<=(x0:Int))
 (o5:q83_2 w r p fun x0=>(x0:Int) < (↑(r.machines.length):Int))
 (o6:q83_2 w r p fun x0=>0<=(x0:Int))
 (o7:q83_2 w r p fun x0=>(x0:Int) < (↑3:Int))
 (o8:q83_2 w r p fun x0=>0<=(p:Int))
 (o9:q83_2 w r p fun x0=>(p:Int) < (↑3:Int))
 (o10:q83_2 w r p fun x0=>x0 < 3)
 (o11:q83_2 w r p fun x0=>p < 3)
 (o12:q83_2 w r p fun x0=>inI ((mach r x0).rate * (w.whn x0 p).lo))
 (o13:q83_2 w r p fun x0=>inI ((sumTo r (fun (m:Nat)=>w.whn m p) x0).lo + (mach r x0).rate * (w.whn x0 p).lo))
 (o14:q83_2 w r p fun x0=>0<=(x0:Int))
 (o15:q83_2 w r p fun x0=>(x0:Int) < (↑3:Int))
 (o16:q83_2 w r p fun x0=>0<=(p:Int))
 (o17:q83_2 w r p fun x0=>(p:Int) < (↑3:Int))
 (o18:q83_2 w r p fun x0=>x0 < 3)
 (o19:q83_2 w r p fun x0=>p < 3)
 (o20:q83_2 w r p fun x0=>inI ((mach r x0).rate * (w.whn x0 p).hi))
 (o21:q83_2 w r p fun x0=>inI ((sumTo r (fun (m:Nat)=>w.whn m p) x0).hi + (mach r x0).rate * (w.whn x0 p).hi))
 (o22:q83_2 w r p fun x0=>inI ((x0:Int) + 1))
 (o23:q83_2 w r p fun x0=>(x0:Int) + 1=(↑(x0 + 1):Int))
 (o24:q83_2 w r p fun x0=>(sumTo r (fun (m:Nat)=>w.whn m p) x0).lo + (mach r x0).rate * (w.whn x0 p).lo=(sumTo r (fun (m:Nat)=>w.whn m p) (x0 + 1)).lo)
 (o25:q83_2 w r p fun x0=>(sumTo r (fun (m:Nat)=>w.whn m p) x0).hi + (mach r x0).rate * (w.whn x0 p).hi=(sumTo r (fun (m:Nat)=>w.whn m p) (x0 + 1)).hi)
 (o26:q83_2 w r p fun x0=>x0 + 1<=r.machines.length)
 (o27:q83_2 w r p fun x0=>r.machines.length - (x0 + 1) < r.machines.length - x0)
 (o28:q83_1 w r p (∀ (x0:Nat),x0<=r.machines.length->decide ((x0:Int) < (↑(r.machines.length):Int))=false->(sumTo r (fun (m:Nat)=>w.whn m p) x0).lo=(oldF r p w).lo))
 (o29:q83_1 w r p (∀ (x0:Nat),x0<=r.machines.length->decide ((x0:Int) < (↑(r.machines.length):Int))=false->(sumTo r (fun (m:Nat)=>w.whn m p) x0).hi=(oldF r p w).hi)) :
  Triple Try.prog 83 (s83 w r p):=by
 refine triple_of Try.func83 rfl Try.call83 T0_ok _ rfl rfl rfl rfl (Nat.le_of_ble_eq_true (by kernel_rfl)) (fun _ _ _ _ h=>h) ?_
 intro hp C hC _ hE
 obtain ⟨P,w0,E0,av,hA⟩:=C
 subst hC
 refine swp_seq ?_
 refine sQ (kt:=[1,2,3,4]) (kh:=[0,8]) (q:=tn 2) (st':=ASt.mk [(1,.rp (cRun r)),(2,.rp [iv (p:Int)]),(3,.ptr 0 []),(4,.ptr 8 [])] [(0,.cells 107 (cWay w)),(8,.cells 37 [iv 0,iv 0])] 16) (tp 2) ?_
 refine swp_seq (swp_seq ?_)
 refine sQ (kt:=[2,3,4,8,9,10]) (kh:=[0,8]) (q:=tn 4) (st':=ASt.mk [(2,.rp [iv (p:Int)]),(3,.ptr 0 []),(4,.ptr 8 []),(8,.sl 2 r.machines.length fun (i:Nat)=>cMach (mach r i)),(9,iv (↑(r.machines.length):Int)),(10,iv 0)] [(0,.cells 107 (cWay w)),(8,.cells 37 [iv 0,iv 0])] 48) (tp 4) ?_
 refine swp_block ?_
 refine swp_loopA (z83_1 w r p) (eQ hE [] [(0,.same 0),(5000,.same 8)] [2,8,9] [0] (((zT (AV.rp [iv (p:Int)]))/\(zP 0)/\(zT (AV.sl 2 r.machines.length fun (i:Nat)=>cMach (mach r i)))/\(zT (iv (↑(r.machines.length):Int)))/\(zN (iv 0) (iv (↑0:Int)))/\(zP 8)/\True)/\((zT (OB.cells 107 (cWay w)))/\(37=37/\((zN (iv 0) (iv (sumTo r (fun (m:Nat)=>w.whn m p) 0).lo))/\(zN (iv 0) (iv (sumTo r (fun (m:Nat)=>w.whn m p) 0).hi))/\True)/\true=true)/\True)/\T2) ⟨⟨⟨rfl,rfl⟩,⟨rfl,rfl⟩,⟨rfl,rfl⟩,⟨rfl,rfl⟩,⟨(congrArg iv (o0 hp)),rfl⟩,⟨rfl,rfl⟩,tv⟩,⟨⟨rfl,rfl⟩,⟨rfl,⟨⟨(congrArg iv (o1 hp)),rfl⟩,⟨(congrArg iv (o2 hp)),rfl⟩,tv⟩,rfl⟩,tv⟩,rfl,rfl⟩) (o3 hp) (fun (x0:Nat) hx0 => ?_)
 refine swp_seq ?_
 refine sQ (kt:=[2,3,8,9,10,4,11]) (kh:=[0,5000]) (q:=True/\True) (st':=ASt.mk [(2,.rp [iv (p:Int)]),(3,.ptr 0 []),(8,.sl 2 r.machines.length fun (i:Nat)=>cMach (mach r i)),(9,iv (↑(r.machines.length):Int)),(10,iv (x0:Int)),(4,.ptr 5000 []),(11,bv (decide ((x0:Int) < (↑(r.machines.length):Int))))] [(0,.cells 107 (cWay w)),(5000,.cells 37 (cSpan (sumTo r (fun (m:Nat)=>w.whn m p) x0)))] 10056) ⟨tv,tv⟩ ?_
 refine swp_seq ?_
 refine swp_cond (decide ((x0:Int) < (↑(r.machines.length):Int))) (by kernel_rfl) (fun h1 => ?_) (fun h1 => ?_)
 ·refine swp_skip (swp_seq (swp_block (swp_seq ?_)))
  refine sQ (kt:=[2,3,8,9,10,4,6,5]) (kh:=[0,5000,10080]) (q:=True/\(0<=(x0:Int)/\(x0:Int) < (↑(r.machines.length):Int))/\tn 4) (st':=ASt.mk [(2,.rp [iv (p:Int)]),(3,.ptr 0 []),(8,.sl 2 r.machines.length fun (i:Nat)=>cMach (mach r i)),(9,iv (↑(r.machines.length):Int)),(10,iv (x0:Int)),(4,.ptr 5000 []),(6,.ptr 10080 []),(5,iv (x0:Int))] [(0,.cells 107 (cWay w)),(5000,.cells 37 (cSpan (sumTo r (fun (m:Nat)=>w.whn m p) x0))),(10080,.cells 42 (cMach (mach r x0)))] 10104) ⟨tv,⟨(o4 hp x0 hx0 h1),(o5 hp x0 hx0 h1)⟩,tp 4⟩ ?_
  refine swp_seq ?_
  refine sQ (kt:=[2,3,8,9,10,4,6,5]) (kh:=[0,5000,10080]) (q:=True/\True/\True/\True/\True/\True/\True/\(0<=(x0:Int)/\(x0:Int) < (↑3:Int))/\(0<=(p:Int)/\(p:Int) < (↑3:Int))/\True/\(x0 < 3/\p < 3/\True)/\inI ((mach r x0).rate * (w.whn x0 p).lo)/\inI ((sumTo r (fun (m:Nat)=>w.whn m p) x0).lo + (mach r x0).rate * (w.whn x0 p).lo)/\tn 2) (st':=ASt.mk [(2,.rp [iv (p:Int)]),(3,.ptr 0 []),(8,.sl 2 r.machines.length fun (i:Nat)=>cMach (mach r i)),(9,iv (↑(r.machines.length):Int)),(10,iv (x0:Int)),(4,.ptr 5000 []),(6,.ptr 10080 []),(5,iv (x0:Int))] [(0,.cells 107 (cWay w)),(5000,.cells 37 [iv ((sumTo r (fun (m:Nat)=>w.whn m p) x0).lo + (mach r x0).rate * (w.whn x0 p).lo),iv (sumTo r (fun (m:Nat)=>w.whn m p) x0).hi]),(10080,.cells 42 (cMach (mach r x0)))] 10224) ⟨tv,tv,tv,tv,tv,tv,tv,⟨(o6 hp x0 hx0 h1),(o7 hp x0 hx0 h1)⟩,⟨(o8 hp x0 hx0 h1),(o9 hp x0 hx0 h1)⟩,tv,⟨(o10 hp x0 hx0 h1),(o11 hp x0 hx0 h1),tv⟩,(o12 hp x0 hx0 h1),(o13 hp x0 hx0 h1),tp 2⟩ ?_
  refine sQ (kt:=[2,3,8,9,10,4]) (kh:=[0,5000]) (q:=True/\True/\True/\True/\True/\True/\True/\(0<=(x0:Int)/\(x0:Int) < (↑3:Int))/\(0<=(p:Int)/\(p:Int) < (↑3:Int))/\True/\(x0 < 3/\p < 3/\True)/\inI ((mach r x0).rate * (w.whn x0 p).hi)/\inI ((sumTo r (fun (m:Nat)=>w.whn m p) x0).hi + (mach r x0).rate * (w.whn x0 p).hi)/\tn 2) (st':=ASt.mk [(2,.rp [iv (p:Int)]),(3,.ptr 0 []),(8,.sl 2 r.machines.length fun (i:Nat)=>cMach (mach r i)),(9,iv (↑(r.machines.length):Int)),(10,iv (x0:Int)),(4,.ptr 5000 [])] [(0,.cells 107 (cWay w)),(5000,.cells 37 [iv ((sumTo r (fun (m:Nat)=>w.whn m p) x0).lo + (mach r x0).rate * (w.whn x0 p).lo),iv ((sumTo r (fun (m:Nat)=>w.whn m p) x0).hi + (mach r x0).rate * (w.whn x0 p).hi)])] 10344) ⟨tv,tv,tv,tv,tv,tv,tv,⟨(o14 hp x0 hx0 h1),(o15 hp x0 hx0 h1)⟩,⟨(o16 hp x0 hx0 h1),(o17 hp x0 hx0 h1)⟩,tv,⟨(o18 hp x0 hx0 h1),(o19 hp x0 hx0 h1),tv⟩,(o20 hp x0 hx0 h1),(o21 hp x0 hx0 h1),tp 2⟩ ?_
  refine sQ (kt:=[2,3,8,9,10,4]) (kh:=[0,5000]) (q:=inI ((x0:Int) + 1)/\True/\True) (st':=ASt.mk [(2,.rp [iv (p:Int)]),(3,.ptr 0 []),(8,.sl 2 r.machines.length fun (i:Nat)=>cMach (mach r i)),(9,iv (↑(r.machines.length):Int)),(10,iv ((x0:Int) + 1)),(4,.ptr 5000 [])] [(0,.cells 107 (cWay w)),(5000,.cells 37 [iv ((sumTo r (fun (m:Nat)=>w.whn m p) x0).lo + (mach r x0).rate * (w.whn x0 p).lo),iv ((sumTo r (fun (m:Nat)=>w.whn m p) x0).hi + (mach r x0).rate * (w.whn x0 p).hi)])] 10360) ⟨(o22 hp x0 hx0 h1),tv,tv⟩ ?_
  exact loop_next (z83_1 w r p) x0 (eQ hE [] [(0,.same 0),(5000,.same 5000)] [2,8,9] [0] (((zT (AV.rp [iv (p:Int)]))/\(zP 0)/\(zT (AV.sl 2 r.machines.length fun (i:Nat)=>cMach (mach r i)))/\(zT (iv (↑(r.machines.length):Int)))/\(zN (iv ((x0:Int) + 1)) (iv (↑(x0 + 1):Int)))/\(zP 5000)/\True)/\((zT (OB.cells 107 (cWay w)))/\(37=37/\((zN (iv ((sumTo r (fun (m:Nat)=>w.whn m p) x0).lo + (mach r x0).rate * (w.whn x0 p).lo)) (iv (sumTo r (fun (m:Nat)=>w.whn m p) (x0 + 1)).lo))/\(zN (iv ((sumTo r (fun (m:Nat)=>w.whn m p) x0).hi + (mach r x0).rate * (w.whn x0 p).hi)) (iv (sumTo r (fun (m:Nat)=>w.whn m p) (x0 + 1)).hi))/\True)/\true=true)/\True)/\T2) ⟨⟨⟨rfl,rfl⟩,⟨rfl,rfl⟩,⟨rfl,rfl⟩,⟨rfl,rfl⟩,⟨(congrArg iv (o23 hp x0 hx0 h1)),rfl⟩,⟨rfl,rfl⟩,tv⟩,⟨⟨rfl,rfl⟩,⟨rfl,⟨⟨(congrArg iv (o24 hp x0 hx0 h1)),rfl⟩,⟨(congrArg iv (o25 hp x0 hx0 h1)),rfl⟩,tv⟩,rfl⟩,tv⟩,rfl,rfl⟩) (o26 hp x0 hx0 h1) (o27 hp x0 hx0 h1)
 ·refine swp_exit (swp_seq ?_)
  refine sQ (kt:=[4]) (kh:=[5000]) (q:=tn 2) (st':=ASt.mk [(4,.ptr 5000 [])] [(5000,.cells 37 (cSpan (sumTo r (fun (m:Nat)=>w.whn m p) x0)))] 10072) (tp 2) ?_
  refine swp_ret ?_
  exact rQ [] ((True/\True)/\((zN (iv (sumTo r (fun (m:Nat)=>w.whn m p) x0).lo) (iv (oldF r p w).lo))/\(zN (iv (sumTo r (fun (m:Nat)=>w.whn m p) x0).hi) (iv (oldF r p w).hi))/\True)/\T3) ⟨⟨tv,tv⟩,⟨⟨(congrArg iv (o28 hp x0 hx0 h1)),rfl⟩,⟨(congrArg iv (o29 hp x0 hx0 h1)),rfl⟩,tv⟩,rfl,rfl,rfl⟩
theorem t83 (w:WayS) (r:Run) (p:Nat):Triple Try.prog 83 (s83 w r p):=by
 apply w83
 all_goals (try (first | (((repeat intro _) <;> (try simp only [v0,v1,v2,v3,v4,v5,v6,v7,v8,v9,inI,fits,Go.Sh.small] at *) <;> first | (exact rfl) | omega | exact vz | (simp_all; done) | (simp_all; omega))) | ((repeat intro _); rw [sumTo_succ]; done) | (intro hp x hx hl; rw [show x=r.machines.length by simp only [decide_eq_false_iff_not] at hl; omega] <;> rfl) | (
  intro hp x hx hl
  simp only [decide_eq_true_eq] at hl
  have h1:=hp.2.1 x p
  have h2:=sumTo_b hp.1 (f:=fun m=>w.whn m p) (fun m=>hp.2.1 m p) x (by omega)
  have h3:=hp.1.2 x (by omega)
  have h4:=rate_mul h3 ⟨h1.1,h1.2.1⟩
  have h5:=rate_mul h3 ⟨h1.2.2.1,h1.2.2.2⟩
  have h6:=hp.1.1
  try simp only [inI]
  omega)))
abbrev z117_1 (w:WayS) (r:Run):LoopAnn:=Hint.ann (h117 w r) [(1,AV.rp (cRun r)),(2,AV.ptr 0 []),(8,AV.sl 2 r.machines.length fun (i:Nat)=>cMach (mach r i)),(9,iv (↑(r.machines.length):Int))] [(0,OB.cells 107 (cWay w))] 10048
abbrev q117_1 (w:WayS) (r:Run) (C:Prop):Prop:=rb r/\wb w/\1<=r.plates/\r.plates<=3->C
abbrev q117_2 (w:WayS) (r:Run) (C:Nat->Prop):Prop:=q117_1 w r (∀ (x0:Nat),x0<=r.machines.length->decide ((x0:Int) < (↑(r.machines.length):Int))=true->C x0)
theorem w117 (w:WayS) (r:Run)
 (o0:q117_1 w r (0=(↑0:Int)))
 (o1:q117_1 w r (0=(sumTo r (fun (m:Nat)=>spread (w.whn m) r.plates.toNat) 0).lo))
 (o2:q117_1 w r (0=(sumTo r (fun (m:Nat)=>spread (w.whn m) r.plates.toNat) 0).hi))
 (o3:q117_1 w r (0<=r.machines.length))
 (o4:q117_2 w r fun x0=>0<=(x0:Int))
 (o5:q117_2 w r fun x0=>(x0:Int) < (↑(r.machines.length):Int))
 (o6:q117_2 w r fun x0=>r.plates=(↑(r.plates.toNat):Int))
 (o7:q117_2 w r fun x0=>wb w)
 (o8:q117_2 w r fun x0=>x0 < 3)
 (o9:q117_2 w r fun x0=>1<=r.plates.toNat)
 (o10:q117_2 w r fun x0=>r.plates.toNat<=3)
 (o11:q117_2 w r fun x0=>inI ((mach r x0).rate * (spread (w.whn x0) r.plates.toNat).lo))
 (o12:q117_2 w r fun x0=>inI ((sumTo r (fun (m:Nat)=>spread (w.whn m) r.plates.toNat) x0).lo + (mach r x0).rate * (spread (w.whn x0) r.plates.toNat).lo))
 (o13:q117_2 w r fun x0=>inI ((mach r x0).rate * (spread (w.whn x0) r.plates.toNat).hi))
 (o14:q117_2 w r fun x0=>inI ((sumTo r (fun (m:Nat)=>spread (w.whn m) r.plates.toNat) x0).hi + (mach r x0).rate * (spread (w.whn x0) r.plates.toNat).hi))
 (o15:q117_2 w r fun x0=>inI ((x0:Int) + 1))
 (o16:q117_2 w r fun x0=>(x0:Int) + 1=(↑(x0 + 1):Int))
 (o17:q117_2 w r fun x0=>(sumTo r (fun (m:Nat)=>spread (w.whn m) r.plates.toNat) x0).lo + (mach r x0).rate * (spread (w.whn x0) r.plates.toNat).lo=(sumTo r (fun (m:Nat)=>spread (w.whn m) r.plates.toNat) (x0 + 1)).lo)
 (o18:q117_2 w r fun x0=>(sumTo r (fun (m:Nat)=>spread (w.whn m) r.plates.toNat) x0).hi + (mach r x0).rate * (spread (w.whn x0) r.plates.toNat).hi=(sumTo r (fun (m:Nat)=>spread (w.whn m) r.plates.toNat) (x0 + 1)).hi)
 (o19:q117_2 w r fun x0=>x0 + 1<=r.machines.length)
 (o20:q117_2 w r fun x0=>r.machines.length - (x0 + 1) < r.machines.length - x0)
 (o21:q117_1 w r (∀ (x0:Nat),x0<=r.machines.length->decide ((x0:Int) < (↑(r.machines.length):Int))=false->(sumTo r (fun (m:Nat)=>spread (w.whn m) r.plates.toNat) x0).lo=(mixF r w).lo))
 (o22:q117_1 w r (∀ (x0:Nat),x0<=r.machines.length->decide ((x0:Int) < (↑(r.machines.length):Int))=false->(sumTo r (fun (m:Nat)=>spread (w.whn m) r.plates.toNat) x0).hi=(mixF r w).hi)) :
  Triple Try.prog 117 (s117 w r):=by
 refine triple_of Try.func117 rfl Try.call117 T0_ok _ rfl rfl rfl rfl (Nat.le_of_ble_eq_true (by kernel_rfl)) (fun _ _ _ _ h=>h) ?_
 intro hp C hC _ hE
 obtain ⟨P,w0,E0,av,hA⟩:=C
 subst hC
 refine swp_seq ?_
 refine sQ (kt:=[1,2,3]) (kh:=[0,8]) (q:=tn 2) (st':=ASt.mk [(1,.rp (cRun r)),(2,.ptr 0 []),(3,.ptr 8 [])] [(0,.cells 107 (cWay w)),(8,.cells 37 [iv 0,iv 0])] 16) (tp 2) ?_
 refine swp_seq (swp_seq ?_)
 refine sQ (kt:=[1,2,3,8,9,10]) (kh:=[0,8]) (q:=tn 4) (st':=ASt.mk [(1,.rp (cRun r)),(2,.ptr 0 []),(3,.ptr 8 []),(8,.sl 2 r.machines.length fun (i:Nat)=>cMach (mach r i)),(9,iv (↑(r.machines.length):Int)),(10,iv 0)] [(0,.cells 107 (cWay w)),(8,.cells 37 [iv 0,iv 0])] 48) (tp 4) ?_
 refine swp_block ?_
 refine swp_loopA (z117_1 w r) (eQ hE [] [(0,.same 0),(5000,.same 8)] [1,8,9] [0] (((zT (AV.rp (cRun r)))/\(zP 0)/\(zT (AV.sl 2 r.machines.length fun (i:Nat)=>cMach (mach r i)))/\(zT (iv (↑(r.machines.length):Int)))/\(zN (iv 0) (iv (↑0:Int)))/\(zP 8)/\True)/\((zT (OB.cells 107 (cWay w)))/\(37=37/\((zN (iv 0) (iv (sumTo r (fun (m:Nat)=>spread (w.whn m) r.plates.toNat) 0).lo))/\(zN (iv 0) (iv (sumTo r (fun (m:Nat)=>spread (w.whn m) r.plates.toNat) 0).hi))/\True)/\true=true)/\True)/\T2) ⟨⟨⟨rfl,rfl⟩,⟨rfl,rfl⟩,⟨rfl,rfl⟩,⟨rfl,rfl⟩,⟨(congrArg iv (o0 hp)),rfl⟩,⟨rfl,rfl⟩,tv⟩,⟨⟨rfl,rfl⟩,⟨rfl,⟨⟨(congrArg iv (o1 hp)),rfl⟩,⟨(congrArg iv (o2 hp)),rfl⟩,tv⟩,rfl⟩,tv⟩,rfl,rfl⟩) (o3 hp) (fun (x0:Nat) hx0 => ?_)
 refine swp_seq ?_
 refine sQ (kt:=[1,2,8,9,10,3,11]) (kh:=[0,5000]) (q:=True/\True) (st':=ASt.mk [(1,.rp (cRun r)),(2,.ptr 0 []),(8,.sl 2 r.machines.length fun (i:Nat)=>cMach (mach r i)),(9,iv (↑(r.machines.length):Int)),(10,iv (x0:Int)),(3,.ptr 5000 []),(11,bv (decide ((x0:Int) < (↑(r.machines.length):Int))))] [(0,.cells 107 (cWay w)),(5000,.cells 37 (cSpan (sumTo r (fun (m:Nat)=>spread (w.whn m) r.plates.toNat) x0)))] 10056) ⟨tv,tv⟩ ?_
 refine swp_seq ?_
 refine swp_cond (decide ((x0:Int) < (↑(r.machines.length):Int))) (by kernel_rfl) (fun h1 => ?_) (fun h1 => ?_)
 ·refine swp_skip (swp_seq (swp_block (swp_seq ?_)))
  refine sQ (kt:=[1,2,8,9,10,3,5,4]) (kh:=[0,5000,10080]) (q:=True/\(0<=(x0:Int)/\(x0:Int) < (↑(r.machines.length):Int))/\tn 4) (st':=ASt.mk [(1,.rp (cRun r)),(2,.ptr 0 []),(8,.sl 2 r.machines.length fun (i:Nat)=>cMach (mach r i)),(9,iv (↑(r.machines.length):Int)),(10,iv (x0:Int)),(3,.ptr 5000 []),(5,.ptr 10080 []),(4,iv (x0:Int))] [(0,.cells 107 (cWay w)),(5000,.cells 37 (cSpan (sumTo r (fun (m:Nat)=>spread (w.whn m) r.plates.toNat) x0))),(10080,.cells 42 (cMach (mach r x0)))] 10104) ⟨tv,⟨(o4 hp x0 hx0 h1),(o5 hp x0 hx0 h1)⟩,tp 4⟩ ?_
  refine swp_seq ?_
  refine sC (cs:=[(4,CallSpec.eq (c117 w r x0) [true,true,false])]) (kt:=[1,2,8,9,10,3,5,6]) (kh:=[0,5000,10080,10144]) (q:=True/\True/\True/\True/\((zE (AV.agg (cWay w))/\zE (iv (x0:Int))/\iv r.plates=iv (↑(r.plates.toNat):Int)/\True)/\Triple Try.prog 108 (c117 w r x0)/\(wb w/\x0 < 3/\1<=r.plates.toNat/\r.plates.toNat<=3)/\True /\ ∀ (i2:Env),True)/\tn 2) (st':=ASt.mk [(1,.rp (cRun r)),(2,.ptr 0 []),(8,.sl 2 r.machines.length fun (i:Nat)=>cMach (mach r i)),(9,iv (↑(r.machines.length):Int)),(10,iv (x0:Int)),(3,.ptr 5000 []),(5,.ptr 10080 []),(6,.ptr 10144 [])] [(0,.cells 107 (cWay w)),(5000,.cells 37 (cSpan (sumTo r (fun (m:Nat)=>spread (w.whn m) r.plates.toNat) x0))),(10080,.cells 42 (cMach (mach r x0))),(10144,.cells 37 (cSpan (spread (w.whn x0) r.plates.toNat)))] 10160) ⟨tv,tv,tv,tv,⟨⟨rfl,rfl,(congrArg iv (o6 hp x0 hx0 h1)),tv⟩,(t108 _ _ _),⟨(o7 hp x0 hx0 h1),(o8 hp x0 hx0 h1),(o9 hp x0 hx0 h1),(o10 hp x0 hx0 h1)⟩,tv,(fun i2=>tv)⟩,tp 2⟩ ?_
  refine swp_seq ?_
  refine sQ (kt:=[1,2,8,9,10,3,5,6]) (kh:=[0,5000,10080,10144]) (q:=True/\True/\True/\True/\True/\True/\inI ((mach r x0).rate * (spread (w.whn x0) r.plates.toNat).lo)/\inI ((sumTo r (fun (m:Nat)=>spread (w.whn m) r.plates.toNat) x0).lo + (mach r x0).rate * (spread (w.whn x0) r.plates.toNat).lo)/\tn 2) (st':=ASt.mk [(1,.rp (cRun r)),(2,.ptr 0 []),(8,.sl 2 r.machines.length fun (i:Nat)=>cMach (mach r i)),(9,iv (↑(r.machines.length):Int)),(10,iv (x0:Int)),(3,.ptr 5000 []),(5,.ptr 10080 []),(6,.ptr 10144 [])] [(0,.cells 107 (cWay w)),(5000,.cells 37 [iv ((sumTo r (fun (m:Nat)=>spread (w.whn m) r.plates.toNat) x0).lo + (mach r x0).rate * (spread (w.whn x0) r.plates.toNat).lo),iv (sumTo r (fun (m:Nat)=>spread (w.whn m) r.plates.toNat) x0).hi]),(10080,.cells 42 (cMach (mach r x0))),(10144,.cells 37 (cSpan (spread (w.whn x0) r.plates.toNat)))] 10240) ⟨tv,tv,tv,tv,tv,tv,(o11 hp x0 hx0 h1),(o12 hp x0 hx0 h1),tp 2⟩ ?_
  refine sQ (kt:=[1,2,8,9,10,3]) (kh:=[0,5000]) (q:=True/\True/\True/\True/\True/\True/\inI ((mach r x0).rate * (spread (w.whn x0) r.plates.toNat).hi)/\inI ((sumTo r (fun (m:Nat)=>spread (w.whn m) r.plates.toNat) x0).hi + (mach r x0).rate * (spread (w.whn x0) r.plates.toNat).hi)/\tn 2) (st':=ASt.mk [(1,.rp (cRun r)),(2,.ptr 0 []),(8,.sl 2 r.machines.length fun (i:Nat)=>cMach (mach r i)),(9,iv (↑(r.machines.length):Int)),(10,iv (x0:Int)),(3,.ptr 5000 [])] [(0,.cells 107 (cWay w)),(5000,.cells 37 [iv ((sumTo r (fun (m:Nat)=>spread (w.whn m) r.plates.toNat) x0).lo + (mach r x0).rate * (spread (w.whn x0) r.plates.toNat).lo),iv ((sumTo r (fun (m:Nat)=>spread (w.whn m) r.plates.toNat) x0).hi + (mach r x0).rate * (spread (w.whn x0) r.plates.toNat).hi)])] 10320) ⟨tv,tv,tv,tv,tv,tv,(o13 hp x0 hx0 h1),(o14 hp x0 hx0 h1),tp 2⟩ ?_
  refine sQ (kt:=[1,2,8,9,10,3]) (kh:=[0,5000]) (q:=inI ((x0:Int) + 1)/\True/\True) (st':=ASt.mk [(1,.rp (cRun r)),(2,.ptr 0 []),(8,.sl 2 r.machines.length fun (i:Nat)=>cMach (mach r i)),(9,iv (↑(r.machines.length):Int)),(10,iv ((x0:Int) + 1)),(3,.ptr 5000 [])] [(0,.cells 107 (cWay w)),(5000,.cells 37 [iv ((sumTo r (fun (m:Nat)=>spread (w.whn m) r.plates.toNat) x0).lo + (mach r x0).rate * (spread (w.whn x0) r.plates.toNat).lo),iv ((sumTo r (fun (m:Nat)=>spread (w.whn m) r.plates.toNat) x0).hi + (mach r x0).rate * (spread (w.whn x0) r.plates.toNat).hi)])] 10336) ⟨(o15 hp x0 hx0 h1),tv,tv⟩ ?_
  exact loop_next (z117_1 w r) x0 (eQ hE [] [(0,.same 0),(5000,.same 5000)] [1,8,9] [0] (((zT (AV.rp (cRun r)))/\(zP 0)/\(zT (AV.sl 2 r.machines.length fun (i:Nat)=>cMach (mach r i)))/\(zT (iv (↑(r.machines.length):Int)))/\(zN (iv ((x0:Int) + 1)) (iv (↑(x0 + 1):Int)))/\(zP 5000)/\True)/\((zT (OB.cells 107 (cWay w)))/\(37=37/\((zN (iv ((sumTo r (fun (m:Nat)=>spread (w.whn m) r.plates.toNat) x0).lo + (mach r x0).rate * (spread (w.whn x0) r.plates.toNat).lo)) (iv (sumTo r (fun (m:Nat)=>spread (w.whn m) r.plates.toNat) (x0 + 1)).lo))/\(zN (iv ((sumTo r (fun (m:Nat)=>spread (w.whn m) r.plates.toNat) x0).hi + (mach r x0).rate * (spread (w.whn x0) r.plates.toNat).hi)) (iv (sumTo r (fun (m:Nat)=>spread (w.whn m) r.plates.toNat) (x0 + 1)).hi))/\True)/\true=true)/\True)/\T2) ⟨⟨⟨rfl,rfl⟩,⟨rfl,rfl⟩,⟨rfl,rfl⟩,⟨rfl,rfl⟩,⟨(congrArg iv (o16 hp x0 hx0 h1)),rfl⟩,⟨rfl,rfl⟩,tv⟩,⟨⟨rfl,rfl⟩,⟨rfl,⟨⟨(congrArg iv (o17 hp x0 hx0 h1)),rfl⟩,⟨(congrArg iv (o18 hp x0 hx0 h1)),rfl⟩,tv⟩,rfl⟩,tv⟩,rfl,rfl⟩) (o19 hp x0 hx0 h1) (o20 hp x0 hx0 h1)
 ·refine swp_exit (swp_seq ?_)
  refine sQ (kt:=[3]) (kh:=[5000]) (q:=tn 2) (st':=ASt.mk [(3,.ptr 5000 [])] [(5000,.cells 37 (cSpan (sumTo r (fun (m:Nat)=>spread (w.whn m) r.plates.toNat) x0)))] 10072) (tp 2) ?_
  refine swp_ret ?_
  exact rQ [] ((True/\True)/\((zN (iv (sumTo r (fun (m:Nat)=>spread (w.whn m) r.plates.toNat) x0).lo) (iv (mixF r w).lo))/\(zN (iv (sumTo r (fun (m:Nat)=>spread (w.whn m) r.plates.toNat) x0).hi) (iv (mixF r w).hi))/\True)/\T3) ⟨⟨tv,tv⟩,⟨⟨(congrArg iv (o21 hp x0 hx0 h1)),rfl⟩,⟨(congrArg iv (o22 hp x0 hx0 h1)),rfl⟩,tv⟩,rfl,rfl,rfl⟩
theorem t117 (w:WayS) (r:Run):Triple Try.prog 117 (s117 w r):=by
 apply w117
 all_goals (try (first | (((repeat intro _) <;> (try simp only [v0,v1,v2,v3,v4,v5,v6,v7,v8,v9,inI,fits,Go.Sh.small] at *) <;> first | (exact rfl) | omega | exact vz | (simp_all; done) | (simp_all; omega))) | (intro hp _ _ _; exact hp.2.1) | ((repeat intro _); rw [sumTo_succ]; done) | (intro hp x hx hl; rw [show x=r.machines.length by simp only [decide_eq_false_iff_not] at hl; omega] <;> rfl) | (
  intro hp x hx hl
  simp only [decide_eq_true_eq] at hl
  have h1:=spread_b (g:=w.whn x) (fun q=>hp.2.1 x q) r.plates.toNat
  have h2:=sumTo_b hp.1 (f:=fun m=>spread (w.whn m) r.plates.toNat) (fun m=>spread_b (fun q=>hp.2.1 m q) _) x (by omega)
  have h3:=hp.1.2 x (by omega)
  have h4:=rate_mul h3 ⟨h1.1,h1.2.1⟩
  have h5:=rate_mul h3 ⟨h1.2.2.1,h1.2.2.2⟩
  have h6:=hp.1.1
  try simp only [inI]
  omega)))
abbrev q84_1 (r:Run) (l:List WayS) (C:Prop):Prop:=fits r/\rb r/\(∀ (w:WayS),w ∈ l->wb w)/\1<=r.plates/\r.plates<=3/\0 < l.length/\l.length<=65536->C
theorem w84 (r:Run) (l:List WayS)
 (o0:q84_1 r l (0 < l.length))
 (o1:q84_1 r l (l.length<=65536))
 (o2:∀ (E0:Env),fits r/\rb r/\(∀ (w:WayS),w ∈ l->wb w)/\1<=r.plates/\r.plates<=3/\0 < l.length/\l.length<=65536 -> ∀ (i0:Env) (i1:List Value),Env.le E0 i0->i1.length=List.length [aWays l,AV.fn 0]->(∀ (k:Nat),Rel i0 true (List.getD [aWays l,AV.clo 117 [AV.rp (cRun r)]] k AV.any) (i1.getD k undef))->fnokOf Try.prog 0 (fun (w:{ w:WayS // w ∈ l })=>[AV.agg (cWay (Subtype.val w))]) (fun (w:{ w:WayS // w ∈ l })=>vSpan (mixF r (Subtype.val w))) (Env.mk i0.1 i0.2 i0.3 fun (k:Nat) (u:Value) => ∃ (i:Nat),[aWays l,AV.fn 0][i]? = some (AV.fn k)/\i1[i]? = some u)) :
  Triple Try.prog 84 (s84 r l):=by
 refine triple_of Try.func84 rfl Try.call84 T0_ok _ rfl rfl rfl rfl (Nat.le_of_ble_eq_true (by kernel_rfl)) (fun _ _ _ _ h=>h) ?_
 intro hp C hC _ hE
 obtain ⟨P,w0,E0,av,hA⟩:=C
 subst hC
 refine swp_seq ?_
 refine sQ (kt:=[1,2,4]) (kh:=[0,8]) (q:=tn 2) (st':=ASt.mk [(1,aWays l),(2,.ptr 0 []),(4,.ptr 8 [])] [(0,.cells 25 (cRun r)),(8,.cells 37 [iv 0,iv 0])] 16) (tp 2) ?_
 refine swp_seq ?_
 refine swp_ent (ent_fz 0 25 (cRun r) (ASt.mk [(1,aWays l),(2,AV.rp (cRun r)),(4,AV.ptr 8 [])] [(8,OB.cells 37 [iv 0,iv 0])] 16) (by kernel_rfl) (by kernel_rfl) (by kernel_rfl)) ?_
 refine sC (cs:=[(2,CallSpec.eq (c84 r l) [true,false])]) (kt:=[4]) (kh:=[8]) (q:=True/\True/\((zE (aWays l)/\True/\True)/\Triple Try.prog 81 (c84 r l)/\(0 < l.length/\l.length<=65536)/\True /\ ∀ (i0:Env) (i1:List Value),Env.le E0 i0->i1.length=List.length [aWays l,AV.fn 0]->(∀ (k:Nat),Rel i0 true (List.getD [aWays l,AV.clo 117 [AV.rp (cRun r)]] k AV.any) (i1.getD k undef))->fnokOf Try.prog 0 (fun (w:{ w:WayS // w ∈ l })=>[AV.agg (cWay (Subtype.val w))]) (fun (w:{ w:WayS // w ∈ l })=>vSpan (mixF r (Subtype.val w))) (Env.mk i0.1 i0.2 i0.3 fun (k:Nat) (u:Value) => ∃ (i:Nat),[aWays l,AV.fn 0][i]? = some (AV.fn k)/\i1[i]? = some u))/\True/\True) (st':=ASt.mk [(4,.ptr 8 [])] [(8,.cells 37 (cSpan (hullOf l (mixF r))))] 48) ⟨tv,tv,⟨⟨rfl,tv,tv⟩,(t81 _ _),⟨(o0 hp),(o1 hp)⟩,tv,(fun i0=>(fun i1=>(fun h2=>(fun h3=>(fun h4=>(o2 E0 hp i0 i1 h2 h3 h4))))))⟩,tv,tv⟩ ?_
 refine swp_ret ?_
 exact rQ [] ((True/\True)/\((zM (iv (hullOf l (mixF r)).lo))/\(zM (iv (hullOf l (mixF r)).hi))/\True)/\T3) ⟨⟨tv,tv⟩,⟨⟨rfl,rfl⟩,⟨rfl,rfl⟩,tv⟩,rfl,rfl,rfl⟩
theorem t84 (r:Run) (l:List WayS):Triple Try.prog 84 (s84 r l):=by
 apply w84
 case o2 =>
  intro E0 hp E us le hlen hr
  refine fnok_arg (vals:=[aWays l,.clo 117 [.rp (cRun r)]]) 1 (fun j' h => ?_) (fun E u hu w=>fnok_clo (caps:=[.rp (cRun r)]) (s117 w.1 r) (t117 w.1 _) rfl ⟨hp.2.1,hp.2.2.1 _ w.2,hp.2.2.2.1,hp.2.2.2.2.1⟩ (fun _=>trivial) rfl rfl rfl rfl rfl hu) E us le hlen hr
  match j',h with
  | 0,h=>cases h
  | 1,_=>rfl
  | n + 2,h=>simp at h
 all_goals ((repeat intro _) <;> (try simp only [v0,v1,v2,v3,v4,v5,v6,v7,v8,v9,inI,fits,Go.Sh.small] at *) <;> first | (exact rfl) | omega | exact vz | (simp_all; done) | (simp_all; omega))
abbrev q27_1 (r:Run) (C:Prop):Prop:=fits r->(!decide (openE r true=0))=false->C
theorem w27 (r:Run)
 (o0:fits r->(!decide (openE r true=0))->0=(mixesS r).lo)
 (o1:fits r->(!decide (openE r true=0))->0=(mixesS r).hi)
 (o2:q27_1 r (rb r))
 (o3:q27_1 r (∀ (i2:WayS),i2 ∈ openL r true->wb i2))
 (o4:q27_1 r (1<=r.plates))
 (o5:q27_1 r (r.plates<=3))
 (o6:q27_1 r (0 < (openL r true).length))
 (o7:q27_1 r ((openL r true).length<=65536))
 (o8:q27_1 r ((hullOf (openL r true) (mixF r)).lo=(mixesS r).lo))
 (o9:q27_1 r ((hullOf (openL r true) (mixF r)).hi=(mixesS r).hi))
 (o10:q27_1 r (0=openE r true)) :
  Triple Try.prog 27 (s27 r):=by
 refine triple_of Try.func27 rfl Try.call27 T0_ok _ rfl rfl rfl rfl (Nat.le_of_ble_eq_true (by kernel_rfl)) (fun _ _ _ _ h=>h) ?_
 intro hp C hC _ hE
 obtain ⟨P,w0,E0,av,hA⟩:=C
 subst hC
 refine swp_seq ?_
 refine sQ (kt:=[1,2]) (kh:=[0,8]) (q:=tn 3) (st':=ASt.mk [(1,.ptr 0 []),(2,.ptr 8 [])] [(0,.cells 25 (cRun r)),(8,.cells 37 [iv 0,iv 0])] 24) (tp 3) ?_
 refine swp_seq ?_
 refine sC (cs:=[(1,CallSpec.eq (s78 r true) [true,true])]) (kt:=[1,2,4,5]) (kh:=[0,8]) (q:=True/\((zE (AV.agg (cRun r))/\zE (bv true)/\True)/\Triple Try.prog 78 (s78 r true)/\fits r/\True /\ ∀ (i0:Env),True)/\tn 5) (st':=ASt.mk [(1,.ptr 0 []),(2,.ptr 8 []),(4,aWays (openL r true)),(5,iv (openE r true))] [(0,.cells 25 (cRun r)),(8,.cells 37 [iv 0,iv 0])] 80) ⟨tv,⟨⟨rfl,rfl,tv⟩,(t78 (r) (true)),hp,tv,(fun i0=>tv)⟩,tp 5⟩ ?_
 refine swp_seq (swp_seq ?_)
 refine sQ (kt:=[1,2,4,5,12]) (kh:=[0,8]) (q:=tn 2) (st':=ASt.mk [(1,.ptr 0 []),(2,.ptr 8 []),(4,aWays (openL r true)),(5,iv (openE r true)),(12,bv !decide (openE r true=0))] [(0,.cells 25 (cRun r)),(8,.cells 37 [iv 0,iv 0])] 96) (tp 2) ?_
 refine swp_cond (!decide (openE r true=0)) (by kernel_rfl) (fun h1 => ?_) (fun h1 => ?_)
 ·refine swp_seq ?_
  refine sQ (kt:=[2,3]) (kh:=[8]) (q:=tn 4) (st':=ASt.mk [(2,.ptr 8 []),(3,iv (openE r true))] [(8,.cells 37 [iv 0,iv 0])] 128) (tp 4) ?_
  refine swp_ret ?_
  exact rQ [] ((True/\True/\True)/\(((zN (iv 0) (iv (mixesS r).lo))/\(zN (iv 0) (iv (mixesS r).hi))/\True)/\(zM (iv (openE r true)))/\True)/\T3) ⟨⟨tv,tv,tv⟩,⟨⟨⟨(congrArg iv (o0 hp h1)),rfl⟩,⟨(congrArg iv (o1 hp h1)),rfl⟩,tv⟩,⟨rfl,rfl⟩,tv⟩,rfl,rfl,rfl⟩
 ·refine swp_skip (swp_seq ?_)
  refine sC (cs:=[(2,CallSpec.eq (c27 r) [true,true])]) (kt:=[2,3]) (kh:=[8]) (q:=True/\True/\((zE (AV.agg (cRun r))/\zE (aWays (openL r true))/\True)/\Triple Try.prog 84 (c27 r)/\(fits r/\rb r/\(∀ (i2:WayS),i2 ∈ openL r true->wb i2)/\1<=r.plates/\r.plates<=3/\0 < (openL r true).length/\(openL r true).length<=65536)/\True /\ ∀ (i4:Env),True)/\tn 2) (st':=ASt.mk [(2,.ptr 8 []),(3,iv 0)] [(8,.cells 37 (cSpan (hullOf (openL r true) (mixF r))))] 136) ⟨tv,tv,⟨⟨rfl,rfl,tv⟩,(t84 _ _),⟨hp,(o2 hp h1),(fun i2=>(fun h3=>(o3 hp h1 i2 h3))),(o4 hp h1),(o5 hp h1),(o6 hp h1),(o7 hp h1)⟩,tv,(fun i4=>tv)⟩,tp 2⟩ ?_
  refine swp_ret ?_
  exact rQ [] ((True/\True/\True)/\(((zN (iv (hullOf (openL r true) (mixF r)).lo) (iv (mixesS r).lo))/\(zN (iv (hullOf (openL r true) (mixF r)).hi) (iv (mixesS r).hi))/\True)/\(zN (iv 0) (iv (openE r true)))/\True)/\T3) ⟨⟨tv,tv,tv⟩,⟨⟨⟨(congrArg iv (o8 hp h1)),rfl⟩,⟨(congrArg iv (o9 hp h1)),rfl⟩,tv⟩,⟨(congrArg iv (o10 hp h1)),rfl⟩,tv⟩,rfl,rfl,rfl⟩
theorem t27 (r:Run):Triple Try.prog 27 (s27 r):=by
 apply w27
 case o0 | o1=>intro _ h; rw [mixesS,if_neg (openBad h)]
 case o8 | o9=>intro _ h; rw [mixesS,if_pos (openF h).zero,(openF h).eq]
 all_goals (intro _ h; have F:=openF h; have h1:=F.ok.plates; have h2:=F.pos; have h3:=F.len; first | omega | exact rb_of F.ok | exact F.wb | exact F.zero.symm)
abbrev q26_1 (r:Run) (p:Int) (C:Prop):Prop:=fits r->(!decide (openE r (isPlate r p)=0))=false->C
theorem w26 (r:Run) (p:Int)
 (o0:fits r->(!decide (openE r (isPlate r p)=0))->0=(oldS r p).lo)
 (o1:fits r->(!decide (openE r (isPlate r p)=0))->0=(oldS r p).hi)
 (o2:q26_1 r p (0 < (openL r (isPlate r p)).length))
 (o3:q26_1 r p ((openL r (isPlate r p)).length<=65536))
 (o4:∀ (E0:Env),fits r->(!decide (openE r (isPlate r p)=0))=false -> ∀ (i3:Env) (i4:List Value),Env.le E0 i3->i4.length=List.length [aWays (openL r (isPlate r p)),AV.fn 0]->(∀ (k:Nat),Rel i3 true (List.getD [aWays (openL r (isPlate r p)),AV.clo 83 [AV.rp (cRun r),AV.rp [iv p]]] k AV.any) (i4.getD k undef))->fnokOf Try.prog 0 (fun (w:{ w:WayS // w ∈ openL r (isPlate r p) })=>[AV.agg (cWay (Subtype.val w))]) (fun (w:{ w:WayS // w ∈ openL r (isPlate r p) })=>vSpan (oldF r p.toNat (Subtype.val w))) (Env.mk i3.1 i3.2 i3.3 fun (k:Nat) (u:Value) => ∃ (i:Nat),[aWays (openL r (isPlate r p)),AV.fn 0][i]? = some (AV.fn k)/\i4[i]? = some u))
 (o5:q26_1 r p ((hullOf (openL r (isPlate r p)) (oldF r p.toNat)).lo=(oldS r p).lo))
 (o6:q26_1 r p ((hullOf (openL r (isPlate r p)) (oldF r p.toNat)).hi=(oldS r p).hi))
 (o7:q26_1 r p (0=openE r (isPlate r p))) :
  Triple Try.prog 26 (s26 r p):=by
 refine triple_of Try.func26 rfl Try.call26 T0_ok _ rfl rfl rfl rfl (Nat.le_of_ble_eq_true (by kernel_rfl)) (fun _ _ _ _ h=>h) ?_
 intro hp C hC _ hE
 obtain ⟨P,w0,E0,av,hA⟩:=C
 subst hC
 refine swp_seq ?_
 refine sQ (kt:=[2,3,4]) (kh:=[0,8,16]) (q:=tn 4) (st':=ASt.mk [(2,.ptr 0 []),(3,.ptr 8 []),(4,.ptr 16 [])] [(0,.cells 25 (cRun r)),(8,.cells 3 [iv p]),(16,.cells 37 [iv 0,iv 0])] 32) (tp 4) ?_
 refine swp_seq ?_
 refine sC (cs:=[(3,CallSpec.eq (s80 r p) [true,true]),(4,CallSpec.eq (c26o r p) [true,true])]) (kt:=[2,3,4,6,7]) (kh:=[0,8,16]) (q:=True/\True/\True/\((zE (AV.agg (cRun r))/\iv p=iv p/\True)/\Triple Try.prog 80 (s80 r p)/\fits r/\True /\ ∀ (i0:Env),True)/\((zE (AV.agg (cRun r))/\zE (bv (isPlate r p))/\True)/\Triple Try.prog 78 (c26o r p)/\fits r/\True /\ ∀ (i1:Env),True)/\tn 5) (st':=ASt.mk [(2,.ptr 0 []),(3,.ptr 8 []),(4,.ptr 16 []),(6,aWays (openL r (isPlate r p))),(7,iv (openE r (isPlate r p)))] [(0,.cells 25 (cRun r)),(8,.cells 3 [iv p]),(16,.cells 37 [iv 0,iv 0])] 112) ⟨tv,tv,tv,⟨⟨rfl,rfl,tv⟩,(t80 (r) (p)),hp,tv,(fun i0=>tv)⟩,⟨⟨rfl,rfl,tv⟩,(t78 _ _),hp,tv,(fun i1=>tv)⟩,tp 5⟩ ?_
 refine swp_seq (swp_seq ?_)
 refine sQ (kt:=[2,3,4,6,7,17]) (kh:=[0,8,16]) (q:=tn 2) (st':=ASt.mk [(2,.ptr 0 []),(3,.ptr 8 []),(4,.ptr 16 []),(6,aWays (openL r (isPlate r p))),(7,iv (openE r (isPlate r p))),(17,bv !decide (openE r (isPlate r p)=0))] [(0,.cells 25 (cRun r)),(8,.cells 3 [iv p]),(16,.cells 37 [iv 0,iv 0])] 128) (tp 2) ?_
 refine swp_cond (!decide (openE r (isPlate r p)=0)) (by kernel_rfl) (fun h2 => ?_) (fun h2 => ?_)
 ·refine swp_seq ?_
  refine sQ (kt:=[4,5]) (kh:=[16]) (q:=tn 4) (st':=ASt.mk [(4,.ptr 16 []),(5,iv (openE r (isPlate r p)))] [(16,.cells 37 [iv 0,iv 0])] 160) (tp 4) ?_
  refine swp_ret ?_
  exact rQ [] ((True/\True/\True)/\(((zN (iv 0) (iv (oldS r p).lo))/\(zN (iv 0) (iv (oldS r p).hi))/\True)/\(zM (iv (openE r (isPlate r p))))/\True)/\T3) ⟨⟨tv,tv,tv⟩,⟨⟨⟨(congrArg iv (o0 hp h2)),rfl⟩,⟨(congrArg iv (o1 hp h2)),rfl⟩,tv⟩,⟨rfl,rfl⟩,tv⟩,rfl,rfl,rfl⟩
 ·refine swp_skip (swp_seq ?_)
  refine swp_ent (ent_fz 0 25 (cRun r) (ASt.mk [(2,AV.rp (cRun r)),(3,AV.ptr 8 []),(4,AV.ptr 16 []),(6,aWays (openL r (isPlate r p))),(7,iv (openE r (isPlate r p))),(17,bv !decide (openE r (isPlate r p)=0))] [(8,OB.cells 3 [iv p]),(16,OB.cells 37 [iv 0,iv 0])] 128) (by kernel_rfl) (by kernel_rfl) (by kernel_rfl)) ?_
  refine swp_ent (ent_fz 8 3 ([iv p]) (ASt.mk [(2,AV.rp (cRun r)),(3,AV.rp [iv p]),(4,AV.ptr 16 []),(6,aWays (openL r (isPlate r p))),(7,iv (openE r (isPlate r p))),(17,bv !decide (openE r (isPlate r p)=0))] [(16,OB.cells 37 [iv 0,iv 0])] 128) (by kernel_rfl) (by kernel_rfl) (by kernel_rfl)) ?_
  refine sC (cs:=[(2,CallSpec.eq (c26 r p) [true,false])]) (kt:=[4,5]) (kh:=[16]) (q:=True/\True/\((zE (aWays (openL r (isPlate r p)))/\True/\True)/\Triple Try.prog 81 (c26 r p)/\(0 < (openL r (isPlate r p)).length/\(openL r (isPlate r p)).length<=65536)/\True /\ ∀ (i3:Env) (i4:List Value),Env.le E0 i3->i4.length=List.length [aWays (openL r (isPlate r p)),AV.fn 0]->(∀ (k:Nat),Rel i3 true (List.getD [aWays (openL r (isPlate r p)),AV.clo 83 [AV.rp (cRun r),AV.rp [iv p]]] k AV.any) (i4.getD k undef))->fnokOf Try.prog 0 (fun (w:{ w:WayS // w ∈ openL r (isPlate r p) })=>[AV.agg (cWay (Subtype.val w))]) (fun (w:{ w:WayS // w ∈ openL r (isPlate r p) })=>vSpan (oldF r p.toNat (Subtype.val w))) (Env.mk i3.1 i3.2 i3.3 fun (k:Nat) (u:Value) => ∃ (i:Nat),[aWays (openL r (isPlate r p)),AV.fn 0][i]? = some (AV.fn k)/\i4[i]? = some u))/\tn 2) (st':=ASt.mk [(4,.ptr 16 []),(5,iv 0)] [(16,.cells 37 (cSpan (hullOf (openL r (isPlate r p)) (oldF r p.toNat))))] 168) ⟨tv,tv,⟨⟨rfl,tv,tv⟩,(t81 _ _),⟨(o2 hp h2),(o3 hp h2)⟩,tv,(fun i3=>(fun i4=>(fun h5=>(fun h6=>(fun h7=>(o4 E0 hp h2 i3 i4 h5 h6 h7))))))⟩,tp 2⟩ ?_
  refine swp_ret ?_
  exact rQ [] ((True/\True/\True)/\(((zN (iv (hullOf (openL r (isPlate r p)) (oldF r p.toNat)).lo) (iv (oldS r p).lo))/\(zN (iv (hullOf (openL r (isPlate r p)) (oldF r p.toNat)).hi) (iv (oldS r p).hi))/\True)/\(zN (iv 0) (iv (openE r (isPlate r p))))/\True)/\T3) ⟨⟨tv,tv,tv⟩,⟨⟨⟨(congrArg iv (o5 hp h2)),rfl⟩,⟨(congrArg iv (o6 hp h2)),rfl⟩,tv⟩,⟨(congrArg iv (o7 hp h2)),rfl⟩,tv⟩,rfl,rfl,rfl⟩
theorem t26 (r:Run) (p:Int):Triple Try.prog 26 (s26 r p):=by
 apply w26
 case o0 | o1=>intro _ h; rw [oldS,if_neg (openBad h)]
 case o4 =>
  intro E0 _ h E us le hlen hr
  have F:=openF h
  have hw:=plateIs_ok F.ok F.isT
  refine fnok_arg (vals:=[aWays (openL r (isPlate r p)),.clo 83 [.rp (cRun r),.rp [iv p]]]) 1 (fun j' h => ?_) (fun E u hu w=>fnok_clo (caps:=[.rp (cRun r),.rp [iv p]]) (s83 w.1 r p.toNat) (t83 w.1 _ _) ?_ ⟨rb_of F.ok,F.wb _ w.2,by omega⟩ (fun _=>trivial) rfl rfl rfl rfl rfl hu) E us le hlen hr
  ·match j',h with
   | 0,h=>cases h
   | 1,_=>rfl
   | n + 2,h=>simp at h
  ·show [AV.agg (cWay w),AV.rp (cRun r),AV.rp [iv (p.toNat:Int)]]=_
   rw [Int.toNat_of_nonneg hw.1]; rfl
 case o5 | o6=>intro _ h; rw [oldS,if_pos (openF h).zero,(openF h).eq]
 all_goals (intro _ h; have F:=openF h; have h2:=F.pos; have h3:=F.len; first | omega | exact F.zero.symm)
abbrev z31_1 (r:Run) (f:Int) (p:Int):LoopAnn:=Hint.ann (h31 r f p) [(1,iv f),(2,iv p),(3,AV.ptr 0 []),(8,aWays (openL r (readIs r f p))),(32,aWays (openL r (readIs r f p))),(33,iv (↑((openL r (readIs r f p)).length):Int))] [(0,OB.cells 25 (cRun r))] 10200
abbrev q31_1 (r:Run) (f:Int) (p:Int) (C:Prop):Prop:=fits r->(!decide (openE r (readIs r f p)=0))=false->C
abbrev q31_2 (r:Run) (f:Int) (p:Int) (C:Nat->Prop):Prop:=q31_1 r f p (∀ (x11:Nat),x11<=(openL r (readIs r f p)).length->decide ((x11:Int) < (↑((openL r (readIs r f p)).length):Int))=true->C x11)
abbrev q31_3 (r:Run) (f:Int) (p:Int) (C:Nat->Prop):Prop:=q31_2 r f p fun x11=>decide ((((openL r (readIs r f p)).getD x11 default).whn (((openL r (readIs r f p)).getD x11 default).frm.getD f.toNat 0).toNat p.toNat).hi<=(fnd r f.toNat).minute)=true->C x11
abbrev q31_4 (r:Run) (f:Int) (p:Int) (C:Nat->Prop):Prop:=q31_2 r f p fun x11=>decide ((((openL r (readIs r f p)).getD x11 default).whn (((openL r (readIs r f p)).getD x11 default).frm.getD f.toNat 0).toNat p.toNat).hi<=(fnd r f.toNat).minute)=false->C x11
abbrev q31_5 (r:Run) (f:Int) (p:Int) (C:Nat->Prop):Prop:=q31_4 r f p fun x11=>decide ((fnd r f.toNat).minute < (((openL r (readIs r f p)).getD x11 default).whn (((openL r (readIs r f p)).getD x11 default).frm.getD f.toNat 0).toNat p.toNat).lo)=true->C x11
abbrev q31_6 (r:Run) (f:Int) (p:Int) (C:Nat->Prop):Prop:=q31_4 r f p fun x11=>decide ((fnd r f.toNat).minute < (((openL r (readIs r f p)).getD x11 default).whn (((openL r (readIs r f p)).getD x11 default).frm.getD f.toNat 0).toNat p.toNat).lo)=false->C x11
abbrev q31_7 (r:Run) (f:Int) (p:Int) (C:Nat->Prop):Prop:=q31_1 r f p (∀ (x11:Nat),x11<=(openL r (readIs r f p)).length->decide ((x11:Int) < (↑((openL r (readIs r f p)).length):Int))=false->C x11)
theorem w31 (r:Run) (f:Int) (p:Int)
 (o0:fits r->(bif isFound r f then isPlate r p else false)=readIs r f p)
 (o1:fits r->(!decide (openE r (readIs r f p)=0))->0=readS r f p)
 (o2:q31_1 r f p (0=(↑(cnt (openL r (readIs r f p)) (rdSo r f.toNat p.toNat) 0):Int)))
 (o3:q31_1 r f p (0=(↑(cnt (openL r (readIs r f p)) (rdNot r f.toNat p.toNat) 0):Int)))
 (o4:q31_1 r f p (0=(↑0:Int)))
 (o5:q31_1 r f p (0<=(openL r (readIs r f p)).length))
 (o6:q31_2 r f p fun x11=>0<=(x11:Int))
 (o7:q31_2 r f p fun x11=>(x11:Int) < (↑((openL r (readIs r f p)).length):Int))
 (o8:q31_2 r f p fun x11=>0<=f)
 (o9:q31_2 r f p fun x11=>f < (↑(((openL r (readIs r f p)).getD x11 default).frm.length):Int))
 (o10:q31_2 r f p fun x11=>0<=((openL r (readIs r f p)).getD x11 default).frm.getD f.toNat 0)
 (o11:q31_2 r f p fun x11=>((openL r (readIs r f p)).getD x11 default).frm.getD f.toNat 0 < (↑3:Int))
 (o12:q31_2 r f p fun x11=>0<=p)
 (o13:q31_2 r f p fun x11=>p < (↑3:Int))
 (o14:q31_2 r f p fun x11=>(((openL r (readIs r f p)).getD x11 default).frm.getD f.toNat 0).toNat < 3)
 (o15:q31_2 r f p fun x11=>p.toNat < 3)
 (o16:q31_2 r f p fun x11=>0<=f)
 (o17:q31_2 r f p fun x11=>f < (↑(r.found.length):Int))
 (o18:q31_3 r f p fun x11=>inI ((↑(cnt (openL r (readIs r f p)) (rdSo r f.toNat p.toNat) x11):Int) + 1))
 (o19:q31_3 r f p fun x11=>inI ((x11:Int) + 1))
 (o20:q31_3 r f p fun x11=>(↑(cnt (openL r (readIs r f p)) (rdSo r f.toNat p.toNat) x11):Int) + 1=(↑(cnt (openL r (readIs r f p)) (rdSo r f.toNat p.toNat) (x11 + 1)):Int))
 (o21:q31_3 r f p fun x11=>(↑(cnt (openL r (readIs r f p)) (rdNot r f.toNat p.toNat) x11):Int)=(↑(cnt (openL r (readIs r f p)) (rdNot r f.toNat p.toNat) (x11 + 1)):Int))
 (o22:q31_3 r f p fun x11=>(x11:Int) + 1=(↑(x11 + 1):Int))
 (o23:q31_3 r f p fun x11=>x11 + 1<=(openL r (readIs r f p)).length)
 (o24:q31_3 r f p fun x11=>(openL r (readIs r f p)).length - (x11 + 1) < (openL r (readIs r f p)).length - x11)
 (o25:q31_5 r f p fun x11=>inI ((↑(cnt (openL r (readIs r f p)) (rdNot r f.toNat p.toNat) x11):Int) + 1))
 (o26:q31_5 r f p fun x11=>inI ((x11:Int) + 1))
 (o27:q31_5 r f p fun x11=>(↑(cnt (openL r (readIs r f p)) (rdSo r f.toNat p.toNat) x11):Int)=(↑(cnt (openL r (readIs r f p)) (rdSo r f.toNat p.toNat) (x11 + 1)):Int))
 (o28:q31_5 r f p fun x11=>(↑(cnt (openL r (readIs r f p)) (rdNot r f.toNat p.toNat) x11):Int) + 1=(↑(cnt (openL r (readIs r f p)) (rdNot r f.toNat p.toNat) (x11 + 1)):Int))
 (o29:q31_5 r f p fun x11=>(x11:Int) + 1=(↑(x11 + 1):Int))
 (o30:q31_5 r f p fun x11=>x11 + 1<=(openL r (readIs r f p)).length)
 (o31:q31_5 r f p fun x11=>(openL r (readIs r f p)).length - (x11 + 1) < (openL r (readIs r f p)).length - x11)
 (o32:q31_6 r f p fun x11=>inI ((x11:Int) + 1))
 (o33:q31_6 r f p fun x11=>(↑(cnt (openL r (readIs r f p)) (rdSo r f.toNat p.toNat) x11):Int)=(↑(cnt (openL r (readIs r f p)) (rdSo r f.toNat p.toNat) (x11 + 1)):Int))
 (o34:q31_6 r f p fun x11=>(↑(cnt (openL r (readIs r f p)) (rdNot r f.toNat p.toNat) x11):Int)=(↑(cnt (openL r (readIs r f p)) (rdNot r f.toNat p.toNat) (x11 + 1)):Int))
 (o35:q31_6 r f p fun x11=>(x11:Int) + 1=(↑(x11 + 1):Int))
 (o36:q31_6 r f p fun x11=>x11 + 1<=(openL r (readIs r f p)).length)
 (o37:q31_6 r f p fun x11=>(openL r (readIs r f p)).length - (x11 + 1) < (openL r (readIs r f p)).length - x11)
 (o38:q31_7 r f p fun x11=>known3 (↑(cnt (openL r (readIs r f p)) (rdSo r f.toNat p.toNat) x11):Int) (↑(cnt (openL r (readIs r f p)) (rdNot r f.toNat p.toNat) x11):Int) (↑((openL r (readIs r f p)).length):Int)=readS r f p)
 (o39:q31_7 r f p fun x11=>0=openE r (readIs r f p)) :
  Triple Try.prog 31 (s31 r f p):=by
 refine triple_of Try.func31 rfl Try.call31 T0_ok _ rfl rfl rfl rfl (Nat.le_of_ble_eq_true (by kernel_rfl)) (fun _ _ _ _ h=>h) ?_
 intro hp C hC _ hE
 obtain ⟨P,w0,E0,av,hA⟩:=C
 subst hC
 refine swp_seq ?_
 refine sQ (kt:=[1,2,3]) (kh:=[0]) (q:=tn 3) (st':=ASt.mk [(1,iv f),(2,iv p),(3,.ptr 0 [])] [(0,.cells 25 (cRun r))] 24) (tp 3) ?_
 refine swp_seq ?_
 refine sC (cs:=[(3,CallSpec.eq (s85 r f) [true,true]),(7,CallSpec.eq (s80 r p) [true,true]),(9,CallSpec.eq (c31o r f p) [true,false])]) (kt:=[1,2,3,8,9]) (kh:=[0]) (q:=True/\True/\True/\((zE (AV.agg (cRun r))/\iv f=iv f/\True)/\Triple Try.prog 85 (s85 r f)/\fits r/\True /\ ∀ (i0:Env),True)/\True/\(isFound r f=true->(True/\True)/\True)/\(isFound r f=true->(True/\True)/\True)/\(isFound r f=true->(True/\(isFound r f=true->isFound r f=true)/\(isFound r f=true->isFound r f=true)/\True)/\(zE (AV.agg (cRun r))/\iv p=iv p/\True)/\Triple Try.prog 80 (s80 r p)/\fits r/\True /\ ∀ (i6:Env),True)/\((isFound r f=true->isFound r f=true)/\(isFound r f=false->True))/\((zE (AV.agg (cRun r))/\bv (bif isFound r f then isPlate r p else false)=bv (readIs r f p)/\True)/\Triple Try.prog 78 (c31o r f p)/\fits r/\True /\ ∀ (i9:Env),True)/\tn 5) (st':=ASt.mk [(1,iv f),(2,iv p),(3,.ptr 0 []),(8,aWays (openL r (readIs r f p))),(9,iv (openE r (readIs r f p)))] [(0,.cells 25 (cRun r))] 144) ⟨tv,tv,tv,⟨⟨rfl,rfl,tv⟩,(t85 (r) (f)),hp,tv,(fun i0=>tv)⟩,tv,(fun h1=>⟨⟨tv,tv⟩,tv⟩),(fun h2=>⟨⟨tv,tv⟩,tv⟩),(fun h3=>⟨⟨tv,(fun h4=>h3),(fun h5=>h3),tv⟩,⟨rfl,rfl,tv⟩,(t80 (r) (p)),hp,tv,(fun i6=>tv)⟩),⟨(fun h7=>h7),(fun h8=>tv)⟩,⟨⟨rfl,(congrArg bv (o0 hp)),tv⟩,(t78 _ _),hp,tv,(fun i9=>tv)⟩,tp 5⟩ ?_
 refine swp_seq (swp_seq ?_)
 refine sQ (kt:=[1,2,3,8,9,30]) (kh:=[0]) (q:=tn 2) (st':=ASt.mk [(1,iv f),(2,iv p),(3,.ptr 0 []),(8,aWays (openL r (readIs r f p))),(9,iv (openE r (readIs r f p))),(30,bv !decide (openE r (readIs r f p)=0))] [(0,.cells 25 (cRun r))] 160) (tp 2) ?_
 refine swp_cond (!decide (openE r (readIs r f p)=0)) (by kernel_rfl) (fun h10 => ?_) (fun h10 => ?_)
 ·refine swp_seq ?_
  refine sQ (kt:=[6,7]) (kh:=[]) (q:=tn 3) (st':=ASt.mk [(6,iv 0),(7,iv (openE r (readIs r f p)))] [] 184) (tp 3) ?_
  refine swp_ret ?_
  exact rQ [] ((True/\True/\True)/\((zN (iv 0) (iv (readS r f p)))/\(zM (iv (openE r (readIs r f p))))/\True)/\T3) ⟨⟨tv,tv,tv⟩,⟨⟨(congrArg iv (o1 hp h10)),rfl⟩,⟨rfl,rfl⟩,tv⟩,rfl,rfl,rfl⟩
 ·refine swp_skip (swp_seq ?_)
  refine sQ (kt:=[1,2,3,8,10,11]) (kh:=[0]) (q:=tn 2) (st':=ASt.mk [(1,iv f),(2,iv p),(3,.ptr 0 []),(8,aWays (openL r (readIs r f p))),(10,iv 0),(11,iv 0)] [(0,.cells 25 (cRun r))] 176) (tp 2) ?_
  refine swp_seq (swp_seq ?_)
  refine sQ (kt:=[1,2,3,8,10,11,32,33,34]) (kh:=[0]) (q:=tn 3) (st':=ASt.mk [(1,iv f),(2,iv p),(3,.ptr 0 []),(8,aWays (openL r (readIs r f p))),(10,iv 0),(11,iv 0),(32,aWays (openL r (readIs r f p))),(33,iv (↑((openL r (readIs r f p)).length):Int)),(34,iv 0)] [(0,.cells 25 (cRun r))] 200) (tp 3) ?_
  refine swp_block ?_
  refine swp_loopA (z31_1 r f p) (eQ hE [] [(0,.same 0)] [1,2,8,32,33] [0] (((zT (iv f))/\(zT (iv p))/\(zP 0)/\(zT (aWays (openL r (readIs r f p))))/\(zT (aWays (openL r (readIs r f p))))/\(zT (iv (↑((openL r (readIs r f p)).length):Int)))/\(zN (iv 0) (iv (↑(cnt (openL r (readIs r f p)) (rdSo r f.toNat p.toNat) 0):Int)))/\(zN (iv 0) (iv (↑(cnt (openL r (readIs r f p)) (rdNot r f.toNat p.toNat) 0):Int)))/\(zN (iv 0) (iv (↑0:Int)))/\True)/\((zT (OB.cells 25 (cRun r)))/\True)/\T2) ⟨⟨⟨rfl,rfl⟩,⟨rfl,rfl⟩,⟨rfl,rfl⟩,⟨rfl,rfl⟩,⟨rfl,rfl⟩,⟨rfl,rfl⟩,⟨(congrArg iv (o2 hp h10)),rfl⟩,⟨(congrArg iv (o3 hp h10)),rfl⟩,⟨(congrArg iv (o4 hp h10)),rfl⟩,tv⟩,⟨⟨rfl,rfl⟩,tv⟩,rfl,rfl⟩) (o5 hp h10) (fun (x11:Nat) hx11 => ?_)
  refine swp_seq ?_
  refine sQ (kt:=[1,2,3,8,32,33,10,11,34,35]) (kh:=[0]) (q:=True/\True) (st':=ASt.mk [(1,iv f),(2,iv p),(3,.ptr 0 []),(8,aWays (openL r (readIs r f p))),(32,aWays (openL r (readIs r f p))),(33,iv (↑((openL r (readIs r f p)).length):Int)),(10,iv (↑(cnt (openL r (readIs r f p)) (rdSo r f.toNat p.toNat) x11):Int)),(11,iv (↑(cnt (openL r (readIs r f p)) (rdNot r f.toNat p.toNat) x11):Int)),(34,iv (x11:Int)),(35,bv (decide ((x11:Int) < (↑((openL r (readIs r f p)).length):Int))))] [(0,.cells 25 (cRun r))] 10208) ⟨tv,tv⟩ ?_
  refine swp_seq ?_
  refine swp_cond (decide ((x11:Int) < (↑((openL r (readIs r f p)).length):Int))) (by kernel_rfl) (fun h12 => ?_) (fun h12 => ?_)
  ·refine swp_skip (swp_seq (swp_block (swp_seq ?_)))
   refine sQ (kt:=[1,2,3,8,32,33,10,11,34,13]) (kh:=[0,10224]) (q:=(0<=(x11:Int)/\(x11:Int) < (↑((openL r (readIs r f p)).length):Int))/\tn 3) (st':=ASt.mk [(1,iv f),(2,iv p),(3,.ptr 0 []),(8,aWays (openL r (readIs r f p))),(32,aWays (openL r (readIs r f p))),(33,iv (↑((openL r (readIs r f p)).length):Int)),(10,iv (↑(cnt (openL r (readIs r f p)) (rdSo r f.toNat p.toNat) x11):Int)),(11,iv (↑(cnt (openL r (readIs r f p)) (rdNot r f.toNat p.toNat) x11):Int)),(34,iv (x11:Int)),(13,.ptr 10224 [])] [(0,.cells 25 (cRun r)),(10224,.cells 107 (cWay ((openL r (readIs r f p)).getD x11 default)))] 10240) ⟨⟨(o6 hp h10 x11 hx11 h12),(o7 hp h10 x11 hx11 h12)⟩,tp 3⟩ ?_
   refine swp_seq ?_
   refine sQ (kt:=[1,2,3,8,32,33,10,11,34,14,15]) (kh:=[0,10368]) (q:=True/\True/\True/\(0<=f/\f < (↑(((openL r (readIs r f p)).getD x11 default).frm.length):Int))/\True/\True/\True/\(0<=((openL r (readIs r f p)).getD x11 default).frm.getD f.toNat 0/\((openL r (readIs r f p)).getD x11 default).frm.getD f.toNat 0 < (↑3:Int))/\(0<=p/\p < (↑3:Int))/\((((openL r (readIs r f p)).getD x11 default).frm.getD f.toNat 0).toNat < 3/\p.toNat < 3/\True)/\True/\True/\True/\(0<=f/\f < (↑(r.found.length):Int))/\tn 5) (st':=ASt.mk [(1,iv f),(2,iv p),(3,.ptr 0 []),(8,aWays (openL r (readIs r f p))),(32,aWays (openL r (readIs r f p))),(33,iv (↑((openL r (readIs r f p)).length):Int)),(10,iv (↑(cnt (openL r (readIs r f p)) (rdSo r f.toNat p.toNat) x11):Int)),(11,iv (↑(cnt (openL r (readIs r f p)) (rdNot r f.toNat p.toNat) x11):Int)),(34,iv (x11:Int)),(14,.ptr 10368 []),(15,iv (fnd r f.toNat).minute)] [(0,.cells 25 (cRun r)),(10368,.cells 37 (cSpan (((openL r (readIs r f p)).getD x11 default).whn (((openL r (readIs r f p)).getD x11 default).frm.getD f.toNat 0).toNat p.toNat)))] 10392) ⟨tv,tv,tv,⟨(o8 hp h10 x11 hx11 h12),(o9 hp h10 x11 hx11 h12)⟩,tv,tv,tv,⟨(o10 hp h10 x11 hx11 h12),(o11 hp h10 x11 hx11 h12)⟩,⟨(o12 hp h10 x11 hx11 h12),(o13 hp h10 x11 hx11 h12)⟩,⟨(o14 hp h10 x11 hx11 h12),(o15 hp h10 x11 hx11 h12),tv⟩,tv,tv,tv,⟨(o16 hp h10 x11 hx11 h12),(o17 hp h10 x11 hx11 h12)⟩,tp 5⟩ ?_
   refine swp_block (swp_seq ?_)
   refine sQ (kt:=[1,2,3,8,32,33,10,11,34,14,15,54]) (kh:=[0,10368]) (q:=tn 5) (st':=ASt.mk [(1,iv f),(2,iv p),(3,.ptr 0 []),(8,aWays (openL r (readIs r f p))),(32,aWays (openL r (readIs r f p))),(33,iv (↑((openL r (readIs r f p)).length):Int)),(10,iv (↑(cnt (openL r (readIs r f p)) (rdSo r f.toNat p.toNat) x11):Int)),(11,iv (↑(cnt (openL r (readIs r f p)) (rdNot r f.toNat p.toNat) x11):Int)),(34,iv (x11:Int)),(14,.ptr 10368 []),(15,iv (fnd r f.toNat).minute),(54,bv (decide ((((openL r (readIs r f p)).getD x11 default).whn (((openL r (readIs r f p)).getD x11 default).frm.getD f.toNat 0).toNat p.toNat).hi<=(fnd r f.toNat).minute)))] [(0,.cells 25 (cRun r)),(10368,.cells 37 (cSpan (((openL r (readIs r f p)).getD x11 default).whn (((openL r (readIs r f p)).getD x11 default).frm.getD f.toNat 0).toNat p.toNat)))] 10432) (tp 5) ?_
   refine swp_cond (decide ((((openL r (readIs r f p)).getD x11 default).whn (((openL r (readIs r f p)).getD x11 default).frm.getD f.toNat 0).toNat p.toNat).hi<=(fnd r f.toNat).minute)) (by kernel_rfl) (fun h13 => ?_) (fun h13 => ?_)
   ·refine sQ (kt:=[1,2,3,8,32,33,10,11,34]) (kh:=[0]) (q:=True/\inI ((↑(cnt (openL r (readIs r f p)) (rdSo r f.toNat p.toNat) x11):Int) + 1)/\True/\True) (st':=ASt.mk [(1,iv f),(2,iv p),(3,.ptr 0 []),(8,aWays (openL r (readIs r f p))),(32,aWays (openL r (readIs r f p))),(33,iv (↑((openL r (readIs r f p)).length):Int)),(10,iv ((↑(cnt (openL r (readIs r f p)) (rdSo r f.toNat p.toNat) x11):Int) + 1)),(11,iv (↑(cnt (openL r (readIs r f p)) (rdNot r f.toNat p.toNat) x11):Int)),(34,iv (x11:Int))] [(0,.cells 25 (cRun r))] 10456) ⟨tv,(o18 hp h10 x11 hx11 h12 h13),tv,tv⟩ ?_
    refine sQ (kt:=[1,2,3,8,32,33,10,11,34]) (kh:=[0]) (q:=inI ((x11:Int) + 1)/\True/\True) (st':=ASt.mk [(1,iv f),(2,iv p),(3,.ptr 0 []),(8,aWays (openL r (readIs r f p))),(32,aWays (openL r (readIs r f p))),(33,iv (↑((openL r (readIs r f p)).length):Int)),(10,iv ((↑(cnt (openL r (readIs r f p)) (rdSo r f.toNat p.toNat) x11):Int) + 1)),(11,iv (↑(cnt (openL r (readIs r f p)) (rdNot r f.toNat p.toNat) x11):Int)),(34,iv ((x11:Int) + 1))] [(0,.cells 25 (cRun r))] 10472) ⟨(o19 hp h10 x11 hx11 h12 h13),tv,tv⟩ ?_
    exact loop_next (z31_1 r f p) x11 (eQ hE [] [(0,.same 0)] [1,2,8,32,33] [0] (((zT (iv f))/\(zT (iv p))/\(zP 0)/\(zT (aWays (openL r (readIs r f p))))/\(zT (aWays (openL r (readIs r f p))))/\(zT (iv (↑((openL r (readIs r f p)).length):Int)))/\(zN (iv ((↑(cnt (openL r (readIs r f p)) (rdSo r f.toNat p.toNat) x11):Int) + 1)) (iv (↑(cnt (openL r (readIs r f p)) (rdSo r f.toNat p.toNat) (x11 + 1)):Int)))/\(zN (iv (↑(cnt (openL r (readIs r f p)) (rdNot r f.toNat p.toNat) x11):Int)) (iv (↑(cnt (openL r (readIs r f p)) (rdNot r f.toNat p.toNat) (x11 + 1)):Int)))/\(zN (iv ((x11:Int) + 1)) (iv (↑(x11 + 1):Int)))/\True)/\((zT (OB.cells 25 (cRun r)))/\True)/\T2) ⟨⟨⟨rfl,rfl⟩,⟨rfl,rfl⟩,⟨rfl,rfl⟩,⟨rfl,rfl⟩,⟨rfl,rfl⟩,⟨rfl,rfl⟩,⟨(congrArg iv (o20 hp h10 x11 hx11 h12 h13)),rfl⟩,⟨(congrArg iv (o21 hp h10 x11 hx11 h12 h13)),rfl⟩,⟨(congrArg iv (o22 hp h10 x11 hx11 h12 h13)),rfl⟩,tv⟩,⟨⟨rfl,rfl⟩,tv⟩,rfl,rfl⟩) (o23 hp h10 x11 hx11 h12 h13) (o24 hp h10 x11 hx11 h12 h13)
   ·refine swp_seq ?_
    refine sQ (kt:=[1,2,3,8,32,33,10,11,34,61]) (kh:=[0]) (q:=tn 5) (st':=ASt.mk [(1,iv f),(2,iv p),(3,.ptr 0 []),(8,aWays (openL r (readIs r f p))),(32,aWays (openL r (readIs r f p))),(33,iv (↑((openL r (readIs r f p)).length):Int)),(10,iv (↑(cnt (openL r (readIs r f p)) (rdSo r f.toNat p.toNat) x11):Int)),(11,iv (↑(cnt (openL r (readIs r f p)) (rdNot r f.toNat p.toNat) x11):Int)),(34,iv (x11:Int)),(61,bv (decide ((fnd r f.toNat).minute < (((openL r (readIs r f p)).getD x11 default).whn (((openL r (readIs r f p)).getD x11 default).frm.getD f.toNat 0).toNat p.toNat).lo)))] [(0,.cells 25 (cRun r))] 10472) (tp 5) ?_
    refine swp_cond (decide ((fnd r f.toNat).minute < (((openL r (readIs r f p)).getD x11 default).whn (((openL r (readIs r f p)).getD x11 default).frm.getD f.toNat 0).toNat p.toNat).lo)) (by kernel_rfl) (fun h14 => ?_) (fun h14 => ?_)
    ·refine sQ (kt:=[1,2,3,8,32,33,10,11,34]) (kh:=[0]) (q:=True/\inI ((↑(cnt (openL r (readIs r f p)) (rdNot r f.toNat p.toNat) x11):Int) + 1)/\True/\True) (st':=ASt.mk [(1,iv f),(2,iv p),(3,.ptr 0 []),(8,aWays (openL r (readIs r f p))),(32,aWays (openL r (readIs r f p))),(33,iv (↑((openL r (readIs r f p)).length):Int)),(10,iv (↑(cnt (openL r (readIs r f p)) (rdSo r f.toNat p.toNat) x11):Int)),(11,iv ((↑(cnt (openL r (readIs r f p)) (rdNot r f.toNat p.toNat) x11):Int) + 1)),(34,iv (x11:Int))] [(0,.cells 25 (cRun r))] 10496) ⟨tv,(o25 hp h10 x11 hx11 h12 h13 h14),tv,tv⟩ ?_
     refine sQ (kt:=[1,2,3,8,32,33,10,11,34]) (kh:=[0]) (q:=inI ((x11:Int) + 1)/\True/\True) (st':=ASt.mk [(1,iv f),(2,iv p),(3,.ptr 0 []),(8,aWays (openL r (readIs r f p))),(32,aWays (openL r (readIs r f p))),(33,iv (↑((openL r (readIs r f p)).length):Int)),(10,iv (↑(cnt (openL r (readIs r f p)) (rdSo r f.toNat p.toNat) x11):Int)),(11,iv ((↑(cnt (openL r (readIs r f p)) (rdNot r f.toNat p.toNat) x11):Int) + 1)),(34,iv ((x11:Int) + 1))] [(0,.cells 25 (cRun r))] 10512) ⟨(o26 hp h10 x11 hx11 h12 h13 h14),tv,tv⟩ ?_
     exact loop_next (z31_1 r f p) x11 (eQ hE [] [(0,.same 0)] [1,2,8,32,33] [0] (((zT (iv f))/\(zT (iv p))/\(zP 0)/\(zT (aWays (openL r (readIs r f p))))/\(zT (aWays (openL r (readIs r f p))))/\(zT (iv (↑((openL r (readIs r f p)).length):Int)))/\(zN (iv (↑(cnt (openL r (readIs r f p)) (rdSo r f.toNat p.toNat) x11):Int)) (iv (↑(cnt (openL r (readIs r f p)) (rdSo r f.toNat p.toNat) (x11 + 1)):Int)))/\(zN (iv ((↑(cnt (openL r (readIs r f p)) (rdNot r f.toNat p.toNat) x11):Int) + 1)) (iv (↑(cnt (openL r (readIs r f p)) (rdNot r f.toNat p.toNat) (x11 + 1)):Int)))/\(zN (iv ((x11:Int) + 1)) (iv (↑(x11 + 1):Int)))/\True)/\((zT (OB.cells 25 (cRun r)))/\True)/\T2) ⟨⟨⟨rfl,rfl⟩,⟨rfl,rfl⟩,⟨rfl,rfl⟩,⟨rfl,rfl⟩,⟨rfl,rfl⟩,⟨rfl,rfl⟩,⟨(congrArg iv (o27 hp h10 x11 hx11 h12 h13 h14)),rfl⟩,⟨(congrArg iv (o28 hp h10 x11 hx11 h12 h13 h14)),rfl⟩,⟨(congrArg iv (o29 hp h10 x11 hx11 h12 h13 h14)),rfl⟩,tv⟩,⟨⟨rfl,rfl⟩,tv⟩,rfl,rfl⟩) (o30 hp h10 x11 hx11 h12 h13 h14) (o31 hp h10 x11 hx11 h12 h13 h14)
    ·refine swp_skip ?_
     refine sQ (kt:=[1,2,3,8,32,33,10,11,34]) (kh:=[0]) (q:=inI ((x11:Int) + 1)/\True/\True) (st':=ASt.mk [(1,iv f),(2,iv p),(3,.ptr 0 []),(8,aWays (openL r (readIs r f p))),(32,aWays (openL r (readIs r f p))),(33,iv (↑((openL r (readIs r f p)).length):Int)),(10,iv (↑(cnt (openL r (readIs r f p)) (rdSo r f.toNat p.toNat) x11):Int)),(11,iv (↑(cnt (openL r (readIs r f p)) (rdNot r f.toNat p.toNat) x11):Int)),(34,iv ((x11:Int) + 1))] [(0,.cells 25 (cRun r))] 10488) ⟨(o32 hp h10 x11 hx11 h12 h13 h14),tv,tv⟩ ?_
     exact loop_next (z31_1 r f p) x11 (eQ hE [] [(0,.same 0)] [1,2,8,32,33] [0] (((zT (iv f))/\(zT (iv p))/\(zP 0)/\(zT (aWays (openL r (readIs r f p))))/\(zT (aWays (openL r (readIs r f p))))/\(zT (iv (↑((openL r (readIs r f p)).length):Int)))/\(zN (iv (↑(cnt (openL r (readIs r f p)) (rdSo r f.toNat p.toNat) x11):Int)) (iv (↑(cnt (openL r (readIs r f p)) (rdSo r f.toNat p.toNat) (x11 + 1)):Int)))/\(zN (iv (↑(cnt (openL r (readIs r f p)) (rdNot r f.toNat p.toNat) x11):Int)) (iv (↑(cnt (openL r (readIs r f p)) (rdNot r f.toNat p.toNat) (x11 + 1)):Int)))/\(zN (iv ((x11:Int) + 1)) (iv (↑(x11 + 1):Int)))/\True)/\((zT (OB.cells 25 (cRun r)))/\True)/\T2) ⟨⟨⟨rfl,rfl⟩,⟨rfl,rfl⟩,⟨rfl,rfl⟩,⟨rfl,rfl⟩,⟨rfl,rfl⟩,⟨rfl,rfl⟩,⟨(congrArg iv (o33 hp h10 x11 hx11 h12 h13 h14)),rfl⟩,⟨(congrArg iv (o34 hp h10 x11 hx11 h12 h13 h14)),rfl⟩,⟨(congrArg iv (o35 hp h10 x11 hx11 h12 h13 h14)),rfl⟩,tv⟩,⟨⟨rfl,rfl⟩,tv⟩,rfl,rfl⟩) (o36 hp h10 x11 hx11 h12 h13 h14) (o37 hp h10 x11 hx11 h12 h13 h14)
  ·refine swp_exit (swp_seq ?_)
   refine sC (cs:=[(4,CallSpec.eq (s86 (↑(cnt (openL r (readIs r f p)) (rdSo r f.toNat p.toNat) x11):Int) (↑(cnt (openL r (readIs r f p)) (rdNot r f.toNat p.toNat) x11):Int) (↑((openL r (readIs r f p)).length):Int)) [true,true,true])]) (kt:=[6,7]) (kh:=[]) (q:=True/\True/\True/\True/\((zE (iv (↑(cnt (openL r (readIs r f p)) (rdSo r f.toNat p.toNat) x11):Int))/\zE (iv (↑(cnt (openL r (readIs r f p)) (rdNot r f.toNat p.toNat) x11):Int))/\zE (iv (↑((openL r (readIs r f p)).length):Int))/\True)/\Triple Try.prog 86 (s86 (↑(cnt (openL r (readIs r f p)) (rdSo r f.toNat p.toNat) x11):Int) (↑(cnt (openL r (readIs r f p)) (rdNot r f.toNat p.toNat) x11):Int) (↑((openL r (readIs r f p)).length):Int))/\True/\True /\ ∀ (i15:Env),True)/\tn 2) (st':=ASt.mk [(6,iv (known3 (↑(cnt (openL r (readIs r f p)) (rdSo r f.toNat p.toNat) x11):Int) (↑(cnt (openL r (readIs r f p)) (rdNot r f.toNat p.toNat) x11):Int) (↑((openL r (readIs r f p)).length):Int))),(7,iv 0)] [] 10264) ⟨tv,tv,tv,tv,⟨⟨rfl,rfl,rfl,tv⟩,(t86 ((↑(cnt (openL r (readIs r f p)) (rdSo r f.toNat p.toNat) x11):Int)) ((↑(cnt (openL r (readIs r f p)) (rdNot r f.toNat p.toNat) x11):Int)) ((↑((openL r (readIs r f p)).length):Int))),tv,tv,(fun i15=>tv)⟩,tp 2⟩ ?_
   refine swp_ret ?_
   exact rQ [] ((True/\True/\True)/\((zN (iv (known3 (↑(cnt (openL r (readIs r f p)) (rdSo r f.toNat p.toNat) x11):Int) (↑(cnt (openL r (readIs r f p)) (rdNot r f.toNat p.toNat) x11):Int) (↑((openL r (readIs r f p)).length):Int))) (iv (readS r f p)))/\(zN (iv 0) (iv (openE r (readIs r f p))))/\True)/\T3) ⟨⟨tv,tv,tv⟩,⟨⟨(congrArg iv (o38 hp h10 x11 hx11 h12)),rfl⟩,⟨(congrArg iv (o39 hp h10 x11 hx11 h12)),rfl⟩,tv⟩,rfl,rfl,rfl⟩
theorem t31 (r:Run) (f p:Int):Triple Try.prog 31 (s31 r f p):=by
 apply w31
 case o0=>intro _; unfold readIs; cases isFound r f <;> rfl
 case o1=>intro _ h; rw [readS,if_neg (openBad h)]
 case o38=>intro _ h x hx hl; have F:=openF h; rw [readS,if_pos F.zero,show x=(openL r (readIs r f p)).length by simp only [decide_eq_false_iff_not] at hl; omega,F.eq]
 all_goals (first | (((repeat intro _) <;> (try simp only [v0,v1,v2,v3,v4,v5,v6,v7,v8,v9,inI,fits,Go.Sh.small] at *) <;> first | (exact rfl) | omega | exact vz | (simp_all; done) | (simp_all; omega))) | (
  intro _ h
  have F:=openF h
  first | exact F.zero.symm | (intro _ _ _; exact F.zero.symm) | (
   intro x hx hl
   simp only [decide_eq_true_eq] at hl
   have h1:=readIs_ok F.ok F.isT
   have h2:=F.frm x (by omega)
   have h3:=F.mach x (by omega) f.toNat (by omega)
   have h4:=F.len
   have h5:=cnt_le (openL r (readIs r f p)) (rdSo r f.toNat p.toNat) x
   have h6:=cnt_le (openL r (readIs r f p)) (rdNot r f.toNat p.toNat) x
   first
   | omega
   | ((repeat intro _); simp only [inI]; omega)
   | (intro e; exact cnt_t (by omega) e)
   | (intro e; exact cnt_f (by omega) e)
   | (intro e; exact cnt_f (by omega) (rdNot_t e))
   | (intro e e2; exact cnt_f (by omega) e)
   | (intro e e2; exact cnt_t (by omega) (rdNot_f e e2))
   | (intro e e2; exact cnt_f (by omega) (rdNot_f e e2)))))
abbrev z65_1 (r:Run) (m:Int):LoopAnn:=Hint.ann (h65 r m) [(1,iv m),(2,AV.ptr 0 []),(6,aWays (openL r (isMachine r m))),(24,aWays (openL r (isMachine r m))),(25,iv (↑((openL r (isMachine r m)).length):Int))] [(0,OB.cells 25 (cRun r))] 10160
abbrev q65_1 (r:Run) (m:Int) (C:Prop):Prop:=fits r->(!decide (openE r (isMachine r m)=0))=false->C
abbrev q65_2 (r:Run) (m:Int) (C:Nat->Prop):Prop:=q65_1 r m (∀ (x3:Nat),x3<=(openL r (isMachine r m)).length->decide ((x3:Int) < (↑((openL r (isMachine r m)).length):Int))=true->C x3)
abbrev q65_3 (r:Run) (m:Int) (C:Nat->Prop):Prop:=q65_2 r m fun x3=>decide (0 < (spread (((openL r (isMachine r m)).getD x3 default).whn m.toNat) r.plates.toNat).lo)=true->C x3
abbrev q65_4 (r:Run) (m:Int) (C:Nat->Prop):Prop:=q65_2 r m fun x3=>decide (0 < (spread (((openL r (isMachine r m)).getD x3 default).whn m.toNat) r.plates.toNat).lo)=false->decide ((spread (((openL r (isMachine r m)).getD x3 default).whn m.toNat) r.plates.toNat).hi=0)=true->C x3
abbrev q65_5 (r:Run) (m:Int) (C:Nat->Prop):Prop:=q65_2 r m fun x3=>decide (0 < (spread (((openL r (isMachine r m)).getD x3 default).whn m.toNat) r.plates.toNat).lo)=false->decide ((spread (((openL r (isMachine r m)).getD x3 default).whn m.toNat) r.plates.toNat).hi=0)=false->C x3
abbrev q65_6 (r:Run) (m:Int) (C:Nat->Prop):Prop:=q65_1 r m (∀ (x3:Nat),x3<=(openL r (isMachine r m)).length->decide ((x3:Int) < (↑((openL r (isMachine r m)).length):Int))=false->C x3)
theorem w65 (r:Run) (m:Int)
 (o0:fits r->(!decide (openE r (isMachine r m)=0))->0=mixedS r m)
 (o1:q65_1 r m (0=(↑(cnt (openL r (isMachine r m)) (mxSo r m.toNat) 0):Int)))
 (o2:q65_1 r m (0=(↑(cnt (openL r (isMachine r m)) (mxNot r m.toNat) 0):Int)))
 (o3:q65_1 r m (0=(↑0:Int)))
 (o4:q65_1 r m (0<=(openL r (isMachine r m)).length))
 (o5:q65_2 r m fun x3=>0<=(x3:Int))
 (o6:q65_2 r m fun x3=>(x3:Int) < (↑((openL r (isMachine r m)).length):Int))
 (o7:q65_2 r m fun x3=>m=(↑(m.toNat):Int))
 (o8:q65_2 r m fun x3=>r.plates=(↑(r.plates.toNat):Int))
 (o9:q65_2 r m fun x3=>wb ((openL r (isMachine r m)).getD x3 default))
 (o10:q65_2 r m fun x3=>m.toNat < 3)
 (o11:q65_2 r m fun x3=>1<=r.plates.toNat)
 (o12:q65_2 r m fun x3=>r.plates.toNat<=3)
 (o13:q65_3 r m fun x3=>inI ((↑(cnt (openL r (isMachine r m)) (mxSo r m.toNat) x3):Int) + 1))
 (o14:q65_3 r m fun x3=>inI ((x3:Int) + 1))
 (o15:q65_3 r m fun x3=>(↑(cnt (openL r (isMachine r m)) (mxSo r m.toNat) x3):Int) + 1=(↑(cnt (openL r (isMachine r m)) (mxSo r m.toNat) (x3 + 1)):Int))
 (o16:q65_3 r m fun x3=>(↑(cnt (openL r (isMachine r m)) (mxNot r m.toNat) x3):Int)=(↑(cnt (openL r (isMachine r m)) (mxNot r m.toNat) (x3 + 1)):Int))
 (o17:q65_3 r m fun x3=>(x3:Int) + 1=(↑(x3 + 1):Int))
 (o18:q65_3 r m fun x3=>x3 + 1<=(openL r (isMachine r m)).length)
 (o19:q65_3 r m fun x3=>(openL r (isMachine r m)).length - (x3 + 1) < (openL r (isMachine r m)).length - x3)
 (o20:q65_4 r m fun x3=>inI ((↑(cnt (openL r (isMachine r m)) (mxNot r m.toNat) x3):Int) + 1))
 (o21:q65_4 r m fun x3=>inI ((x3:Int) + 1))
 (o22:q65_4 r m fun x3=>(↑(cnt (openL r (isMachine r m)) (mxSo r m.toNat) x3):Int)=(↑(cnt (openL r (isMachine r m)) (mxSo r m.toNat) (x3 + 1)):Int))
 (o23:q65_4 r m fun x3=>(↑(cnt (openL r (isMachine r m)) (mxNot r m.toNat) x3):Int) + 1=(↑(cnt (openL r (isMachine r m)) (mxNot r m.toNat) (x3 + 1)):Int))
 (o24:q65_4 r m fun x3=>(x3:Int) + 1=(↑(x3 + 1):Int))
 (o25:q65_4 r m fun x3=>x3 + 1<=(openL r (isMachine r m)).length)
 (o26:q65_4 r m fun x3=>(openL r (isMachine r m)).length - (x3 + 1) < (openL r (isMachine r m)).length - x3)
 (o27:q65_5 r m fun x3=>inI ((x3:Int) + 1))
 (o28:q65_5 r m fun x3=>(↑(cnt (openL r (isMachine r m)) (mxSo r m.toNat) x3):Int)=(↑(cnt (openL r (isMachine r m)) (mxSo r m.toNat) (x3 + 1)):Int))
 (o29:q65_5 r m fun x3=>(↑(cnt (openL r (isMachine r m)) (mxNot r m.toNat) x3):Int)=(↑(cnt (openL r (isMachine r m)) (mxNot r m.toNat) (x3 + 1)):Int))
 (o30:q65_5 r m fun x3=>(x3:Int) + 1=(↑(x3 + 1):Int))
 (o31:q65_5 r m fun x3=>x3 + 1<=(openL r (isMachine r m)).length)
 (o32:q65_5 r m fun x3=>(openL r (isMachine r m)).length - (x3 + 1) < (openL r (isMachine r m)).length - x3)
 (o33:q65_6 r m fun x3=>known3 (↑(cnt (openL r (isMachine r m)) (mxSo r m.toNat) x3):Int) (↑(cnt (openL r (isMachine r m)) (mxNot r m.toNat) x3):Int) (↑((openL r (isMachine r m)).length):Int)=mixedS r m)
 (o34:q65_6 r m fun x3=>0=openE r (isMachine r m)) :
  Triple Try.prog 65 (s65 r m):=by
 refine triple_of Try.func65 rfl Try.call65 T0_ok _ rfl rfl rfl rfl (Nat.le_of_ble_eq_true (by kernel_rfl)) (fun _ _ _ _ h=>h) ?_
 intro hp C hC _ hE
 obtain ⟨P,w0,E0,av,hA⟩:=C
 subst hC
 refine swp_seq ?_
 refine sQ (kt:=[1,2]) (kh:=[0]) (q:=tn 3) (st':=ASt.mk [(1,iv m),(2,.ptr 0 [])] [(0,.cells 25 (cRun r))] 24) (tp 3) ?_
 refine swp_seq ?_
 refine sC (cs:=[(3,CallSpec.eq (s79 r m) [true,true]),(4,CallSpec.eq (c65o r m) [true,true])]) (kt:=[1,2,6,7]) (kh:=[0]) (q:=True/\True/\True/\((zE (AV.agg (cRun r))/\iv m=iv m/\True)/\Triple Try.prog 79 (s79 r m)/\fits r/\True /\ ∀ (i0:Env),True)/\((zE (AV.agg (cRun r))/\zE (bv (isMachine r m))/\True)/\Triple Try.prog 78 (c65o r m)/\fits r/\True /\ ∀ (i1:Env),True)/\tn 5) (st':=ASt.mk [(1,iv m),(2,.ptr 0 []),(6,aWays (openL r (isMachine r m))),(7,iv (openE r (isMachine r m)))] [(0,.cells 25 (cRun r))] 104) ⟨tv,tv,tv,⟨⟨rfl,rfl,tv⟩,(t79 (r) (m)),hp,tv,(fun i0=>tv)⟩,⟨⟨rfl,rfl,tv⟩,(t78 _ _),hp,tv,(fun i1=>tv)⟩,tp 5⟩ ?_
 refine swp_seq (swp_seq ?_)
 refine sQ (kt:=[1,2,6,7,22]) (kh:=[0]) (q:=tn 2) (st':=ASt.mk [(1,iv m),(2,.ptr 0 []),(6,aWays (openL r (isMachine r m))),(7,iv (openE r (isMachine r m))),(22,bv !decide (openE r (isMachine r m)=0))] [(0,.cells 25 (cRun r))] 120) (tp 2) ?_
 refine swp_cond (!decide (openE r (isMachine r m)=0)) (by kernel_rfl) (fun h2 => ?_) (fun h2 => ?_)
 ·refine swp_seq ?_
  refine sQ (kt:=[4,5]) (kh:=[]) (q:=tn 3) (st':=ASt.mk [(4,iv 0),(5,iv (openE r (isMachine r m)))] [] 144) (tp 3) ?_
  refine swp_ret ?_
  exact rQ [] ((True/\True/\True)/\((zN (iv 0) (iv (mixedS r m)))/\(zM (iv (openE r (isMachine r m))))/\True)/\T3) ⟨⟨tv,tv,tv⟩,⟨⟨(congrArg iv (o0 hp h2)),rfl⟩,⟨rfl,rfl⟩,tv⟩,rfl,rfl,rfl⟩
 ·refine swp_skip (swp_seq ?_)
  refine sQ (kt:=[1,2,6,8,9]) (kh:=[0]) (q:=tn 2) (st':=ASt.mk [(1,iv m),(2,.ptr 0 []),(6,aWays (openL r (isMachine r m))),(8,iv 0),(9,iv 0)] [(0,.cells 25 (cRun r))] 136) (tp 2) ?_
  refine swp_seq (swp_seq ?_)
  refine sQ (kt:=[1,2,6,8,9,24,25,26]) (kh:=[0]) (q:=tn 3) (st':=ASt.mk [(1,iv m),(2,.ptr 0 []),(6,aWays (openL r (isMachine r m))),(8,iv 0),(9,iv 0),(24,aWays (openL r (isMachine r m))),(25,iv (↑((openL r (isMachine r m)).length):Int)),(26,iv 0)] [(0,.cells 25 (cRun r))] 160) (tp 3) ?_
  refine swp_block ?_
  refine swp_loopA (z65_1 r m) (eQ hE [] [(0,.same 0)] [1,6,24,25] [0] (((zT (iv m))/\(zP 0)/\(zT (aWays (openL r (isMachine r m))))/\(zT (aWays (openL r (isMachine r m))))/\(zT (iv (↑((openL r (isMachine r m)).length):Int)))/\(zN (iv 0) (iv (↑(cnt (openL r (isMachine r m)) (mxSo r m.toNat) 0):Int)))/\(zN (iv 0) (iv (↑(cnt (openL r (isMachine r m)) (mxNot r m.toNat) 0):Int)))/\(zN (iv 0) (iv (↑0:Int)))/\True)/\((zT (OB.cells 25 (cRun r)))/\True)/\T2) ⟨⟨⟨rfl,rfl⟩,⟨rfl,rfl⟩,⟨rfl,rfl⟩,⟨rfl,rfl⟩,⟨rfl,rfl⟩,⟨(congrArg iv (o1 hp h2)),rfl⟩,⟨(congrArg iv (o2 hp h2)),rfl⟩,⟨(congrArg iv (o3 hp h2)),rfl⟩,tv⟩,⟨⟨rfl,rfl⟩,tv⟩,rfl,rfl⟩) (o4 hp h2) (fun (x3:Nat) hx3 => ?_)
  refine swp_seq ?_
  refine sQ (kt:=[1,2,6,24,25,8,9,26,27]) (kh:=[0]) (q:=True/\True) (st':=ASt.mk [(1,iv m),(2,.ptr 0 []),(6,aWays (openL r (isMachine r m))),(24,aWays (openL r (isMachine r m))),(25,iv (↑((openL r (isMachine r m)).length):Int)),(8,iv (↑(cnt (openL r (isMachine r m)) (mxSo r m.toNat) x3):Int)),(9,iv (↑(cnt (openL r (isMachine r m)) (mxNot r m.toNat) x3):Int)),(26,iv (x3:Int)),(27,bv (decide ((x3:Int) < (↑((openL r (isMachine r m)).length):Int))))] [(0,.cells 25 (cRun r))] 10168) ⟨tv,tv⟩ ?_
  refine swp_seq ?_
  refine swp_cond (decide ((x3:Int) < (↑((openL r (isMachine r m)).length):Int))) (by kernel_rfl) (fun h4 => ?_) (fun h4 => ?_)
  ·refine swp_skip (swp_seq (swp_block (swp_seq ?_)))
   refine sQ (kt:=[1,2,6,24,25,8,9,26,11]) (kh:=[0,10184]) (q:=(0<=(x3:Int)/\(x3:Int) < (↑((openL r (isMachine r m)).length):Int))/\tn 3) (st':=ASt.mk [(1,iv m),(2,.ptr 0 []),(6,aWays (openL r (isMachine r m))),(24,aWays (openL r (isMachine r m))),(25,iv (↑((openL r (isMachine r m)).length):Int)),(8,iv (↑(cnt (openL r (isMachine r m)) (mxSo r m.toNat) x3):Int)),(9,iv (↑(cnt (openL r (isMachine r m)) (mxNot r m.toNat) x3):Int)),(26,iv (x3:Int)),(11,.ptr 10184 [])] [(0,.cells 25 (cRun r)),(10184,.cells 107 (cWay ((openL r (isMachine r m)).getD x3 default)))] 10200) ⟨⟨(o5 hp h2 x3 hx3 h4),(o6 hp h2 x3 hx3 h4)⟩,tp 3⟩ ?_
   refine swp_seq ?_
   refine sC (cs:=[(4,CallSpec.eq (c65 r m x3) [true,false,false])]) (kt:=[1,2,6,24,25,8,9,26,12]) (kh:=[0,10240]) (q:=True/\True/\True/\True/\((zE (AV.agg (cWay ((openL r (isMachine r m)).getD x3 default)))/\iv m=iv (↑(m.toNat):Int)/\iv r.plates=iv (↑(r.plates.toNat):Int)/\True)/\Triple Try.prog 108 (c65 r m x3)/\(wb ((openL r (isMachine r m)).getD x3 default)/\m.toNat < 3/\1<=r.plates.toNat/\r.plates.toNat<=3)/\True /\ ∀ (i5:Env),True)/\tn 2) (st':=ASt.mk [(1,iv m),(2,.ptr 0 []),(6,aWays (openL r (isMachine r m))),(24,aWays (openL r (isMachine r m))),(25,iv (↑((openL r (isMachine r m)).length):Int)),(8,iv (↑(cnt (openL r (isMachine r m)) (mxSo r m.toNat) x3):Int)),(9,iv (↑(cnt (openL r (isMachine r m)) (mxNot r m.toNat) x3):Int)),(26,iv (x3:Int)),(12,.ptr 10240 [])] [(0,.cells 25 (cRun r)),(10240,.cells 37 (cSpan (spread (((openL r (isMachine r m)).getD x3 default).whn m.toNat) r.plates.toNat)))] 10256) ⟨tv,tv,tv,tv,⟨⟨rfl,(congrArg iv (o7 hp h2 x3 hx3 h4)),(congrArg iv (o8 hp h2 x3 hx3 h4)),tv⟩,(t108 _ _ _),⟨(o9 hp h2 x3 hx3 h4),(o10 hp h2 x3 hx3 h4),(o11 hp h2 x3 hx3 h4),(o12 hp h2 x3 hx3 h4)⟩,tv,(fun i5=>tv)⟩,tp 2⟩ ?_
   refine swp_block (swp_seq ?_)
   refine sQ (kt:=[1,2,6,24,25,8,9,26,12,35]) (kh:=[0,10240]) (q:=tn 4) (st':=ASt.mk [(1,iv m),(2,.ptr 0 []),(6,aWays (openL r (isMachine r m))),(24,aWays (openL r (isMachine r m))),(25,iv (↑((openL r (isMachine r m)).length):Int)),(8,iv (↑(cnt (openL r (isMachine r m)) (mxSo r m.toNat) x3):Int)),(9,iv (↑(cnt (openL r (isMachine r m)) (mxNot r m.toNat) x3):Int)),(26,iv (x3:Int)),(12,.ptr 10240 []),(35,bv (decide (0 < (spread (((openL r (isMachine r m)).getD x3 default).whn m.toNat) r.plates.toNat).lo)))] [(0,.cells 25 (cRun r)),(10240,.cells 37 (cSpan (spread (((openL r (isMachine r m)).getD x3 default).whn m.toNat) r.plates.toNat)))] 10288) (tp 4) ?_
   refine swp_cond (decide (0 < (spread (((openL r (isMachine r m)).getD x3 default).whn m.toNat) r.plates.toNat).lo)) (by kernel_rfl) (fun h6 => ?_) (fun h6 => ?_)
   ·refine sQ (kt:=[1,2,6,24,25,8,9,26]) (kh:=[0]) (q:=True/\inI ((↑(cnt (openL r (isMachine r m)) (mxSo r m.toNat) x3):Int) + 1)/\True/\True) (st':=ASt.mk [(1,iv m),(2,.ptr 0 []),(6,aWays (openL r (isMachine r m))),(24,aWays (openL r (isMachine r m))),(25,iv (↑((openL r (isMachine r m)).length):Int)),(8,iv ((↑(cnt (openL r (isMachine r m)) (mxSo r m.toNat) x3):Int) + 1)),(9,iv (↑(cnt (openL r (isMachine r m)) (mxNot r m.toNat) x3):Int)),(26,iv (x3:Int))] [(0,.cells 25 (cRun r))] 10312) ⟨tv,(o13 hp h2 x3 hx3 h4 h6),tv,tv⟩ ?_
    refine sQ (kt:=[1,2,6,24,25,8,9,26]) (kh:=[0]) (q:=inI ((x3:Int) + 1)/\True/\True) (st':=ASt.mk [(1,iv m),(2,.ptr 0 []),(6,aWays (openL r (isMachine r m))),(24,aWays (openL r (isMachine r m))),(25,iv (↑((openL r (isMachine r m)).length):Int)),(8,iv ((↑(cnt (openL r (isMachine r m)) (mxSo r m.toNat) x3):Int) + 1)),(9,iv (↑(cnt (openL r (isMachine r m)) (mxNot r m.toNat) x3):Int)),(26,iv ((x3:Int) + 1))] [(0,.cells 25 (cRun r))] 10328) ⟨(o14 hp h2 x3 hx3 h4 h6),tv,tv⟩ ?_
    exact loop_next (z65_1 r m) x3 (eQ hE [] [(0,.same 0)] [1,6,24,25] [0] (((zT (iv m))/\(zP 0)/\(zT (aWays (openL r (isMachine r m))))/\(zT (aWays (openL r (isMachine r m))))/\(zT (iv (↑((openL r (isMachine r m)).length):Int)))/\(zN (iv ((↑(cnt (openL r (isMachine r m)) (mxSo r m.toNat) x3):Int) + 1)) (iv (↑(cnt (openL r (isMachine r m)) (mxSo r m.toNat) (x3 + 1)):Int)))/\(zN (iv (↑(cnt (openL r (isMachine r m)) (mxNot r m.toNat) x3):Int)) (iv (↑(cnt (openL r (isMachine r m)) (mxNot r m.toNat) (x3 + 1)):Int)))/\(zN (iv ((x3:Int) + 1)) (iv (↑(x3 + 1):Int)))/\True)/\((zT (OB.cells 25 (cRun r)))/\True)/\T2) ⟨⟨⟨rfl,rfl⟩,⟨rfl,rfl⟩,⟨rfl,rfl⟩,⟨rfl,rfl⟩,⟨rfl,rfl⟩,⟨(congrArg iv (o15 hp h2 x3 hx3 h4 h6)),rfl⟩,⟨(congrArg iv (o16 hp h2 x3 hx3 h4 h6)),rfl⟩,⟨(congrArg iv (o17 hp h2 x3 hx3 h4 h6)),rfl⟩,tv⟩,⟨⟨rfl,rfl⟩,tv⟩,rfl,rfl⟩) (o18 hp h2 x3 hx3 h4 h6) (o19 hp h2 x3 hx3 h4 h6)
   ·refine swp_seq ?_
    refine sQ (kt:=[1,2,6,24,25,8,9,26,41]) (kh:=[0]) (q:=tn 4) (st':=ASt.mk [(1,iv m),(2,.ptr 0 []),(6,aWays (openL r (isMachine r m))),(24,aWays (openL r (isMachine r m))),(25,iv (↑((openL r (isMachine r m)).length):Int)),(8,iv (↑(cnt (openL r (isMachine r m)) (mxSo r m.toNat) x3):Int)),(9,iv (↑(cnt (openL r (isMachine r m)) (mxNot r m.toNat) x3):Int)),(26,iv (x3:Int)),(41,bv (decide ((spread (((openL r (isMachine r m)).getD x3 default).whn m.toNat) r.plates.toNat).hi=0)))] [(0,.cells 25 (cRun r))] 10320) (tp 4) ?_
    refine swp_cond (decide ((spread (((openL r (isMachine r m)).getD x3 default).whn m.toNat) r.plates.toNat).hi=0)) (by kernel_rfl) (fun h7 => ?_) (fun h7 => ?_)
    ·refine sQ (kt:=[1,2,6,24,25,8,9,26]) (kh:=[0]) (q:=True/\inI ((↑(cnt (openL r (isMachine r m)) (mxNot r m.toNat) x3):Int) + 1)/\True/\True) (st':=ASt.mk [(1,iv m),(2,.ptr 0 []),(6,aWays (openL r (isMachine r m))),(24,aWays (openL r (isMachine r m))),(25,iv (↑((openL r (isMachine r m)).length):Int)),(8,iv (↑(cnt (openL r (isMachine r m)) (mxSo r m.toNat) x3):Int)),(9,iv ((↑(cnt (openL r (isMachine r m)) (mxNot r m.toNat) x3):Int) + 1)),(26,iv (x3:Int))] [(0,.cells 25 (cRun r))] 10344) ⟨tv,(o20 hp h2 x3 hx3 h4 h6 h7),tv,tv⟩ ?_
     refine sQ (kt:=[1,2,6,24,25,8,9,26]) (kh:=[0]) (q:=inI ((x3:Int) + 1)/\True/\True) (st':=ASt.mk [(1,iv m),(2,.ptr 0 []),(6,aWays (openL r (isMachine r m))),(24,aWays (openL r (isMachine r m))),(25,iv (↑((openL r (isMachine r m)).length):Int)),(8,iv (↑(cnt (openL r (isMachine r m)) (mxSo r m.toNat) x3):Int)),(9,iv ((↑(cnt (openL r (isMachine r m)) (mxNot r m.toNat) x3):Int) + 1)),(26,iv ((x3:Int) + 1))] [(0,.cells 25 (cRun r))] 10360) ⟨(o21 hp h2 x3 hx3 h4 h6 h7),tv,tv⟩ ?_
     exact loop_next (z65_1 r m) x3 (eQ hE [] [(0,.same 0)] [1,6,24,25] [0] (((zT (iv m))/\(zP 0)/\(zT (aWays (openL r (isMachine r m))))/\(zT (aWays (openL r (isMachine r m))))/\(zT (iv (↑((openL r (isMachine r m)).length):Int)))/\(zN (iv (↑(cnt (openL r (isMachine r m)) (mxSo r m.toNat) x3):Int)) (iv (↑(cnt (openL r (isMachine r m)) (mxSo r m.toNat) (x3 + 1)):Int)))/\(zN (iv ((↑(cnt (openL r (isMachine r m)) (mxNot r m.toNat) x3):Int) + 1)) (iv (↑(cnt (openL r (isMachine r m)) (mxNot r m.toNat) (x3 + 1)):Int)))/\(zN (iv ((x3:Int) + 1)) (iv (↑(x3 + 1):Int)))/\True)/\((zT (OB.cells 25 (cRun r)))/\True)/\T2) ⟨⟨⟨rfl,rfl⟩,⟨rfl,rfl⟩,⟨rfl,rfl⟩,⟨rfl,rfl⟩,⟨rfl,rfl⟩,⟨(congrArg iv (o22 hp h2 x3 hx3 h4 h6 h7)),rfl⟩,⟨(congrArg iv (o23 hp h2 x3 hx3 h4 h6 h7)),rfl⟩,⟨(congrArg iv (o24 hp h2 x3 hx3 h4 h6 h7)),rfl⟩,tv⟩,⟨⟨rfl,rfl⟩,tv⟩,rfl,rfl⟩) (o25 hp h2 x3 hx3 h4 h6 h7) (o26 hp h2 x3 hx3 h4 h6 h7)
    ·refine swp_skip ?_
     refine sQ (kt:=[1,2,6,24,25,8,9,26]) (kh:=[0]) (q:=inI ((x3:Int) + 1)/\True/\True) (st':=ASt.mk [(1,iv m),(2,.ptr 0 []),(6,aWays (openL r (isMachine r m))),(24,aWays (openL r (isMachine r m))),(25,iv (↑((openL r (isMachine r m)).length):Int)),(8,iv (↑(cnt (openL r (isMachine r m)) (mxSo r m.toNat) x3):Int)),(9,iv (↑(cnt (openL r (isMachine r m)) (mxNot r m.toNat) x3):Int)),(26,iv ((x3:Int) + 1))] [(0,.cells 25 (cRun r))] 10336) ⟨(o27 hp h2 x3 hx3 h4 h6 h7),tv,tv⟩ ?_
     exact loop_next (z65_1 r m) x3 (eQ hE [] [(0,.same 0)] [1,6,24,25] [0] (((zT (iv m))/\(zP 0)/\(zT (aWays (openL r (isMachine r m))))/\(zT (aWays (openL r (isMachine r m))))/\(zT (iv (↑((openL r (isMachine r m)).length):Int)))/\(zN (iv (↑(cnt (openL r (isMachine r m)) (mxSo r m.toNat) x3):Int)) (iv (↑(cnt (openL r (isMachine r m)) (mxSo r m.toNat) (x3 + 1)):Int)))/\(zN (iv (↑(cnt (openL r (isMachine r m)) (mxNot r m.toNat) x3):Int)) (iv (↑(cnt (openL r (isMachine r m)) (mxNot r m.toNat) (x3 + 1)):Int)))/\(zN (iv ((x3:Int) + 1)) (iv (↑(x3 + 1):Int)))/\True)/\((zT (OB.cells 25 (cRun r)))/\True)/\T2) ⟨⟨⟨rfl,rfl⟩,⟨rfl,rfl⟩,⟨rfl,rfl⟩,⟨rfl,rfl⟩,⟨rfl,rfl⟩,⟨(congrArg iv (o28 hp h2 x3 hx3 h4 h6 h7)),rfl⟩,⟨(congrArg iv (o29 hp h2 x3 hx3 h4 h6 h7)),rfl⟩,⟨(congrArg iv (o30 hp h2 x3 hx3 h4 h6 h7)),rfl⟩,tv⟩,⟨⟨rfl,rfl⟩,tv⟩,rfl,rfl⟩) (o31 hp h2 x3 hx3 h4 h6 h7) (o32 hp h2 x3 hx3 h4 h6 h7)
  ·refine swp_exit (swp_seq ?_)
   refine sC (cs:=[(4,CallSpec.eq (s86 (↑(cnt (openL r (isMachine r m)) (mxSo r m.toNat) x3):Int) (↑(cnt (openL r (isMachine r m)) (mxNot r m.toNat) x3):Int) (↑((openL r (isMachine r m)).length):Int)) [true,true,true])]) (kt:=[4,5]) (kh:=[]) (q:=True/\True/\True/\True/\((zE (iv (↑(cnt (openL r (isMachine r m)) (mxSo r m.toNat) x3):Int))/\zE (iv (↑(cnt (openL r (isMachine r m)) (mxNot r m.toNat) x3):Int))/\zE (iv (↑((openL r (isMachine r m)).length):Int))/\True)/\Triple Try.prog 86 (s86 (↑(cnt (openL r (isMachine r m)) (mxSo r m.toNat) x3):Int) (↑(cnt (openL r (isMachine r m)) (mxNot r m.toNat) x3):Int) (↑((openL r (isMachine r m)).length):Int))/\True/\True /\ ∀ (i8:Env),True)/\tn 2) (st':=ASt.mk [(4,iv (known3 (↑(cnt (openL r (isMachine r m)) (mxSo r m.toNat) x3):Int) (↑(cnt (openL r (isMachine r m)) (mxNot r m.toNat) x3):Int) (↑((openL r (isMachine r m)).length):Int))),(5,iv 0)] [] 10224) ⟨tv,tv,tv,tv,⟨⟨rfl,rfl,rfl,tv⟩,(t86 ((↑(cnt (openL r (isMachine r m)) (mxSo r m.toNat) x3):Int)) ((↑(cnt (openL r (isMachine r m)) (mxNot r m.toNat) x3):Int)) ((↑((openL r (isMachine r m)).length):Int))),tv,tv,(fun i8=>tv)⟩,tp 2⟩ ?_
   refine swp_ret ?_
   exact rQ [] ((True/\True/\True)/\((zN (iv (known3 (↑(cnt (openL r (isMachine r m)) (mxSo r m.toNat) x3):Int) (↑(cnt (openL r (isMachine r m)) (mxNot r m.toNat) x3):Int) (↑((openL r (isMachine r m)).length):Int))) (iv (mixedS r m)))/\(zN (iv 0) (iv (openE r (isMachine r m))))/\True)/\T3) ⟨⟨tv,tv,tv⟩,⟨⟨(congrArg iv (o33 hp h2 x3 hx3 h4)),rfl⟩,⟨(congrArg iv (o34 hp h2 x3 hx3 h4)),rfl⟩,tv⟩,rfl,rfl,rfl⟩
theorem t65 (r:Run) (m:Int):Triple Try.prog 65 (s65 r m):=by
 apply w65
 case o0=>intro _ h; rw [mixedS,if_neg (openBad h)]
 all_goals (first | (((repeat intro _) <;> (try simp only [v0,v1,v2,v3,v4,v5,v6,v7,v8,v9,inI,fits,Go.Sh.small] at *) <;> first | (exact rfl) | omega | exact vz | (simp_all; done) | (simp_all; omega))) | (
  intro _ h
  have F:=openF h
  first | exact F.zero.symm | (intro _ _ _; exact F.zero.symm) | (
   intro x hx hl
   simp only [decide_eq_true_eq,decide_eq_false_iff_not] at hl
   have h1:=machIs_ok F.isT
   have h4:=F.len
   have h7:=F.ok.machines
   have h8:=F.ok.plates
   have h5:=cnt_le (openL r (isMachine r m)) (mxSo r m.toNat) x
   have h6:=cnt_le (openL r (isMachine r m)) (mxNot r m.toNat) x
   first
   | omega
   | exact F.wb _ (getD_mem _ default (by omega))
   | ((repeat intro _); simp only [inI]; omega)
   | (intro e; exact cnt_t (by omega) e)
   | (intro e; exact cnt_f (by omega) e)
   | (intro e; exact cnt_f (by omega) (mxNot_t e))
   | (intro e e2; exact cnt_f (by omega) e)
   | (intro e e2; exact cnt_t (by omega) (mxNot_f e e2))
   | (intro e e2; exact cnt_f (by omega) (mxNot_f e e2))
   | (show _=mixedS r m; rw [mixedS,if_pos F.zero,show x=(openL r (isMachine r m)).length by omega,F.eq]))))
end Go.Ab
namespace Go.Sh
theorem getD_default_fnd {r:Run} {i:Nat} (h:r.found.length<=i):fnd r i=default:=Go.Ab.getD_ge _ _ h
theorem spanStep_b {r:Run} (ok:Ok r) (l:List Int) (m p:Nat) {s:Span} (h:sb s) (i:Nat):sb (spanStep r l m p s i):=by
 have hm:0<=(fnd r i).minute/\(fnd r i).minute<=900:=by
  by_cases hi:i < r.found.length
  ·have:=ok.fnd i hi; have:=ok.last; omega
  ·rw [getD_default_fnd (by omega)]; exact ⟨Int.le_refl 0,by decide⟩
 unfold spanStep
 split
 ·split
  ·exact ⟨h.1,h.2.1,by simp only; omega,by simp only; omega⟩
  ·split
   ·exact ⟨by simp only; omega,by simp only; omega,h.2.2.1,h.2.2.2⟩
   ·exact h
 ·exact h
theorem chg_b {r:Run} (ok:Ok r) (m p:Nat):sb (chg (mach r m) p):=by
 by_cases hm:m < r.machines.length
 ·by_cases hp:p < (mach r m).changes.length
  ·have:=ok.span m hm p hp; have:=ok.last
   exact ⟨by omega,by omega,by omega,by omega⟩
  ·rw [chg,Go.Ab.getD_ge _ _ (by omega)]; exact ⟨Int.le_refl 0,by decide,Int.le_refl 0,by decide⟩
 ·have:mach r m=default:=Go.Ab.getD_ge _ _ (by omega)
  rw [this]; exact ⟨Int.le_refl 0,(by decide:(0:Int)<=1000),Int.le_refl 0,(by decide:(0:Int)<=1000)⟩
theorem spanOf_b {r:Run} (ok:Ok r) (l:List Int) (m p:Nat):sb (spanOf r l m p):=by
 have:∀ n,sb (spanTo r l m p n):=by
  intro n
  induction n with
  | zero=>exact chg_b ok m p
  | succ n ih=>rw [spanTo_succ]; exact spanStep_b ok l m p ih n
 exact this _
def askE (r:Run) (is:Bool):Int:=if check r=0 then (if is then 0 else 1) else 60
def rfE (r:Run) (is:Bool):Int:=if check r=0 then (if is then (if (fromsOf r).length=0 then 3 else 0) else 1) else 60
def rfL (r:Run) (is:Bool):List (List Int):=if rfE r is=0 then fromsOf r else []
theorem check_two (r:Run):check r=0 ∨ check r=60:=by unfold check; split; exact .inl rfl; exact .inr rfl
theorem fromsOf_len {r:Run} (ok:Ok r):(fromsOf r).length<=729:=Nat.le_trans (List.length_filter_le _ _) (choices_len ok (Nat.zero_le _))
theorem fromsOf_mem {r:Run} {l:List Int} (h:l ∈ fromsOf r):l.length=r.found.length:=choices_mem (List.mem_filter.1 h).1
theorem choicesN_frm {r:Run}:∀ k first l,first.length + k<=r.found.length->l ∈ choicesN r k first->(∀ i,i < first.length->l.getD i 0=first.getD i 0) /\ ∀ i,first.length<=i->i < first.length + k->l.getD i 0 ∈ (fnd r i).frm:=by
 intro k
 induction k with
 | zero=>intro first l _ h; simp [choicesN] at h; rw [h]; exact ⟨fun _ _=>rfl,fun i h1 h2=>by omega⟩
 | succ k ih =>
  intro first l hk h
  rw [choicesN,List.mem_flatMap] at h
  obtain ⟨m,hm,h⟩:=h
  obtain ⟨h1,h2⟩:=ih (first ++ [m]) l (by simp; omega) h
  simp only [List.length_append,List.length_cons,List.length_nil] at h1 h2
  refine ⟨fun i hi => ?_,fun i h3 h4 => ?_⟩
  ·rw [h1 i (by omega),Go.Ab.getD_append,if_pos hi]
  ·by_cases e:i=first.length
   ·subst e
    rw [h1 first.length (by omega),Go.Ab.getD_append,if_neg (Nat.lt_irrefl _),Nat.sub_self]
    exact hm
   ·exact h2 i (by omega) (by omega)
theorem fromsOf_frm {r:Run} {l:List Int} (h:l ∈ fromsOf r) {i:Nat} (hi:i < r.found.length):l.getD i 0 ∈ (fnd r i).frm :=
 (choicesN_frm _ [] l (by simp) (List.mem_filter.1 h).1).2 i (Nat.zero_le _) (by simpa using hi)
theorem frm_range {r:Run} (ok:Ok r) {i:Nat} (hi:i < r.found.length) {x:Int} (h:x ∈ (fnd r i).frm):0<=x/\x < r.machines.length:=by
 obtain ⟨k,hk,e⟩:=List.getElem_of_mem h
 have h2:=ok.frm i hi k hk
 rw [Go.Ab.getD_lt _ _ hk,e] at h2
 exact h2
structure KnowF (r:Run) (is:Bool):Prop where
 zero:rfE r is=0
 okb:okRun r=true
 ok:Ok r
 isT:is=true
 eq:rfL r is=fromsOf r
 pos:0 < (rfL r is).length
 len:(rfL r is).length<=729
 frm:∀ x,x < (rfL r is).length->((rfL r is).getD x []).length=r.found.length
 mach:∀ x,x < (rfL r is).length -> ∀ i,i < r.found.length->0<=((rfL r is).getD x []).getD i 0/\((rfL r is).getD x []).getD i 0 < r.machines.length/\r.machines.length<=3
theorem rfE_zero {r:Run} {is:Bool} (h:rfE r is=0):check r=0/\is=true/\0 < (fromsOf r).length:=by
 unfold rfE at h
 split at h
 ·split at h
  ·split at h
   ·cases h
   ·rename_i h1 h2 h3; exact ⟨h1,h2,by omega⟩
  ·cases h
 ·cases h
theorem knowF {r:Run} {is:Bool} (h:(!decide (rfE r is=0))=false):KnowF r is:=by
 have h0:rfE r is=0:=by simpa using h
 obtain ⟨h1,h2,h3⟩:=rfE_zero h0
 have hb:=check_zero.1 h1
 have ok:=ok_of hb
 have he:rfL r is=fromsOf r:=by rw [rfL,if_pos h0]
 refine ⟨h0,hb,ok,h2,he,by rw [he]; exact h3,by rw [he]; exact fromsOf_len ok,fun x hx => ?_,fun x hx i hi => ?_⟩
 ·rw [he] at hx ⊢
  exact fromsOf_mem (Go.Ab.getD_mem _ [] hx)
 ·rw [he] at hx ⊢
  have:=frm_range ok hi (fromsOf_frm (Go.Ab.getD_mem _ [] hx) hi)
  exact ⟨this.1,this.2,ok.machines.2⟩
theorem knowBad {r:Run} {is:Bool} (h:(!decide (rfE r is=0))=true):rfE r is ≠ 0:=by simpa using h
def rhullTo (l:List (List Int)) (F:List Int->Span) (n:Nat):Span:=(List.range n).foldl (fun o i=>hull2 o (F (l.getD i []))) (F (l.getD 0 []))
def rhull (l:List (List Int)) (F:List Int->Span):Span:=rhullTo l F l.length
theorem rhullTo_succ (l:List (List Int)) (F:List Int->Span) (n:Nat):rhullTo l F (n + 1)=hull2 (rhullTo l F n) (F (l.getD n [])):=Go.Ab.foldl_range_succ _ _ _
def anyF (l:List (List Int)) (f m n:Nat):Bool:=(l.take n).any (fun x=>decide (x.getD f 0=(m:Int)))
theorem anyF_succ {l:List (List Int)} {f m n:Nat} (h:n < l.length):anyF l f m (n + 1)=(anyF l f m n || decide ((l.getD n []).getD f 0=(m:Int))):=by
 unfold anyF; rw [Go.Ab.take_succ _ [] h,List.any_append]; simp
def whTo (l:List (List Int)) (f n:Nat):List Int:=((List.range n).filter (fun m=>anyF l f m l.length)).map (fun m:Nat=>(m:Int))
def whereOf (r:Run) (l:List (List Int)) (f:Nat):List Int:=whTo l f r.machines.length
theorem whTo_t {l:List (List Int)} {f n:Nat} (h:anyF l f n l.length=true):whTo l f (n + 1)=whTo l f n ++ [(n:Int)]:=by
 unfold whTo; rw [List.range_succ,List.filter_append,List.map_append]; simp [h]
theorem whTo_f {l:List (List Int)} {f n:Nat} (h:anyF l f n l.length=false):whTo l f (n + 1)=whTo l f n:=by
 unfold whTo; rw [List.range_succ,List.filter_append,List.map_append]; simp [h]
theorem whTo_len (l:List (List Int)) (f n:Nat):(whTo l f n).length<=n:=by
 unfold whTo
 rw [List.length_map]
 exact Nat.le_trans (List.length_filter_le _ _) (by simp)
def cntL (l:List (List Int)) (P:List Int->Bool) (n:Nat):Nat:=(l.take n).countP P
def smL (a b:Nat) (x:List Int):Bool:=decide (x.getD a 0=x.getD b 0)
def oldL (r:Run) (p:Nat) (l:List Int):Span:=sumTo r (fun m=>spanOf r l m p) r.machines.length
def oldR (r:Run) (p:Int):Span:=if rfE r (isPlate r p)=0 then rhull (fromsOf r) (oldL r p.toNat) else ⟨0,0⟩
def minIn (g:Nat->Span) (i:Nat) (o:Span) (k:Nat):Span:=(List.range k).foldl (fun o q=>if i=q then o else ⟨max o.lo ((g i).lo - (g q).hi),max o.hi ((g i).hi - (g q).lo)⟩) o
def minTo (g:Nat->Span) (n i:Nat):Span:=(List.range i).foldl (fun o p=>minIn g p o n) ⟨0,0⟩
def minutes (g:Nat->Span) (n:Nat):Span:=minTo g n n
theorem minIn_succ (g:Nat->Span) (i:Nat) (o:Span) (k:Nat):minIn g i o (k + 1)=if i=k then minIn g i o k else ⟨max (minIn g i o k).lo ((g i).lo - (g k).hi),max (minIn g i o k).hi ((g i).hi - (g k).lo)⟩:=Go.Ab.foldl_range_succ _ _ _
theorem minTo_succ (g:Nat->Span) (n i:Nat):minTo g n (i + 1)=minIn g i (minTo g n i) n:=Go.Ab.foldl_range_succ _ _ _
theorem minIn_b {g:Nat->Span} (h:gb g) (i:Nat) {o:Span} (ho:sb o):∀ k,sb (minIn g i o k):=by
 intro k
 induction k with
 | zero=>exact ho
 | succ k ih =>
  rw [minIn_succ]
  have h1:=h i; have h2:=h k
  split
  ·exact ih
  ·simp only [sb] at *; omega
theorem minTo_b {g:Nat->Span} (h:gb g) (n:Nat):∀ i,sb (minTo g n i):=by
 intro i
 induction i with
 | zero=>exact ⟨Int.le_refl 0,(by decide:(0:Int)<=1000),Int.le_refl 0,(by decide:(0:Int)<=1000)⟩
 | succ i ih=>rw [minTo_succ]; exact minIn_b h i ih n
def mixL (r:Run) (l:List Int):Span:=sumTo r (fun m=>minutes (spanOf r l m) r.plates.toNat) r.machines.length
def nvTo (r:Run) (l:List (List Int)) (m n:Nat):Bool:=(l.take n).all (fun x=>decide ((minutes (spanOf r x m) r.plates.toNat).hi=0))
def suTo (r:Run) (l:List (List Int)) (m n:Nat):Bool:=(l.take n).all (fun x=>decide ((minutes (spanOf r x m) r.plates.toNat).lo > 0))
theorem nvTo_succ {r:Run} {l:List (List Int)} {m n:Nat} (h:n < l.length):nvTo r l m (n + 1)=(nvTo r l m n && decide ((minutes (spanOf r (l.getD n []) m) r.plates.toNat).hi=0)):=by
 unfold nvTo; rw [Go.Ab.take_succ _ [] h,List.all_append]; simp
theorem suTo_succ {r:Run} {l:List (List Int)} {m n:Nat} (h:n < l.length):suTo r l m (n + 1)=(suTo r l m n && decide (0 < (minutes (spanOf r (l.getD n []) m) r.plates.toNat).lo)):=by
 unfold suTo; rw [Go.Ab.take_succ _ [] h,List.all_append]; simp
def mixedR (r:Run) (m:Int):Int:=if rfE r (isMachine r m)=0 then (if suTo r (fromsOf r) m.toNat (fromsOf r).length then 1 else if nvTo r (fromsOf r) m.toNat (fromsOf r).length then 2 else 3) else 0
def skipL (f:Nat) (m:Int) (x:List Int):Bool:=decide (0<=m) && !decide (x.getD f 0=m)
def allStep (r:Run) (l:List (List Int)) (f:Nat) (m:Int) (s:Bool × Span) (i:Nat):Bool × Span:=if skipL f m (l.getD i []) then s else (true,if s.1 then hull2 s.2 (mixL r (l.getD i [])) else mixL r (l.getD i []))
def allTo (r:Run) (l:List (List Int)) (f:Nat) (m:Int) (n:Nat):Bool × Span:=(List.range n).foldl (allStep r l f m) (false,⟨0,0⟩)
theorem allTo_succ (r:Run) (l:List (List Int)) (f:Nat) (m:Int) (n:Nat):allTo r l f m (n + 1)=allStep r l f m (allTo r l f m n) n:=Go.Ab.foldl_range_succ _ _ _
theorem all_skip {r:Run} {l:List (List Int)} {f:Nat} {m:Int} {n:Nat} (h:skipL f m (l.getD n [])=true):allTo r l f m (n + 1)=allTo r l f m n:=by rw [allTo_succ,allStep,if_pos h]
theorem all_t {r:Run} {l:List (List Int)} {f:Nat} {m:Int} {n:Nat} (h:skipL f m (l.getD n [])=false) (h2:(allTo r l f m n).1=true):allTo r l f m (n + 1)=(true,hull2 (allTo r l f m n).2 (mixL r (l.getD n []))):=by rw [allTo_succ,allStep,if_neg (by rw [h]; exact Bool.false_ne_true),if_pos h2]
theorem all_f {r:Run} {l:List (List Int)} {f:Nat} {m:Int} {n:Nat} (h:skipL f m (l.getD n [])=false) (h2:(allTo r l f m n).1=false):allTo r l f m (n + 1)=(true,mixL r (l.getD n [])):=by rw [allTo_succ,allStep,if_neg (by rw [h]; exact Bool.false_ne_true),if_neg (by rw [h2]; exact Bool.false_ne_true)]
@[reducible] def bb (s:Span):Prop:=0<=s.lo/\s.lo<=27000/\0<=s.hi/\s.hi<=27000
theorem mixL_b {r:Run} (ok:Ok r) (l:List Int):bb (mixL r l):=by
 have hg:∀ m,sb (minutes (spanOf r l m) r.plates.toNat):=fun m=>minTo_b (fun q=>spanOf_b ok l m q) _ _
 have:=sumTo_b (rb_of ok) (f:=fun m=>minutes (spanOf r l m) r.plates.toNat) hg r.machines.length (Nat.le_refl _)
 have:=ok.machines
 simp only [bb,mixL]; omega
theorem hull2_b {a b:Span} (ha:bb a) (hb:bb b):bb (hull2 a b):=by simp only [bb,hull2] at *; omega
theorem allTo_b {r:Run} (ok:Ok r) (l:List (List Int)) (f:Nat) (m:Int):∀ n,bb (allTo r l f m n).2:=by
 intro n
 induction n with
 | zero=>exact ⟨Int.le_refl 0,(by decide:(0:Int)<=27000),Int.le_refl 0,(by decide:(0:Int)<=27000)⟩
 | succ n ih =>
  rw [allTo_succ,allStep]
  split
  ·exact ih
  ·show bb (if _ then _ else _)
   split
   ·exact hull2_b ih (mixL_b ok _)
   ·exact mixL_b ok _
def allMixes (r:Run) (l:List (List Int)) (f:Nat) (m:Int):Span:=(allTo r l f m l.length).2
def mixesR (r:Run):Span:=if rfE r true=0 then allMixes r (fromsOf r) 0 (-1) else ⟨0,0⟩
def rdL (r:Run) (f p:Nat) (x:List Int):Span:=spanOf r x (x.getD f 0).toNat p
def oldTo (r:Run) (l:List (List Int)) (f p n:Nat):Bool:=(l.take n).any (fun x=>decide ((rdL r f p x).hi > (fnd r f).minute))
def newTo (r:Run) (l:List (List Int)) (f p n:Nat):Bool:=(l.take n).any (fun x=>decide ((rdL r f p x).lo<=(fnd r f).minute))
def worstTo (mx:Int->Span) (w:List Int) (n:Nat):Int:=(List.range n).foldl (fun o i=>max o ((mx (w.getD i 0)).hi - (mx (w.getD i 0)).lo)) 0
theorem worstTo_succ (mx:Int->Span) (w:List Int) (n:Nat):worstTo mx w (n + 1)=max (worstTo mx w n) ((mx (w.getD n 0)).hi - (mx (w.getD n 0)).lo):=Go.Ab.foldl_range_succ _ _ _
def worst (mx:Int->Span) (w:List Int):Int:=worstTo mx w w.length
def seekStep (wh:Nat->List Int) (mx:Nat->Int->Span) (s:Int × Int) (c:Nat):Int × Int:=if (wh c).length < 2 then s else if s.1 < 0 ∨ worst (mx c) (wh c) < s.2 then ((c:Int),worst (mx c) (wh c)) else s
def seekTo (wh:Nat->List Int) (mx:Nat->Int->Span) (n:Nat):Int × Int:=(List.range n).foldl (seekStep wh mx) (-1,0)
theorem seekTo_succ (wh:Nat->List Int) (mx:Nat->Int->Span) (n:Nat):seekTo wh mx (n + 1)=seekStep wh mx (seekTo wh mx n) n:=Go.Ab.foldl_range_succ _ _ _
theorem seek_skip {wh:Nat->List Int} {mx:Nat->Int->Span} {n:Nat} (h:(wh n).length < 2):seekTo wh mx (n + 1)=seekTo wh mx n:=by rw [seekTo_succ,seekStep,if_pos h]
theorem seek_t {wh:Nat->List Int} {mx:Nat->Int->Span} {n:Nat} (h:¬ (wh n).length < 2) (h2:(seekTo wh mx n).1 < 0 ∨ worst (mx n) (wh n) < (seekTo wh mx n).2):seekTo wh mx (n + 1)=((n:Int),worst (mx n) (wh n)):=by rw [seekTo_succ,seekStep,if_neg h,if_pos h2]
theorem seek_f {wh:Nat->List Int} {mx:Nat->Int->Span} {n:Nat} (h:¬ (wh n).length < 2) (h2:¬ ((seekTo wh mx n).1 < 0 ∨ worst (mx n) (wh n) < (seekTo wh mx n).2)):seekTo wh mx (n + 1)=seekTo wh mx n:=by rw [seekTo_succ,seekStep,if_neg h,if_neg h2]
def seekOf (s:Int × Int):Int × Int:=if s.1 < 0 then (0,3) else (s.1,0)
def seekTR (r:Run) (l:List (List Int)) (n:Nat):Int × Int:=seekTo (whereOf r l) (fun c m=>allMixes r l c m) n
def seekR (r:Run):Int × Int:=if rfE r true=0 then seekOf (seekTR r (fromsOf r) r.found.length) else (0,rfE r true)
structure Trth where
 minutes:List (List Int)
 frm:List Int
 deriving DecidableEq,Inhabited
def tmin (t:Trth) (m:Nat):List Int:=t.minutes.getD m []
end Go.Sh
namespace Go.En
open Go Go.Ab Go.Sh
end Go.En
namespace Go.Ab
open Go Go.RowKit Go.Proofs Go.Sh Go.En
def s89 (a b:Span):CallSpec:={ args:=[vSpan a,vSpan b],res:=vSpan (hull2 a b) }
def s118 (r:Run) (is:Bool):CallSpec:={ args:=[vRun r,bv is],res:=iv (askE r is),pre:=fits r }
def s87 (r:Run) (is:Bool):CallSpec:={ args:=[vRun r,bv is],res := .tup [aIntss (rfL r is),iv (rfE r is)],pre:=fits r }
def h34 (r:Run) (m p:Int):Hint:={ X:=Nat,M:=fun i=>[(11,iv i),(10,.ptr 5000 [])],H:=fun i=>[(5000,.cells 37 (cSpan (rhullTo (rfL r (whenIs r m p)) (fun l=>spanOf r l m.toNat p.toNat) i)))],I:=fun i=>i<=(rfL r (whenIs r m p)).length,mu:=fun i=>(rfL r (whenIs r m p)).length - i,x0:=(0:Nat),nx:=fun i=>i + 1 }
def s91 (r:Run) (l:List (List Int)) (f:Nat):CallSpec:={ args:=[vRun r,aIntss l,iv f],res:=aInts (whereOf r l f),pre:=r.machines.length<=3/\l.length<=65536 /\ ∀ x,x < l.length->f < (l.getD x []).length }
def h91a (r:Run) (l:List (List Int)) (f:Nat):Hint:={ X:=Nat,M:=fun m=>[(8,iv m),(7,.vec 5000)],H:=fun m=>[(5000,.vec 3 1 (whTo l f m).length (fun k=>[iv ((whTo l f m).getD k 0)]))],I:=fun m=>m<=r.machines.length,mu:=fun m=>r.machines.length - m,x0:=(0:Nat),nx:=fun m=>m + 1 }
def h91b (r:Run) (l:List (List Int)) (f:Nat) (m:Nat):Hint:={ X:=Nat,M:=fun i=>[(10,iv i),(9,bv (anyF l f m i))],I:=fun i=>i<=l.length,mu:=fun i=>l.length - i,x0:=(0:Nat),nx:=fun i=>i + 1 }
def h39 (r:Run) (a b:Int):Hint:={ X:=Nat,M:=fun i=>[(10,iv (cntL (rfL r (sameIs r a b)) (smL a.toNat b.toNat) i)),(11,iv i)],I:=fun i=>i<=(rfL r (sameIs r a b)).length,mu:=fun i=>(rfL r (sameIs r a b)).length - i,x0:=(0:Nat),nx:=fun i=>i + 1 }
def s109 (r:Run) (l:List Int) (p:Nat):CallSpec:={ args:=[vRun r,aInts l,iv p],res:=vSpan (oldL r p l),pre:=okRun r=true/\l.length<=r.found.length/\(p:Int) < r.plates }
def h109 (r:Run) (l:List Int) (p:Nat):Hint:={ X:=Nat,M:=fun i=>[(8,iv i),(7,.ptr 5000 [])],H:=fun i=>[(5000,.cells 37 (cSpan (sumTo r (fun m=>spanOf r l m p) i)))],I:=fun i=>i<=r.machines.length,mu:=fun i=>r.machines.length - i,x0:=(0:Nat),nx:=fun i=>i + 1 }
def c109 (r:Run) (l:List Int) (p i:Nat):CallSpec:=s88 r l i p
def s66 (r:Run) (p:Int):CallSpec:={ args:=[vRun r,iv p],res := .tup [vSpan (oldR r p),iv (rfE r (isPlate r p))],pre:=fits r }
def c66o (r:Run) (p:Int):CallSpec:=s87 r (isPlate r p)
def c66a (r:Run) (p:Int):CallSpec:=s109 r ((rfL r (isPlate r p)).getD 0 []) p.toNat
def c66b (r:Run) (p:Int) (i:Nat):CallSpec:=s109 r ((rfL r (isPlate r p)).getD i []) p.toNat
def h66 (r:Run) (p:Int):Hint:={ X:=Nat,M:=fun i=>[(9,iv i),(8,.ptr 5000 [])],H:=fun i=>[(5000,.cells 37 (cSpan (rhullTo (rfL r (isPlate r p)) (oldL r p.toNat) i)))],I:=fun i=>i<=(rfL r (isPlate r p)).length,mu:=fun i=>(rfL r (isPlate r p)).length - i,x0:=(0:Nat),nx:=fun i=>i + 1 }
def s110 (r:Run) (l:List Int) (m:Nat):CallSpec:={ args:=[vRun r,aInts l,iv m],res:=vSpan (minutes (spanOf r l m) r.plates.toNat),pre:=okRun r=true/\l.length<=r.found.length/\m < r.machines.length }
def h110a (r:Run) (l:List Int) (m:Nat):Hint:={ X:=Nat,M:=fun i=>[(8,iv i),(7,.ptr 5000 [])],H:=fun i=>[(5000,.cells 37 (cSpan (minTo (spanOf r l m) r.plates.toNat i)))],I:=fun i=>i<=r.plates.toNat,mu:=fun i=>r.plates.toNat - i,x0:=(0:Nat),nx:=fun i=>i + 1 }
def h110b (r:Run) (l:List Int) (m i:Nat):Hint:={ X:=Nat,M:=fun k=>[(9,iv k),(7,.ptr 5001 [])],H:=fun k=>[(5001,.cells 37 (cSpan (minIn (spanOf r l m) i (minTo (spanOf r l m) r.plates.toNat i) k)))],I:=fun k=>k<=r.plates.toNat,mu:=fun k=>r.plates.toNat - k,x0:=(0:Nat),nx:=fun k=>k + 1 }
def c110a (r:Run) (l:List Int) (m i k:Nat):CallSpec:=s88 r l m i
def c110b (r:Run) (l:List Int) (m i k:Nat):CallSpec:=s88 r l m k
def s67 (r:Run) (m:Int):CallSpec:={ args:=[vRun r,iv m],res := .tup [iv (mixedR r m),iv (rfE r (isMachine r m))],pre:=fits r }
def c67o (r:Run) (m:Int):CallSpec:=s87 r (isMachine r m)
def c67 (r:Run) (m:Int) (i:Nat):CallSpec:=s110 r ((rfL r (isMachine r m)).getD i []) m.toNat
def h67 (r:Run) (m:Int):Hint:={ X:=Nat,M:=fun i=>[(8,bv (nvTo r (rfL r (isMachine r m)) m.toNat i)),(9,bv (suTo r (rfL r (isMachine r m)) m.toNat i)),(10,iv i)],I:=fun i=>i<=(rfL r (isMachine r m)).length,mu:=fun i=>(rfL r (isMachine r m)).length - i,x0:=(0:Nat),nx:=fun i=>i + 1 }
def s135 (r:Run) (l:List Int):CallSpec:={ args:=[vRun r,aInts l],res:=vSpan (mixL r l),pre:=okRun r=true/\l.length<=r.found.length }
def h135 (r:Run) (l:List Int):Hint:={ X:=Nat,M:=fun i=>[(6,iv i),(5,.ptr 5000 [])],H:=fun i=>[(5000,.cells 37 (cSpan (sumTo r (fun m=>minutes (spanOf r l m) r.plates.toNat) i)))],I:=fun i=>i<=r.machines.length,mu:=fun i=>r.machines.length - i,x0:=(0:Nat),nx:=fun i=>i + 1 }
def c135 (r:Run) (l:List Int) (i:Nat):CallSpec:=s110 r l i
def s111 (r:Run) (l:List (List Int)) (f:Nat) (m:Int):CallSpec:={ args:=[vRun r,aIntss l,iv f,iv m],res:=vSpan (allMixes r l f m),pre:=okRun r=true/\l.length<=65536/\(∀ x,x < l.length->(l.getD x []).length=r.found.length)/\(0<=m->f < r.found.length) }
def h111 (r:Run) (l:List (List Int)) (f:Nat) (m:Int):Hint:={ X:=Nat,M:=fun i=>[(9,bv (allTo r l f m i).1),(11,iv i),(10,.ptr 5000 [])],H:=fun i=>[(5000,.cells 37 (cSpan (allTo r l f m i).2))],I:=fun i=>i<=l.length,mu:=fun i=>l.length - i,x0:=(0:Nat),nx:=fun i=>i + 1 }
def s68 (r:Run):CallSpec:={ args:=[vRun r],res := .tup [vSpan (mixesR r),iv (rfE r true)],pre:=fits r }
def c68 (r:Run):CallSpec:=s111 r (rfL r true) 0 (-1)
def s69 (r:Run):CallSpec:={ args:=[vRun r],res := .tup [iv (seekR r).1,iv (seekR r).2],pre:=fits r }
def h69a (r:Run):Hint:={ X:=Nat,M:=fun c=>[(6,iv (seekTR r (rfL r true) c).1),(7,iv (seekTR r (rfL r true) c).2),(8,iv c)],I:=fun c=>c<=r.found.length,mu:=fun c=>r.found.length - c,x0:=(0:Nat),nx:=fun c=>c + 1 }
def h69b (r:Run) (c:Nat):Hint:={ X:=Nat,M:=fun i=>[(10,iv (worstTo (fun m=>allMixes r (rfL r true) c m) (whereOf r (rfL r true) c) i)),(11,iv i)],I:=fun i=>i<=(whereOf r (rfL r true) c).length,mu:=fun i=>(whereOf r (rfL r true) c).length - i,x0:=(0:Nat),nx:=fun i=>i + 1 }
def c69a (r:Run) (c:Nat):CallSpec:=s91 r (rfL r true) c
def c69b (r:Run) (c i:Nat):CallSpec:=s111 r (rfL r true) c ((whereOf r (rfL r true) c).getD i 0)
def h32 (r:Run) (f p:Int):Hint:={ X:=Nat,M:=fun i=>[(10,bv (oldTo r (rfL r (readIs r f p)) f.toNat p.toNat i)),(11,bv (newTo r (rfL r (readIs r f p)) f.toNat p.toNat i)),(12,iv i)],I:=fun i=>i<=(rfL r (readIs r f p)).length,mu:=fun i=>(rfL r (readIs r f p)).length - i,x0:=(0:Nat),nx:=fun i=>i + 1 }
def h70 (t:Trth):Hint:={ X:=Nat,M:=fun i=>[(4,iv i),(3,.ptr 5000 [])],H:=fun i=>[(5000,.cells 56 [.vec 5001,.vec 5002]),(5001,.vec 30 1 i (fun k=>[aInts (tmin t k)])),(5002,.vec 3 1 t.frm.length (fun k=>[iv (t.frm.getD k 0)]))],I:=fun i=>i<=t.minutes.length,mu:=fun i=>t.minutes.length - i,x0:=(0:Nat),nx:=fun i=>i + 1 }
end Go.Ab
namespace Go.Ab
open Go Go.RowKit Go.Proofs Go.Sh Go.En
theorem w89 (a:Span) (b:Span)
  (o0:min (Span.lo a) (Span.lo b)=Span.lo (hull2 a b))
  (o1:max a.hi b.hi=(hull2 a b).hi) :
  Triple Try.prog 89 (s89 a b):=by
 refine triple_of Try.func89 rfl Try.call89 T0_ok _ rfl rfl rfl rfl (Nat.le_of_ble_eq_true (by kernel_rfl)) (fun _ _ _ _ h=>h) ?_
 intro _ C hC _ hE
 obtain ⟨P,w0,E0,av,hA⟩:=C
 subst hC
 refine swp_seq ?_
 refine sQ (kt:=[2,3,4]) (kh:=[0,8,16]) (q:=tn 3) (st':=ASt.mk [(2,.ptr 0 []),(3,.ptr 8 []),(4,.ptr 16 [])] [(0,.cells 37 (cSpan a)),(8,.cells 37 (cSpan b)),(16,.cells 37 [iv 0,iv 0])] 24) (tp 3) ?_
 refine swp_seq ?_
 refine sQ (kt:=[4]) (kh:=[16]) (q:=tn 12) (st':=ASt.mk [(4,.ptr 16 [])] [(16,.cells 37 [iv (min a.lo b.lo),iv (max a.hi b.hi)])] 120) (tp 12) ?_
 refine swp_ret ?_
 exact rQ [] ((True/\True)/\((zN (iv (min a.lo b.lo)) (iv (hull2 a b).lo))/\(zN (iv (max a.hi b.hi)) (iv (hull2 a b).hi))/\True)/\T3) ⟨⟨tv,tv⟩,⟨⟨(congrArg iv (o0)),rfl⟩,⟨(congrArg iv (o1)),rfl⟩,tv⟩,rfl,rfl,rfl⟩
theorem t89 (a b:Span):Triple Try.prog 89 (s89 a b):=by
 apply w89 <;> rfl
theorem w118 (r:Run) (is:Bool)
 (o0:fits r->(!decide (check r=0))->check r=askE r is)
 (o1:fits r->(!decide (check r=0))=false->(!is)=true->1=askE r is)
 (o2:fits r->(!decide (check r=0))=false->(!is)=false->0=askE r is) :
  Triple Try.prog 118 (s118 r is):=by
 refine triple_of Try.func118 rfl Try.call118 T0_ok _ rfl rfl rfl rfl (Nat.le_of_ble_eq_true (by kernel_rfl)) (fun _ _ _ _ h=>h) ?_
 intro hp C hC _ hE
 obtain ⟨P,w0,E0,av,hA⟩:=C
 subst hC
 refine swp_seq ?_
 refine sQ (kt:=[1,2]) (kh:=[0]) (q:=tn 2) (st':=ASt.mk [(1,bv is),(2,.ptr 0 [])] [(0,.cells 25 (cRun r))] 16) (tp 2) ?_
 refine swp_seq (swp_seq ?_)
 refine sC (cs:=[(1,CallSpec.eq (s63 r) [true])]) (kt:=[1,5]) (kh:=[]) (q:=True/\((zE (AV.agg (cRun r))/\True)/\Triple Try.prog 63 (s63 r)/\fits r/\True /\ ∀ (i0:Env),True)/\True/\True) (st':=ASt.mk [(1,bv is),(5,iv (check r))] [] 40) ⟨tv,⟨⟨rfl,tv⟩,(t63 (r)),hp,tv,(fun i0=>tv)⟩,tv,tv⟩ ?_
 refine swp_seq ?_
 refine sQ (kt:=[1,5,9]) (kh:=[]) (q:=tn 2) (st':=ASt.mk [(1,bv is),(5,iv (check r)),(9,bv !decide (check r=0))] [] 56) (tp 2) ?_
 refine swp_cond (!decide (check r=0)) (by kernel_rfl) (fun h1 => ?_) (fun h1 => ?_)
 ·refine swp_seq ?_
  refine sQ (kt:=[4]) (kh:=[]) (q:=tn 2) (st':=ASt.mk [(4,iv (check r))] [] 72) (tp 2) ?_
  refine swp_ret ?_
  exact rQ [] ((True/\True)/\(zN (iv (check r)) (iv (askE r is)))/\T3) ⟨⟨tv,tv⟩,⟨(congrArg iv (o0 hp h1)),rfl⟩,rfl,rfl,rfl⟩
 ·refine swp_skip (swp_seq (swp_seq ?_))
  refine sQ (kt:=[12]) (kh:=[]) (q:=tn 2) (st':=ASt.mk [(12,bv !is)] [] 72) (tp 2) ?_
  refine swp_cond (!is) (by kernel_rfl) (fun h2 => ?_) (fun h2 => ?_)
  ·refine swp_seq ?_
   refine sQ (kt:=[4]) (kh:=[]) (q:=True/\True) (st':=ASt.mk [(4,iv 1)] [] 80) ⟨tv,tv⟩ ?_
   refine swp_ret ?_
   exact rQ [] ((True/\True)/\(zN (iv 1) (iv (askE r is)))/\T3) ⟨⟨tv,tv⟩,⟨(congrArg iv (o1 hp h1 h2)),rfl⟩,rfl,rfl,rfl⟩
  ·refine swp_skip (swp_seq ?_)
   refine sQ (kt:=[4]) (kh:=[]) (q:=True/\True) (st':=ASt.mk [(4,iv 0)] [] 80) ⟨tv,tv⟩ ?_
   refine swp_ret ?_
   exact rQ [] ((True/\True)/\(zN (iv 0) (iv (askE r is)))/\T3) ⟨⟨tv,tv⟩,⟨(congrArg iv (o2 hp h1 h2)),rfl⟩,rfl,rfl,rfl⟩
theorem t118 (r:Run) (is:Bool):Triple Try.prog 118 (s118 r is):=by
 apply w118
 all_goals (intro _; (repeat intro _); rcases check_two r with e | e <;> simp_all [askE])
abbrev q87_1 (r:Run) (is:Bool) (C:Prop):Prop:=fits r->(!decide (askE r is=0))=false->C
abbrev q87_2 (r:Run) (is:Bool) (C:Prop):Prop:=q87_1 r is (decide ((↑((fromsOf r).length):Int)=0)=false->C)
theorem w87 (r:Run) (is:Bool)
 (o0:fits r->(!decide (askE r is=0))->(rfL r is).length=0)
 (o1:fits r->(!decide (askE r is=0))->askE r is=rfE r is)
 (o2:q87_1 r is (okRun r=true))
 (o3:q87_1 r is (decide ((↑((fromsOf r).length):Int)=0)=true->(rfL r is).length=0))
 (o4:q87_1 r is (decide ((↑((fromsOf r).length):Int)=0)=true->3=rfE r is))
 (o5:q87_2 r is ((fromsOf r).length=(rfL r is).length))
 (o6:q87_2 r is (∀ (i4:Nat),i4 < (rfL r is).length -> [aInts ((fromsOf r).getD i4 [])] = [aInts ((rfL r is).getD i4 [])]))
 (o7:q87_2 r is (0=rfE r is)) :
  Triple Try.prog 87 (s87 r is):=by
 refine triple_of Try.func87 rfl Try.call87 T0_ok _ rfl rfl rfl rfl (Nat.le_of_ble_eq_true (by kernel_rfl)) (fun _ _ _ _ h=>h) ?_
 intro hp C hC _ hE
 obtain ⟨P,w0,E0,av,hA⟩:=C
 subst hC
 refine swp_seq ?_
 refine sQ (kt:=[1,2]) (kh:=[0]) (q:=tn 3) (st':=ASt.mk [(1,bv is),(2,.ptr 0 [])] [(0,.cells 25 (cRun r))] 24) (tp 3) ?_
 refine swp_seq (swp_seq ?_)
 refine sC (cs:=[(2,CallSpec.eq (s118 r is) [true,true])]) (kt:=[2,6]) (kh:=[0]) (q:=True/\True/\((zE (AV.agg (cRun r))/\bv is=bv is/\True)/\Triple Try.prog 118 (s118 r is)/\fits r/\True /\ ∀ (i0:Env),True)/\True/\True) (st':=ASt.mk [(2,.ptr 0 []),(6,iv (askE r is))] [(0,.cells 25 (cRun r))] 56) ⟨tv,tv,⟨⟨rfl,rfl,tv⟩,(t118 (r) (is)),hp,tv,(fun i0=>tv)⟩,tv,tv⟩ ?_
 refine swp_seq ?_
 refine sQ (kt:=[2,6,12]) (kh:=[0]) (q:=tn 2) (st':=ASt.mk [(2,.ptr 0 []),(6,iv (askE r is)),(12,bv !decide (askE r is=0))] [(0,.cells 25 (cRun r))] 72) (tp 2) ?_
 refine swp_cond (!decide (askE r is=0)) (by kernel_rfl) (fun h1 => ?_) (fun h1 => ?_)
 ·refine swp_seq ?_
  refine sQ (kt:=[4,5]) (kh:=[]) (q:=tn 3) (st':=ASt.mk [(4,nilv),(5,iv (askE r is))] [] 96) (tp 3) ?_
  refine swp_ret ?_
  exact rQ [] ((True/\True/\True)/\((rfL r is).length=0/\(zN (iv (askE r is)) (iv (rfE r is)))/\True)/\T3) ⟨⟨tv,tv,tv⟩,⟨(o0 hp h1),⟨(congrArg iv (o1 hp h1)),rfl⟩,tv⟩,rfl,rfl,rfl⟩
 ·refine swp_skip (swp_seq ?_)
  refine sC (cs:=[(1,CallSpec.eq (s93 r) [true])]) (kt:=[7]) (kh:=[]) (q:=True/\((zE (AV.agg (cRun r))/\True)/\Triple Try.prog 93 (s93 r)/\okRun r=true/\True /\ ∀ (i2:Env),True)/\True/\True) (st':=ASt.mk [(7,aIntss (fromsOf r))] [] 96) ⟨tv,⟨⟨rfl,tv⟩,(t93 (r)),(o2 hp h1),tv,(fun i2=>tv)⟩,tv,tv⟩ ?_
  refine swp_seq (swp_seq ?_)
  refine sQ (kt:=[7,18]) (kh:=[]) (q:=tn 3) (st':=ASt.mk [(7,aIntss (fromsOf r)),(18,bv (decide ((↑((fromsOf r).length):Int)=0)))] [] 120) (tp 3) ?_
  refine swp_cond (decide ((↑((fromsOf r).length):Int)=0)) (by kernel_rfl) (fun h3 => ?_) (fun h3 => ?_)
  ·refine swp_seq ?_
   refine sQ (kt:=[4,5]) (kh:=[]) (q:=tn 2) (st':=ASt.mk [(4,nilv),(5,iv 3)] [] 136) (tp 2) ?_
   refine swp_ret ?_
   exact rQ [] ((True/\True/\True)/\((rfL r is).length=0/\(zN (iv 3) (iv (rfE r is)))/\True)/\T3) ⟨⟨tv,tv,tv⟩,⟨(o3 hp h1 h3),⟨(congrArg iv (o4 hp h1 h3)),rfl⟩,tv⟩,rfl,rfl,rfl⟩
  ·refine swp_skip (swp_seq ?_)
   refine sQ (kt:=[4,5]) (kh:=[]) (q:=tn 3) (st':=ASt.mk [(4,aIntss (fromsOf r)),(5,iv 0)] [] 144) (tp 3) ?_
   refine swp_ret ?_
   exact rQ [] ((True/\True/\True)/\((1=1/\(fromsOf r).length=(rfL r is).length /\ ∀ (i4:Nat),i4 < (rfL r is).length -> [aInts ((fromsOf r).getD i4 [])] = [aInts ((rfL r is).getD i4 [])])/\(zN (iv 0) (iv (rfE r is)))/\True)/\T3) ⟨⟨tv,tv,tv⟩,⟨⟨rfl,(o5 hp h1 h3),(fun i4=>(fun h5=>(o6 hp h1 h3 i4 h5)))⟩,⟨(congrArg iv (o7 hp h1 h3)),rfl⟩,tv⟩,rfl,rfl,rfl⟩
theorem t87 (r:Run) (is:Bool):Triple Try.prog 87 (s87 r is):=by
 apply w87
 all_goals (intro _; (repeat intro _); rcases check_two r with e | e <;> cases is <;> first | (exact check_zero.1 e) | (simp_all [askE,rfE,rfL]; done) | skip)
abbrev z91_1 (r:Run) (l:List (List Int)) (f:Nat) (x0:Nat):LoopAnn:=Hint.ann (h91b r l f x0) [(1,aIntss l),(2,iv (f:Int)),(3,AV.ptr 0 []),(8,iv (x0:Int)),(7,AV.vec 5000)] [(0,OB.cells 25 (cRun r)),(5000,OB.vec 3 1 (whTo l f x0).length fun (k:Nat)=>[iv ((whTo l f x0).getD k 0)])] 20088
abbrev z91_2 (r:Run) (l:List (List Int)) (f:Nat):LoopAnn:=Hint.ann (h91a r l f) [(1,aIntss l),(2,iv (f:Int)),(3,AV.ptr 0 [])] [(0,OB.cells 25 (cRun r))] 10032
abbrev q91_1 (r:Run) (l:List (List Int)) (f:Nat) (C:Prop):Prop:=(r.machines.length<=3/\l.length<=65536 /\ ∀ (x:Nat),x < l.length->f < (l.getD x []).length)->C
abbrev q91_2 (r:Run) (l:List (List Int)) (f:Nat) (C:Nat->Prop):Prop:=q91_1 r l f (∀ (x0:Nat),x0<=r.machines.length->decide ((x0:Int) < (↑(r.machines.length):Int))=true->C x0)
abbrev q91_3 (r:Run) (l:List (List Int)) (f:Nat) (C:Nat->Nat->Prop):Prop:=q91_2 r l f fun x0 => ∀ (x2:Nat),x2<=l.length->decide ((x2:Int) < (↑(l.length):Int))=true->C x0 x2
abbrev q91_4 (r:Run) (l:List (List Int)) (f:Nat) (C:Nat->Nat->Prop):Prop:=q91_2 r l f fun x0 => ∀ (x2:Nat),x2<=l.length->decide ((x2:Int) < (↑(l.length):Int))=false->anyF l f x0 x2=true->C x0 x2
abbrev q91_5 (r:Run) (l:List (List Int)) (f:Nat) (C:Nat->Nat->Prop):Prop:=q91_2 r l f fun x0 => ∀ (x2:Nat),x2<=l.length->decide ((x2:Int) < (↑(l.length):Int))=false->anyF l f x0 x2=false->C x0 x2
theorem w91 (r:Run) (l:List (List Int)) (f:Nat)
 (o0:q91_1 r l f (0=(↑0:Int)))
 (o1:q91_1 r l f ((whTo l f 0).length=0))
 (o2:q91_1 r l f (0<=r.machines.length))
 (o3:q91_2 r l f fun x0=>0=(↑0:Int))
 (o4:q91_2 r l f fun x0=>false=anyF l f x0 0)
 (o5:q91_2 r l f fun x0=>0<=l.length)
 (o6:q91_3 r l f fun x0 x2=>(!anyF l f x0 x2)=true->0<=(x2:Int))
 (o7:q91_3 r l f fun x0 x2=>(!anyF l f x0 x2)=true->(x2:Int) < (↑(l.length):Int))
 (o8:q91_3 r l f fun x0 x2=>(!anyF l f x0 x2)=true->0<=(f:Int))
 (o9:q91_3 r l f fun x0 x2=>(!anyF l f x0 x2)=true->(f:Int) < (↑((l.getD x2 []).length):Int))
 (o10:q91_3 r l f fun x0 x2=>anyF l f x0 x2=false->(!anyF l f x0 x2)=true)
 (o11:q91_3 r l f fun x0 x2=>inI ((x2:Int) + 1))
 (o12:q91_3 r l f fun x0 x2=>(x2:Int) + 1=(↑(x2 + 1):Int))
 (o13:q91_3 r l f fun x0 x2=>(bif anyF l f x0 x2 then true else decide ((l.getD x2 []).getD f 0=(x0:Int)))=anyF l f x0 (x2 + 1))
 (o14:q91_3 r l f fun x0 x2=>x2 + 1<=l.length)
 (o15:q91_3 r l f fun x0 x2=>l.length - (x2 + 1) < l.length - x2)
 (o16:q91_4 r l f fun x0 x2=>(whTo l f x0).length + 1<=65536)
 (o17:q91_4 r l f fun x0 x2=>inI ((x0:Int) + 1))
 (o18:q91_4 r l f fun x0 x2=>(x0:Int) + 1=(↑(x0 + 1):Int))
 (o19:q91_4 r l f fun x0 x2=>(whTo l f x0).length + 1=(whTo l f (x0 + 1)).length)
 (o20:q91_4 r l f fun x0 x2 => ∀ (i24:Nat),i24 < (whTo l f x0).length + 1->catF (whTo l f x0).length (fun (k:Nat)=>[iv ((whTo l f x0).getD k 0)]) (fun (j:Nat)=>List.getD [[iv (x0:Int)]] j (TI.za ti3)) i24 = [iv ((whTo l f (x0 + 1)).getD i24 0)])
 (o21:q91_4 r l f fun x0 x2=>x0 + 1<=r.machines.length)
 (o22:q91_4 r l f fun x0 x2=>r.machines.length - (x0 + 1) < r.machines.length - x0)
 (o23:q91_5 r l f fun x0 x2=>inI ((x0:Int) + 1))
 (o24:q91_5 r l f fun x0 x2=>(x0:Int) + 1=(↑(x0 + 1):Int))
 (o25:q91_5 r l f fun x0 x2=>(whTo l f x0).length=(whTo l f (x0 + 1)).length)
 (o26:q91_5 r l f fun x0 x2 => ∀ (i26:Nat),i26 < (whTo l f x0).length -> [iv ((whTo l f x0).getD i26 0)] = [iv ((whTo l f (x0 + 1)).getD i26 0)])
 (o27:q91_5 r l f fun x0 x2=>x0 + 1<=r.machines.length)
 (o28:q91_5 r l f fun x0 x2=>r.machines.length - (x0 + 1) < r.machines.length - x0)
 (o29:q91_1 r l f (∀ (x0:Nat),x0<=r.machines.length->decide ((x0:Int) < (↑(r.machines.length):Int))=false->(whTo l f x0).length=(whereOf r l f).length))
 (o30:q91_1 r l f (∀ (x0:Nat),x0<=r.machines.length->decide ((x0:Int) < (↑(r.machines.length):Int))=false -> ∀ (i28:Nat),i28 < (whereOf r l f).length -> [iv ((whTo l f x0).getD i28 0)] = [iv ((whereOf r l f).getD i28 0)])) :
  Triple Try.prog 91 (s91 r l f):=by
 refine triple_of Try.func91 rfl Try.call91 T0_ok _ rfl rfl rfl rfl (Nat.le_of_ble_eq_true (by kernel_rfl)) (fun _ _ _ _ h=>h) ?_
 intro hp C hC _ hE
 obtain ⟨P,w0,E0,av,hA⟩:=C
 subst hC
 refine swp_seq ?_
 refine sQ (kt:=[1,2,3]) (kh:=[0]) (q:=tn 2) (st':=ASt.mk [(1,aIntss l),(2,iv (f:Int)),(3,.ptr 0 [])] [(0,.cells 25 (cRun r))] 16) (tp 2) ?_
 refine swp_seq ?_
 refine sQ (kt:=[1,2,3,7]) (kh:=[0]) (q:=True/\True) (st':=ASt.mk [(1,aIntss l),(2,iv (f:Int)),(3,.ptr 0 []),(7,nilv)] [(0,.cells 25 (cRun r))] 24) ⟨tv,tv⟩ ?_
 refine swp_seq (swp_seq ?_)
 refine sQ (kt:=[1,2,3,7,8]) (kh:=[0]) (q:=True/\True) (st':=ASt.mk [(1,aIntss l),(2,iv (f:Int)),(3,.ptr 0 []),(7,nilv),(8,iv 0)] [(0,.cells 25 (cRun r))] 32) ⟨tv,tv⟩ ?_
 refine swp_block ?_
 refine swp_loopA (z91_2 r l f) (eQ hE [] [(0,.same 0),(5000,.nil)] [1,2] [0] (((zT (aIntss l))/\(zT (iv (f:Int)))/\(zP 0)/\(zN (iv 0) (iv (↑0:Int)))/\zE (some Src.nil)/\True)/\((zT (OB.cells 25 (cRun r)))/\(whTo l f 0).length=0/\True)/\T2) ⟨⟨⟨rfl,rfl⟩,⟨rfl,rfl⟩,⟨rfl,rfl⟩,⟨(congrArg iv (o0 hp)),rfl⟩,rfl,tv⟩,⟨⟨rfl,rfl⟩,(o1 hp),tv⟩,rfl,rfl⟩) (o2 hp) (fun (x0:Nat) hx0 => ?_)
 refine swp_seq (swp_seq ?_)
 refine sQ (kt:=[1,2,3,8,7,15]) (kh:=[0,5000]) (q:=tn 5) (st':=ASt.mk [(1,aIntss l),(2,iv (f:Int)),(3,.ptr 0 []),(8,iv (x0:Int)),(7,.vec 5000),(15,bv (decide ((x0:Int) < (↑(r.machines.length):Int))))] [(0,.cells 25 (cRun r)),(5000,.vec 3 1 (whTo l f x0).length fun (k:Nat)=>[iv ((whTo l f x0).getD k 0)])] 10072) (tp 5) ?_
 refine swp_cond (decide ((x0:Int) < (↑(r.machines.length):Int))) (by kernel_rfl) (fun h1 => ?_) (fun h1 => ?_)
 ·refine swp_skip (swp_seq (swp_block (swp_seq ?_)))
  refine sQ (kt:=[1,2,3,8,7,9]) (kh:=[0,5000]) (q:=True/\True) (st':=ASt.mk [(1,aIntss l),(2,iv (f:Int)),(3,.ptr 0 []),(8,iv (x0:Int)),(7,.vec 5000),(9,bv false)] [(0,.cells 25 (cRun r)),(5000,.vec 3 1 (whTo l f x0).length fun (k:Nat)=>[iv ((whTo l f x0).getD k 0)])] 10080) ⟨tv,tv⟩ ?_
  refine swp_seq (swp_seq ?_)
  refine sQ (kt:=[1,2,3,8,7,9,10]) (kh:=[0,5000]) (q:=True/\True) (st':=ASt.mk [(1,aIntss l),(2,iv (f:Int)),(3,.ptr 0 []),(8,iv (x0:Int)),(7,.vec 5000),(9,bv false),(10,iv 0)] [(0,.cells 25 (cRun r)),(5000,.vec 3 1 (whTo l f x0).length fun (k:Nat)=>[iv ((whTo l f x0).getD k 0)])] 10088) ⟨tv,tv⟩ ?_
  refine swp_block ?_
  refine swp_loopA (z91_1 r l f x0) (eQ hE [] [(0,.same 0),(5000,.same 5000)] [1,2,8] [0,5000] (((zT (aIntss l))/\(zT (iv (f:Int)))/\(zP 0)/\(zT (iv (x0:Int)))/\zE (some (Src.same 5000))/\(zN (iv 0) (iv (↑0:Int)))/\(zN (bv false) (bv (anyF l f x0 0)))/\True)/\((zT (OB.cells 25 (cRun r)))/\(zT (OB.vec 3 1 (whTo l f x0).length fun (k:Nat)=>[iv ((whTo l f x0).getD k 0)]))/\True)/\T2) ⟨⟨⟨rfl,rfl⟩,⟨rfl,rfl⟩,⟨rfl,rfl⟩,⟨rfl,rfl⟩,rfl,⟨(congrArg iv (o3 hp x0 hx0 h1)),rfl⟩,⟨(congrArg bv (o4 hp x0 hx0 h1)),rfl⟩,tv⟩,⟨⟨rfl,rfl⟩,⟨rfl,rfl⟩,tv⟩,rfl,rfl⟩) (o5 hp x0 hx0 h1) (fun (x2:Nat) hx2 => ?_)
  refine swp_seq (swp_seq ?_)
  refine sQ (kt:=[1,2,3,8,7,10,9,21]) (kh:=[0,5000]) (q:=tn 4) (st':=ASt.mk [(1,aIntss l),(2,iv (f:Int)),(3,.ptr 0 []),(8,iv (x0:Int)),(7,.vec 5000),(10,iv (x2:Int)),(9,bv (anyF l f x0 x2)),(21,bv (decide ((x2:Int) < (↑(l.length):Int))))] [(0,.cells 25 (cRun r)),(5000,.vec 3 1 (whTo l f x0).length fun (k:Nat)=>[iv ((whTo l f x0).getD k 0)])] 20120) (tp 4) ?_
  refine swp_cond (decide ((x2:Int) < (↑(l.length):Int))) (by kernel_rfl) (fun h3 => ?_) (fun h3 => ?_)
  ·refine swp_skip (swp_seq (swp_block ?_))
   refine sQ (kt:=[1,2,3,8,7,10,9]) (kh:=[0,5000]) (q:=True/\True/\((!anyF l f x0 x2)=true->(True/\True)/\True)/\((!anyF l f x0 x2)=true->(True/\True)/\True)/\((!anyF l f x0 x2)=true->(((!anyF l f x0 x2)=true->(!anyF l f x0 x2)=true)/\((!anyF l f x0 x2)=true->(!anyF l f x0 x2)=true)/\True)/\0<=(x2:Int)/\(x2:Int) < (↑(l.length):Int))/\((!anyF l f x0 x2)=true->(((!anyF l f x0 x2)=true->(!anyF l f x0 x2)=true)/\True)/\True)/\((!anyF l f x0 x2)=true->(True/\True)/\True)/\((!anyF l f x0 x2)=true->(((!anyF l f x0 x2)=true->(!anyF l f x0 x2)=true)/\((!anyF l f x0 x2)=true->(!anyF l f x0 x2)=true)/\True)/\0<=(f:Int)/\(f:Int) < (↑((l.getD x2 []).length):Int))/\((!anyF l f x0 x2)=true->(((!anyF l f x0 x2)=true->(!anyF l f x0 x2)=true)/\True)/\True)/\((!anyF l f x0 x2)=true->(True/\True)/\True)/\((!anyF l f x0 x2)=true->(((!anyF l f x0 x2)=true->(!anyF l f x0 x2)=true)/\((!anyF l f x0 x2)=true->(!anyF l f x0 x2)=true)/\True)/\True)/\((anyF l f x0 x2=true->True)/\(anyF l f x0 x2=false->(!anyF l f x0 x2)=true))/\True/\True) (st':=ASt.mk [(1,aIntss l),(2,iv (f:Int)),(3,.ptr 0 []),(8,iv (x0:Int)),(7,.vec 5000),(10,iv (x2:Int)),(9,bv (bif anyF l f x0 x2 then true else decide ((l.getD x2 []).getD f 0=(x0:Int))))] [(0,.cells 25 (cRun r)),(5000,.vec 3 1 (whTo l f x0).length fun (k:Nat)=>[iv ((whTo l f x0).getD k 0)])] 20224) ⟨tv,tv,(fun h4=>⟨⟨tv,tv⟩,tv⟩),(fun h5=>⟨⟨tv,tv⟩,tv⟩),(fun h6=>⟨⟨(fun h7=>h6),(fun h8=>h6),tv⟩,(o6 hp x0 hx0 h1 x2 hx2 h3 h6),(o7 hp x0 hx0 h1 x2 hx2 h3 h6)⟩),(fun h9=>⟨⟨(fun h10=>h9),tv⟩,tv⟩),(fun h11=>⟨⟨tv,tv⟩,tv⟩),(fun h12=>⟨⟨(fun h13=>h12),(fun h14=>h12),tv⟩,(o8 hp x0 hx0 h1 x2 hx2 h3 h12),(o9 hp x0 hx0 h1 x2 hx2 h3 h12)⟩),(fun h15=>⟨⟨(fun h16=>h15),tv⟩,tv⟩),(fun h17=>⟨⟨tv,tv⟩,tv⟩),(fun h18=>⟨⟨(fun h19=>h18),(fun h20=>h18),tv⟩,tv⟩),⟨(fun h21=>tv),(fun h22=>(o10 hp x0 hx0 h1 x2 hx2 h3 h22))⟩,tv,tv⟩ ?_
   refine sQ (kt:=[1,2,3,8,7,10,9]) (kh:=[0,5000]) (q:=True/\inI ((x2:Int) + 1)/\True/\True) (st':=ASt.mk [(1,aIntss l),(2,iv (f:Int)),(3,.ptr 0 []),(8,iv (x0:Int)),(7,.vec 5000),(10,iv ((x2:Int) + 1)),(9,bv (bif anyF l f x0 x2 then true else decide ((l.getD x2 []).getD f 0=(x0:Int))))] [(0,.cells 25 (cRun r)),(5000,.vec 3 1 (whTo l f x0).length fun (k:Nat)=>[iv ((whTo l f x0).getD k 0)])] 20248) ⟨tv,(o11 hp x0 hx0 h1 x2 hx2 h3),tv,tv⟩ ?_
   exact loop_next (z91_1 r l f x0) x2 (eQ hE [] [(0,.same 0),(5000,.same 5000)] [1,2,8] [0,5000] (((zT (aIntss l))/\(zT (iv (f:Int)))/\(zP 0)/\(zT (iv (x0:Int)))/\zE (some (Src.same 5000))/\(zN (iv ((x2:Int) + 1)) (iv (↑(x2 + 1):Int)))/\(zN (bv (bif anyF l f x0 x2 then true else decide ((l.getD x2 []).getD f 0=(x0:Int)))) (bv (anyF l f x0 (x2 + 1))))/\True)/\((zT (OB.cells 25 (cRun r)))/\(zT (OB.vec 3 1 (whTo l f x0).length fun (k:Nat)=>[iv ((whTo l f x0).getD k 0)]))/\True)/\T2) ⟨⟨⟨rfl,rfl⟩,⟨rfl,rfl⟩,⟨rfl,rfl⟩,⟨rfl,rfl⟩,rfl,⟨(congrArg iv (o12 hp x0 hx0 h1 x2 hx2 h3)),rfl⟩,⟨(congrArg bv (o13 hp x0 hx0 h1 x2 hx2 h3)),rfl⟩,tv⟩,⟨⟨rfl,rfl⟩,⟨rfl,rfl⟩,tv⟩,rfl,rfl⟩) (o14 hp x0 hx0 h1 x2 hx2 h3) (o15 hp x0 hx0 h1 x2 hx2 h3)
  ·refine swp_exit (swp_seq ?_)
   refine sQ (kt:=[1,2,3,8,7,36]) (kh:=[0,5000]) (q:=True/\True) (st':=ASt.mk [(1,aIntss l),(2,iv (f:Int)),(3,.ptr 0 []),(8,iv (x0:Int)),(7,.vec 5000),(36,bv (anyF l f x0 x2))] [(0,.cells 25 (cRun r)),(5000,.vec 3 1 (whTo l f x0).length fun (k:Nat)=>[iv ((whTo l f x0).getD k 0)])] 20128) ⟨tv,tv⟩ ?_
   refine swp_cond (anyF l f x0 x2) (by kernel_rfl) (fun h23 => ?_) (fun h23 => ?_)
   ·refine sQ (kt:=[1,2,3,8,7]) (kh:=[0,20152]) (q:=True/\True/\True/\(whTo l f x0).length + 1<=65536/\True/\True) (st':=ASt.mk [(1,aIntss l),(2,iv (f:Int)),(3,.ptr 0 []),(8,iv (x0:Int)),(7,.vec 20152)] [(0,.cells 25 (cRun r)),(20152,.vec 3 1 ((whTo l f x0).length + 1) (catF (whTo l f x0).length (fun (k:Nat)=>[iv ((whTo l f x0).getD k 0)]) fun (j:Nat)=>List.getD [[iv (x0:Int)]] j (TI.za ti3)))] 20168) ⟨tv,tv,tv,(o16 hp x0 hx0 h1 x2 hx2 h3 h23),tv,tv⟩ ?_
    refine sQ (kt:=[1,2,3,8,7]) (kh:=[0,20152]) (q:=True/\inI ((x0:Int) + 1)/\True/\True) (st':=ASt.mk [(1,aIntss l),(2,iv (f:Int)),(3,.ptr 0 []),(8,iv ((x0:Int) + 1)),(7,.vec 20152)] [(0,.cells 25 (cRun r)),(20152,.vec 3 1 ((whTo l f x0).length + 1) (catF (whTo l f x0).length (fun (k:Nat)=>[iv ((whTo l f x0).getD k 0)]) fun (j:Nat)=>List.getD [[iv (x0:Int)]] j (TI.za ti3)))] 20192) ⟨tv,(o17 hp x0 hx0 h1 x2 hx2 h3 h23),tv,tv⟩ ?_
    exact loop_next (z91_2 r l f) x0 (eQ hE [] [(0,.same 0),(5000,.same 20152)] [1,2] [0] (((zT (aIntss l))/\(zT (iv (f:Int)))/\(zP 0)/\(zN (iv ((x0:Int) + 1)) (iv (↑(x0 + 1):Int)))/\zE (some (Src.same 20152))/\True)/\((zT (OB.cells 25 (cRun r)))/\(3=3/\1=1/\(whTo l f x0).length + 1=(whTo l f (x0 + 1)).length /\ ∀ (i24:Nat),i24 < (whTo l f x0).length + 1->catF (whTo l f x0).length (fun (k:Nat)=>[iv ((whTo l f x0).getD k 0)]) (fun (j:Nat)=>List.getD [[iv (x0:Int)]] j (TI.za ti3)) i24 = [iv ((whTo l f (x0 + 1)).getD i24 0)])/\True)/\T2) ⟨⟨⟨rfl,rfl⟩,⟨rfl,rfl⟩,⟨rfl,rfl⟩,⟨(congrArg iv (o18 hp x0 hx0 h1 x2 hx2 h3 h23)),rfl⟩,rfl,tv⟩,⟨⟨rfl,rfl⟩,⟨rfl,rfl,(o19 hp x0 hx0 h1 x2 hx2 h3 h23),(fun i24=>(fun h25=>(o20 hp x0 hx0 h1 x2 hx2 h3 h23 i24 h25)))⟩,tv⟩,rfl,rfl⟩) (o21 hp x0 hx0 h1 x2 hx2 h3 h23) (o22 hp x0 hx0 h1 x2 hx2 h3 h23)
   ·refine swp_skip ?_
    refine sQ (kt:=[1,2,3,8,7]) (kh:=[0,5000]) (q:=True/\inI ((x0:Int) + 1)/\True/\True) (st':=ASt.mk [(1,aIntss l),(2,iv (f:Int)),(3,.ptr 0 []),(8,iv ((x0:Int) + 1)),(7,.vec 5000)] [(0,.cells 25 (cRun r)),(5000,.vec 3 1 (whTo l f x0).length fun (k:Nat)=>[iv ((whTo l f x0).getD k 0)])] 20152) ⟨tv,(o23 hp x0 hx0 h1 x2 hx2 h3 h23),tv,tv⟩ ?_
    exact loop_next (z91_2 r l f) x0 (eQ hE [] [(0,.same 0),(5000,.same 5000)] [1,2] [0] (((zT (aIntss l))/\(zT (iv (f:Int)))/\(zP 0)/\(zN (iv ((x0:Int) + 1)) (iv (↑(x0 + 1):Int)))/\zE (some (Src.same 5000))/\True)/\((zT (OB.cells 25 (cRun r)))/\(3=3/\1=1/\(whTo l f x0).length=(whTo l f (x0 + 1)).length /\ ∀ (i26:Nat),i26 < (whTo l f x0).length -> [iv ((whTo l f x0).getD i26 0)] = [iv ((whTo l f (x0 + 1)).getD i26 0)])/\True)/\T2) ⟨⟨⟨rfl,rfl⟩,⟨rfl,rfl⟩,⟨rfl,rfl⟩,⟨(congrArg iv (o24 hp x0 hx0 h1 x2 hx2 h3 h23)),rfl⟩,rfl,tv⟩,⟨⟨rfl,rfl⟩,⟨rfl,rfl,(o25 hp x0 hx0 h1 x2 hx2 h3 h23),(fun i26=>(fun h27=>(o26 hp x0 hx0 h1 x2 hx2 h3 h23 i26 h27)))⟩,tv⟩,rfl,rfl⟩) (o27 hp x0 hx0 h1 x2 hx2 h3 h23) (o28 hp x0 hx0 h1 x2 hx2 h3 h23)
 ·refine swp_exit (swp_seq ?_)
  refine sQ (kt:=[6]) (kh:=[5000]) (q:=tn 2) (st':=ASt.mk [(6,.vec 5000)] [(5000,.vec 3 1 (whTo l f x0).length fun (k:Nat)=>[iv ((whTo l f x0).getD k 0)])] 10088) (tp 2) ?_
  refine swp_ret ?_
  exact rQ [5000] ((True/\True)/\(1=1/\(whTo l f x0).length=(whereOf r l f).length /\ ∀ (i28:Nat),i28 < (whereOf r l f).length -> [iv ((whTo l f x0).getD i28 0)] = [iv ((whereOf r l f).getD i28 0)])/\T3) ⟨⟨tv,tv⟩,⟨rfl,(o29 hp x0 hx0 h1),(fun i28=>(fun h29=>(o30 hp x0 hx0 h1 i28 h29)))⟩,rfl,rfl,rfl⟩
theorem t91 (r:Run) (l:List (List Int)) (f:Nat):Triple Try.prog 91 (s91 r l f):=by
  apply w91
  all_goals (first
    | ((repeat intro _) <;> (try simp only [v0,v1,v2,v3,v4,v5,v6,v7,v8,v9,inI,fits,Go.Sh.small] at *) <;> first | (exact rfl) | omega | exact vz | (simp_all; done) | (simp_all; omega))
    | (intro hp m hm hml x hx hxl
       have:=hp.2.2 x
       have h7:=whTo_len l f m
       simp only [decide_eq_true_eq,decide_eq_false_iff_not] at hml hxl
       first
       | omega
       | ((repeat intro _); have:=hp.2.2 x (by omega); omega)
       | ((repeat intro _); simp only [inI]; omega)
       | (rw [anyF_succ (by omega)]; cases anyF l f m x <;> rfl)
       | (rw [show x=l.length by omega]
          intro e
          first
          | (rw [whTo_t e,List.length_append]; rfl)
          | (rw [whTo_f e]; done)
          | (intro i hi; rw [whTo_t e]; exact catF_one _ _ 0 (fun z=>[iv z]) rfl (fun _ _=>rfl) rfl hi)
          | (intro i hi; rw [whTo_f e])))
    | (intro hp m hm hml; rw [show m=r.machines.length by simp only [decide_eq_false_iff_not] at hml; omega]; first | rfl | ((repeat intro _); rfl)))
abbrev z109_1 (r:Run) (l:List Int) (p:Nat):LoopAnn:=Hint.ann (h109 r l p) [(1,aInts l),(2,iv (p:Int)),(3,AV.ptr 0 []),(6,AV.ptr 8 [])] [(0,OB.cells 25 (cRun r)),(8,OB.cells 37 [iv 0,iv 0])] 10032
abbrev q109_1 (r:Run) (l:List Int) (p:Nat) (C:Prop):Prop:=okRun r=true/\l.length<=r.found.length/\(p:Int) < r.plates->C
abbrev q109_2 (r:Run) (l:List Int) (p:Nat) (C:Nat->Prop):Prop:=q109_1 r l p (∀ (x0:Nat),x0<=r.machines.length->decide ((x0:Int) < (↑(r.machines.length):Int))=true->C x0)
theorem w109 (r:Run) (l:List Int) (p:Nat)
 (o0:q109_1 r l p (0=(↑0:Int)))
 (o1:q109_1 r l p (0=(sumTo r (fun (m:Nat)=>spanOf r l m p) 0).lo))
 (o2:q109_1 r l p (0=(sumTo r (fun (m:Nat)=>spanOf r l m p) 0).hi))
 (o3:q109_1 r l p (0<=r.machines.length))
 (o4:q109_2 r l p fun x0=>x0 < r.machines.length)
 (o5:q109_2 r l p fun x0=>(p:Int) < r.plates)
 (o6:q109_2 r l p fun x0=>l.length<=r.found.length)
 (o7:q109_2 r l p fun x0=>0<=(x0:Int))
 (o8:q109_2 r l p fun x0=>(x0:Int) < (↑(r.machines.length):Int))
 (o9:q109_2 r l p fun x0=>inI ((mach r x0).rate * (spanOf r l x0 p).lo))
 (o10:q109_2 r l p fun x0=>inI ((sumTo r (fun (m:Nat)=>spanOf r l m p) x0).lo + (mach r x0).rate * (spanOf r l x0 p).lo))
 (o11:q109_2 r l p fun x0=>0<=(x0:Int))
 (o12:q109_2 r l p fun x0=>(x0:Int) < (↑(r.machines.length):Int))
 (o13:q109_2 r l p fun x0=>inI ((mach r x0).rate * (spanOf r l x0 p).hi))
 (o14:q109_2 r l p fun x0=>inI ((sumTo r (fun (m:Nat)=>spanOf r l m p) x0).hi + (mach r x0).rate * (spanOf r l x0 p).hi))
 (o15:q109_2 r l p fun x0=>inI ((x0:Int) + 1))
 (o16:q109_2 r l p fun x0=>(x0:Int) + 1=(↑(x0 + 1):Int))
 (o17:q109_2 r l p fun x0=>(sumTo r (fun (m:Nat)=>spanOf r l m p) x0).lo + (mach r x0).rate * (spanOf r l x0 p).lo=(sumTo r (fun (m:Nat)=>spanOf r l m p) (x0 + 1)).lo)
 (o18:q109_2 r l p fun x0=>(sumTo r (fun (m:Nat)=>spanOf r l m p) x0).hi + (mach r x0).rate * (spanOf r l x0 p).hi=(sumTo r (fun (m:Nat)=>spanOf r l m p) (x0 + 1)).hi)
 (o19:q109_2 r l p fun x0=>x0 + 1<=r.machines.length)
 (o20:q109_2 r l p fun x0=>r.machines.length - (x0 + 1) < r.machines.length - x0)
 (o21:q109_1 r l p (∀ (x0:Nat),x0<=r.machines.length->decide ((x0:Int) < (↑(r.machines.length):Int))=false->(sumTo r (fun (m:Nat)=>spanOf r l m p) x0).lo=(oldL r p l).lo))
 (o22:q109_1 r l p (∀ (x0:Nat),x0<=r.machines.length->decide ((x0:Int) < (↑(r.machines.length):Int))=false->(sumTo r (fun (m:Nat)=>spanOf r l m p) x0).hi=(oldL r p l).hi)) :
  Triple Try.prog 109 (s109 r l p):=by
 refine triple_of Try.func109 rfl Try.call109 T0_ok _ rfl rfl rfl rfl (Nat.le_of_ble_eq_true (by kernel_rfl)) (fun _ _ _ _ h=>h) ?_
 intro hp C hC _ hE
 obtain ⟨P,w0,E0,av,hA⟩:=C
 subst hC
 refine swp_seq ?_
 refine sQ (kt:=[1,2,3,6]) (kh:=[0,8]) (q:=tn 2) (st':=ASt.mk [(1,aInts l),(2,iv (p:Int)),(3,.ptr 0 []),(6,.ptr 8 [])] [(0,.cells 25 (cRun r)),(8,.cells 37 [iv 0,iv 0])] 16) (tp 2) ?_
 refine swp_seq ?_
 refine sQ (kt:=[1,2,3,6,7]) (kh:=[0,8,16]) (q:=True/\True) (st':=ASt.mk [(1,aInts l),(2,iv (p:Int)),(3,.ptr 0 []),(6,.ptr 8 []),(7,.ptr 16 [])] [(0,.cells 25 (cRun r)),(8,.cells 37 [iv 0,iv 0]),(16,.cells 37 [iv 0,iv 0])] 24) ⟨tv,tv⟩ ?_
 refine swp_seq (swp_seq ?_)
 refine sQ (kt:=[1,2,3,6,7,8]) (kh:=[0,8,16]) (q:=True/\True) (st':=ASt.mk [(1,aInts l),(2,iv (p:Int)),(3,.ptr 0 []),(6,.ptr 8 []),(7,.ptr 16 []),(8,iv 0)] [(0,.cells 25 (cRun r)),(8,.cells 37 [iv 0,iv 0]),(16,.cells 37 [iv 0,iv 0])] 32) ⟨tv,tv⟩ ?_
 refine swp_block ?_
 refine swp_loopA (z109_1 r l p) (eQ hE [] [(0,.same 0),(8,.same 8),(5000,.same 16)] [1,2] [0,8] (((zT (aInts l))/\(zT (iv (p:Int)))/\(zP 0)/\(zP 8)/\(zN (iv 0) (iv (↑0:Int)))/\(zP 16)/\True)/\((zT (OB.cells 25 (cRun r)))/\(zT (OB.cells 37 [iv 0,iv 0]))/\(37=37/\((zN (iv 0) (iv (sumTo r (fun (m:Nat)=>spanOf r l m p) 0).lo))/\(zN (iv 0) (iv (sumTo r (fun (m:Nat)=>spanOf r l m p) 0).hi))/\True)/\true=true)/\True)/\T2) ⟨⟨⟨rfl,rfl⟩,⟨rfl,rfl⟩,⟨rfl,rfl⟩,⟨rfl,rfl⟩,⟨(congrArg iv (o0 hp)),rfl⟩,⟨rfl,rfl⟩,tv⟩,⟨⟨rfl,rfl⟩,⟨rfl,rfl⟩,⟨rfl,⟨⟨(congrArg iv (o1 hp)),rfl⟩,⟨(congrArg iv (o2 hp)),rfl⟩,tv⟩,rfl⟩,tv⟩,rfl,rfl⟩) (o3 hp) (fun (x0:Nat) hx0 => ?_)
 refine swp_seq (swp_seq ?_)
 refine sQ (kt:=[1,2,3,6,8,7,14]) (kh:=[0,8,5000]) (q:=tn 5) (st':=ASt.mk [(1,aInts l),(2,iv (p:Int)),(3,.ptr 0 []),(6,.ptr 8 []),(8,iv (x0:Int)),(7,.ptr 5000 []),(14,bv (decide ((x0:Int) < (↑(r.machines.length):Int))))] [(0,.cells 25 (cRun r)),(8,.cells 37 [iv 0,iv 0]),(5000,.cells 37 (cSpan (sumTo r (fun (m:Nat)=>spanOf r l m p) x0)))] 10072) (tp 5) ?_
 refine swp_cond (decide ((x0:Int) < (↑(r.machines.length):Int))) (by kernel_rfl) (fun h1 => ?_) (fun h1 => ?_)
 ·refine swp_skip (swp_seq (swp_block (swp_seq ?_)))
  refine sC (cs:=[(4,CallSpec.eq (c109 r l p x0) [true,true,true,true])]) (kt:=[1,2,3,6,8,7,9]) (kh:=[0,8,5000,10112]) (q:=True/\True/\True/\True/\((zE (AV.agg (cRun r))/\zE (aInts l)/\zE (iv (x0:Int))/\zE (iv (p:Int))/\True)/\Triple Try.prog 88 (c109 r l p x0)/\(okRun r=true/\x0 < r.machines.length/\(p:Int) < r.plates/\l.length<=r.found.length)/\True /\ ∀ (i2:Env),True)/\tn 2) (st':=ASt.mk [(1,aInts l),(2,iv (p:Int)),(3,.ptr 0 []),(6,.ptr 8 []),(8,iv (x0:Int)),(7,.ptr 5000 []),(9,.ptr 10112 [])] [(0,.cells 25 (cRun r)),(8,.cells 37 [iv 0,iv 0]),(5000,.cells 37 (cSpan (sumTo r (fun (m:Nat)=>spanOf r l m p) x0))),(10112,.cells 37 (cSpan (spanOf r l x0 p)))] 10128) ⟨tv,tv,tv,tv,⟨⟨rfl,rfl,rfl,rfl,tv⟩,(t88 _ _ _ _),⟨hp.1,(o4 hp x0 hx0 h1),(o5 hp x0 hx0 h1),(o6 hp x0 hx0 h1)⟩,tv,(fun i2=>tv)⟩,tp 2⟩ ?_
  refine sQ (kt:=[1,2,3,6,8,7]) (kh:=[0,8,5000]) (q:=True/\True/\True/\True/\True/\(0<=(x0:Int)/\(x0:Int) < (↑(r.machines.length):Int))/\True/\True/\True/\True/\inI ((mach r x0).rate * (spanOf r l x0 p).lo)/\inI ((sumTo r (fun (m:Nat)=>spanOf r l m p) x0).lo + (mach r x0).rate * (spanOf r l x0 p).lo)/\True/\True/\True/\True/\True/\(0<=(x0:Int)/\(x0:Int) < (↑(r.machines.length):Int))/\True/\True/\True/\True/\inI ((mach r x0).rate * (spanOf r l x0 p).hi)/\inI ((sumTo r (fun (m:Nat)=>spanOf r l m p) x0).hi + (mach r x0).rate * (spanOf r l x0 p).hi)/\tn 2) (st':=ASt.mk [(1,aInts l),(2,iv (p:Int)),(3,.ptr 0 []),(6,.ptr 8 []),(8,iv (x0:Int)),(7,.ptr 5000 [])] [(0,.cells 25 (cRun r)),(8,.cells 37 [iv 0,iv 0]),(5000,.cells 37 [iv ((sumTo r (fun (m:Nat)=>spanOf r l m p) x0).lo + (mach r x0).rate * (spanOf r l x0 p).lo),iv ((sumTo r (fun (m:Nat)=>spanOf r l m p) x0).hi + (mach r x0).rate * (spanOf r l x0 p).hi)])] 10336) ⟨tv,tv,tv,tv,tv,⟨(o7 hp x0 hx0 h1),(o8 hp x0 hx0 h1)⟩,tv,tv,tv,tv,(o9 hp x0 hx0 h1),(o10 hp x0 hx0 h1),tv,tv,tv,tv,tv,⟨(o11 hp x0 hx0 h1),(o12 hp x0 hx0 h1)⟩,tv,tv,tv,tv,(o13 hp x0 hx0 h1),(o14 hp x0 hx0 h1),tp 2⟩ ?_
  refine sQ (kt:=[1,2,3,6,8,7]) (kh:=[0,8,5000]) (q:=True/\inI ((x0:Int) + 1)/\True/\True) (st':=ASt.mk [(1,aInts l),(2,iv (p:Int)),(3,.ptr 0 []),(6,.ptr 8 []),(8,iv ((x0:Int) + 1)),(7,.ptr 5000 [])] [(0,.cells 25 (cRun r)),(8,.cells 37 [iv 0,iv 0]),(5000,.cells 37 [iv ((sumTo r (fun (m:Nat)=>spanOf r l m p) x0).lo + (mach r x0).rate * (spanOf r l x0 p).lo),iv ((sumTo r (fun (m:Nat)=>spanOf r l m p) x0).hi + (mach r x0).rate * (spanOf r l x0 p).hi)])] 10360) ⟨tv,(o15 hp x0 hx0 h1),tv,tv⟩ ?_
  exact loop_next (z109_1 r l p) x0 (eQ hE [] [(0,.same 0),(8,.same 8),(5000,.same 5000)] [1,2] [0,8] (((zT (aInts l))/\(zT (iv (p:Int)))/\(zP 0)/\(zP 8)/\(zN (iv ((x0:Int) + 1)) (iv (↑(x0 + 1):Int)))/\(zP 5000)/\True)/\((zT (OB.cells 25 (cRun r)))/\(zT (OB.cells 37 [iv 0,iv 0]))/\(37=37/\((zN (iv ((sumTo r (fun (m:Nat)=>spanOf r l m p) x0).lo + (mach r x0).rate * (spanOf r l x0 p).lo)) (iv (sumTo r (fun (m:Nat)=>spanOf r l m p) (x0 + 1)).lo))/\(zN (iv ((sumTo r (fun (m:Nat)=>spanOf r l m p) x0).hi + (mach r x0).rate * (spanOf r l x0 p).hi)) (iv (sumTo r (fun (m:Nat)=>spanOf r l m p) (x0 + 1)).hi))/\True)/\true=true)/\True)/\T2) ⟨⟨⟨rfl,rfl⟩,⟨rfl,rfl⟩,⟨rfl,rfl⟩,⟨rfl,rfl⟩,⟨(congrArg iv (o16 hp x0 hx0 h1)),rfl⟩,⟨rfl,rfl⟩,tv⟩,⟨⟨rfl,rfl⟩,⟨rfl,rfl⟩,⟨rfl,⟨⟨(congrArg iv (o17 hp x0 hx0 h1)),rfl⟩,⟨(congrArg iv (o18 hp x0 hx0 h1)),rfl⟩,tv⟩,rfl⟩,tv⟩,rfl,rfl⟩) (o19 hp x0 hx0 h1) (o20 hp x0 hx0 h1)
 ·refine swp_exit (swp_seq ?_)
  refine sQ (kt:=[6]) (kh:=[8]) (q:=tn 2) (st':=ASt.mk [(6,.ptr 8 [])] [(8,.cells 37 (cSpan (sumTo r (fun (m:Nat)=>spanOf r l m p) x0)))] 10088) (tp 2) ?_
  refine swp_ret ?_
  exact rQ [] ((True/\True)/\((zN (iv (sumTo r (fun (m:Nat)=>spanOf r l m p) x0).lo) (iv (oldL r p l).lo))/\(zN (iv (sumTo r (fun (m:Nat)=>spanOf r l m p) x0).hi) (iv (oldL r p l).hi))/\True)/\T3) ⟨⟨tv,tv⟩,⟨⟨(congrArg iv (o21 hp x0 hx0 h1)),rfl⟩,⟨(congrArg iv (o22 hp x0 hx0 h1)),rfl⟩,tv⟩,rfl,rfl,rfl⟩
theorem t109 (r:Run) (l:List Int) (p:Nat):Triple Try.prog 109 (s109 r l p):=by
  apply w109
  all_goals (first
    | ((repeat intro _) <;> (try simp only [v0,v1,v2,v3,v4,v5,v6,v7,v8,v9,inI,fits,Go.Sh.small] at *) <;> first | (exact rfl) | omega | exact vz | (simp_all; done) | (simp_all; omega))
    | ((repeat intro _); rw [sumTo_succ]; done)
    | (intro hp x hx hl; rw [show x=r.machines.length by simp only [decide_eq_false_iff_not] at hl; omega] <;> rfl)
    | (intro hp x hx hl
       have ok:=ok_of hp.1
       simp only [decide_eq_true_eq] at hl
       have h1:=spanOf_b ok l x p
       have h2:=sumTo_b (rb_of ok) (f:=fun m=>spanOf r l m p) (fun m=>spanOf_b ok l m p) x (by omega)
       have h3:=(rb_of ok).2 x (by omega)
       have h4:=rate_mul h3 ⟨h1.1,h1.2.1⟩
       have h5:=rate_mul h3 ⟨h1.2.2.1,h1.2.2.2⟩
       have h6:=ok.machines
       have h7:=ok.plates
       try simp only [inI]
       omega)
    | skip)
abbrev z66_1 (r:Run) (p:Int):LoopAnn:=Hint.ann (h66 r p) [(1,iv p),(2,AV.ptr 0 []),(4,AV.ptr 8 []),(6,aIntss (rfL r (isPlate r p)))] [(0,OB.cells 25 (cRun r)),(8,OB.cells 37 [iv 0,iv 0])] 10192
abbrev q66_1 (r:Run) (p:Int) (C:Prop):Prop:=fits r->(!decide (rfE r (isPlate r p)=0))=false->C
abbrev q66_2 (r:Run) (p:Int) (C:Nat->Prop):Prop:=q66_1 r p (∀ (x4:Nat),x4<=(rfL r (isPlate r p)).length->decide ((x4:Int) < (↑((rfL r (isPlate r p)).length):Int))=true->C x4)
abbrev q66_3 (r:Run) (p:Int) (C:Nat->Prop):Prop:=q66_1 r p (∀ (x4:Nat),x4<=(rfL r (isPlate r p)).length->decide ((x4:Int) < (↑((rfL r (isPlate r p)).length):Int))=false->C x4)
theorem w66 (r:Run) (p:Int)
 (o0:fits r->(!decide (rfE r (isPlate r p)=0))->0=(oldR r p).lo)
 (o1:fits r->(!decide (rfE r (isPlate r p)=0))->0=(oldR r p).hi)
 (o2:q66_1 r p (0 < (↑((rfL r (isPlate r p)).length):Int)))
 (o3:q66_1 r p (p=(↑(p.toNat):Int)))
 (o4:q66_1 r p (okRun r=true))
 (o5:q66_1 r p (((rfL r (isPlate r p)).getD 0 []).length<=r.found.length))
 (o6:q66_1 r p ((↑(p.toNat):Int) < r.plates))
 (o7:q66_1 r p (0=(↑0:Int)))
 (o8:q66_1 r p ((oldL r p.toNat ((rfL r (isPlate r p)).getD 0 [])).lo=(rhullTo (rfL r (isPlate r p)) (oldL r p.toNat) 0).lo))
 (o9:q66_1 r p ((oldL r p.toNat ((rfL r (isPlate r p)).getD 0 [])).hi=(rhullTo (rfL r (isPlate r p)) (oldL r p.toNat) 0).hi))
 (o10:q66_1 r p (0<=(rfL r (isPlate r p)).length))
 (o11:q66_2 r p fun x4=>0<=(x4:Int))
 (o12:q66_2 r p fun x4=>(x4:Int) < (↑((rfL r (isPlate r p)).length):Int))
 (o13:q66_2 r p fun x4=>p=(↑(p.toNat):Int))
 (o14:q66_2 r p fun x4=>okRun r=true)
 (o15:q66_2 r p fun x4=>((rfL r (isPlate r p)).getD x4 []).length<=r.found.length)
 (o16:q66_2 r p fun x4=>(↑(p.toNat):Int) < r.plates)
 (o17:q66_2 r p fun x4=>inI ((x4:Int) + 1))
 (o18:q66_2 r p fun x4=>(x4:Int) + 1=(↑(x4 + 1):Int))
 (o19:q66_2 r p fun x4=>(hull2 (rhullTo (rfL r (isPlate r p)) (oldL r p.toNat) x4) (oldL r p.toNat ((rfL r (isPlate r p)).getD x4 []))).lo=(rhullTo (rfL r (isPlate r p)) (oldL r p.toNat) (x4 + 1)).lo)
 (o20:q66_2 r p fun x4=>(hull2 (rhullTo (rfL r (isPlate r p)) (oldL r p.toNat) x4) (oldL r p.toNat ((rfL r (isPlate r p)).getD x4 []))).hi=(rhullTo (rfL r (isPlate r p)) (oldL r p.toNat) (x4 + 1)).hi)
 (o21:q66_2 r p fun x4=>x4 + 1<=(rfL r (isPlate r p)).length)
 (o22:q66_2 r p fun x4=>(rfL r (isPlate r p)).length - (x4 + 1) < (rfL r (isPlate r p)).length - x4)
 (o23:q66_3 r p fun x4=>(rhullTo (rfL r (isPlate r p)) (oldL r p.toNat) x4).lo=(oldR r p).lo)
 (o24:q66_3 r p fun x4=>(rhullTo (rfL r (isPlate r p)) (oldL r p.toNat) x4).hi=(oldR r p).hi)
 (o25:q66_3 r p fun x4=>0=rfE r (isPlate r p)) :
  Triple Try.prog 66 (s66 r p):=by
 refine triple_of Try.func66 rfl Try.call66 T0_ok _ rfl rfl rfl rfl (Nat.le_of_ble_eq_true (by kernel_rfl)) (fun _ _ _ _ h=>h) ?_
 intro hp C hC _ hE
 obtain ⟨P,w0,E0,av,hA⟩:=C
 subst hC
 refine swp_seq ?_
 refine sQ (kt:=[1,2,4]) (kh:=[0,8]) (q:=tn 3) (st':=ASt.mk [(1,iv p),(2,.ptr 0 []),(4,.ptr 8 [])] [(0,.cells 25 (cRun r)),(8,.cells 37 [iv 0,iv 0])] 24) (tp 3) ?_
 refine swp_seq ?_
 refine sC (cs:=[(3,CallSpec.eq (s25 r p) [true,true]),(4,CallSpec.eq (c66o r p) [true,true])]) (kt:=[1,2,4,6,7]) (kh:=[0,8]) (q:=True/\True/\True/\((zE (AV.agg (cRun r))/\iv p=iv p/\True)/\Triple Try.prog 25 (s25 r p)/\fits r/\True /\ ∀ (i0:Env),True)/\((zE (AV.agg (cRun r))/\zE (bv (isPlate r p))/\True)/\Triple Try.prog 87 (c66o r p)/\fits r/\True /\ ∀ (i1:Env),True)/\tn 5) (st':=ASt.mk [(1,iv p),(2,.ptr 0 []),(4,.ptr 8 []),(6,aIntss (rfL r (isPlate r p))),(7,iv (rfE r (isPlate r p)))] [(0,.cells 25 (cRun r)),(8,.cells 37 [iv 0,iv 0])] 104) ⟨tv,tv,tv,⟨⟨rfl,rfl,tv⟩,(t25 (r) (p)),hp,tv,(fun i0=>tv)⟩,⟨⟨rfl,rfl,tv⟩,(t87 _ _),hp,tv,(fun i1=>tv)⟩,tp 5⟩ ?_
 refine swp_seq (swp_seq ?_)
 refine sQ (kt:=[1,2,4,6,7,19]) (kh:=[0,8]) (q:=tn 2) (st':=ASt.mk [(1,iv p),(2,.ptr 0 []),(4,.ptr 8 []),(6,aIntss (rfL r (isPlate r p))),(7,iv (rfE r (isPlate r p))),(19,bv !decide (rfE r (isPlate r p)=0))] [(0,.cells 25 (cRun r)),(8,.cells 37 [iv 0,iv 0])] 120) (tp 2) ?_
 refine swp_cond (!decide (rfE r (isPlate r p)=0)) (by kernel_rfl) (fun h2 => ?_) (fun h2 => ?_)
 ·refine swp_seq ?_
  refine sQ (kt:=[4,5]) (kh:=[8]) (q:=tn 4) (st':=ASt.mk [(4,.ptr 8 []),(5,iv (rfE r (isPlate r p)))] [(8,.cells 37 [iv 0,iv 0])] 152) (tp 4) ?_
  refine swp_ret ?_
  exact rQ [] ((True/\True/\True)/\(((zN (iv 0) (iv (oldR r p).lo))/\(zN (iv 0) (iv (oldR r p).hi))/\True)/\(zM (iv (rfE r (isPlate r p))))/\True)/\T3) ⟨⟨tv,tv,tv⟩,⟨⟨⟨(congrArg iv (o0 hp h2)),rfl⟩,⟨(congrArg iv (o1 hp h2)),rfl⟩,tv⟩,⟨rfl,rfl⟩,tv⟩,rfl,rfl,rfl⟩
 ·refine swp_skip (swp_seq ?_)
  refine sC (cs:=[(5,CallSpec.eq (c66a r p) [true,true,false])]) (kt:=[1,2,4,6,8]) (kh:=[0,8,168]) (q:=True/\True/\(Int.ofNat 0<=Int.ofNat 0/\0 < (↑((rfL r (isPlate r p)).length):Int))/\True/\True/\((zE (AV.agg (cRun r))/\zE (aInts ((rfL r (isPlate r p)).getD 0 []))/\iv p=iv (↑(p.toNat):Int)/\True)/\Triple Try.prog 109 (c66a r p)/\(okRun r=true/\((rfL r (isPlate r p)).getD 0 []).length<=r.found.length/\(↑(p.toNat):Int) < r.plates)/\True /\ ∀ (i3:Env),True)/\tn 2) (st':=ASt.mk [(1,iv p),(2,.ptr 0 []),(4,.ptr 8 []),(6,aIntss (rfL r (isPlate r p))),(8,.ptr 168 [])] [(0,.cells 25 (cRun r)),(8,.cells 37 [iv 0,iv 0]),(168,.cells 37 (cSpan (oldL r p.toNat ((rfL r (isPlate r p)).getD 0 []))))] 184) ⟨tv,tv,⟨(by decide),(o2 hp h2)⟩,tv,tv,⟨⟨rfl,rfl,(congrArg iv (o3 hp h2)),tv⟩,(t109 _ _ _),⟨(o4 hp h2),(o5 hp h2),(o6 hp h2)⟩,tv,(fun i3=>tv)⟩,tp 2⟩ ?_
  refine swp_seq (swp_seq ?_)
  refine sQ (kt:=[1,2,4,6,8,9]) (kh:=[0,8,168]) (q:=True/\True) (st':=ASt.mk [(1,iv p),(2,.ptr 0 []),(4,.ptr 8 []),(6,aIntss (rfL r (isPlate r p))),(8,.ptr 168 []),(9,iv 0)] [(0,.cells 25 (cRun r)),(8,.cells 37 [iv 0,iv 0]),(168,.cells 37 (cSpan (oldL r p.toNat ((rfL r (isPlate r p)).getD 0 []))))] 192) ⟨tv,tv⟩ ?_
  refine swp_block ?_
  refine swp_loopA (z66_1 r p) (eQ hE [] [(0,.same 0),(8,.same 8),(5000,.same 168)] [1,6] [0,8] (((zT (iv p))/\(zP 0)/\(zP 8)/\(zT (aIntss (rfL r (isPlate r p))))/\(zN (iv 0) (iv (↑0:Int)))/\(zP 168)/\True)/\((zT (OB.cells 25 (cRun r)))/\(zT (OB.cells 37 [iv 0,iv 0]))/\(37=37/\((zN (iv (oldL r p.toNat ((rfL r (isPlate r p)).getD 0 [])).lo) (iv (rhullTo (rfL r (isPlate r p)) (oldL r p.toNat) 0).lo))/\(zN (iv (oldL r p.toNat ((rfL r (isPlate r p)).getD 0 [])).hi) (iv (rhullTo (rfL r (isPlate r p)) (oldL r p.toNat) 0).hi))/\True)/\true=true)/\True)/\T2) ⟨⟨⟨rfl,rfl⟩,⟨rfl,rfl⟩,⟨rfl,rfl⟩,⟨rfl,rfl⟩,⟨(congrArg iv (o7 hp h2)),rfl⟩,⟨rfl,rfl⟩,tv⟩,⟨⟨rfl,rfl⟩,⟨rfl,rfl⟩,⟨rfl,⟨⟨(congrArg iv (o8 hp h2)),rfl⟩,⟨(congrArg iv (o9 hp h2)),rfl⟩,tv⟩,rfl⟩,tv⟩,rfl,rfl⟩) (o10 hp h2) (fun (x4:Nat) hx4 => ?_)
  refine swp_seq (swp_seq ?_)
  refine sQ (kt:=[1,2,4,6,9,8,31]) (kh:=[0,8,5000]) (q:=tn 4) (st':=ASt.mk [(1,iv p),(2,.ptr 0 []),(4,.ptr 8 []),(6,aIntss (rfL r (isPlate r p))),(9,iv (x4:Int)),(8,.ptr 5000 []),(31,bv (decide ((x4:Int) < (↑((rfL r (isPlate r p)).length):Int))))] [(0,.cells 25 (cRun r)),(8,.cells 37 [iv 0,iv 0]),(5000,.cells 37 (cSpan (rhullTo (rfL r (isPlate r p)) (oldL r p.toNat) x4)))] 10224) (tp 4) ?_
  refine swp_cond (decide ((x4:Int) < (↑((rfL r (isPlate r p)).length):Int))) (by kernel_rfl) (fun h5 => ?_) (fun h5 => ?_)
  ·refine swp_skip (swp_seq (swp_block ?_))
   refine sC (cs:=[(7,CallSpec.eq (c66b r p x4) [true,true,false]),(8,CallSpec.eq (s89 (rhullTo (rfL r (isPlate r p)) (oldL r p.toNat) x4) (oldL r p.toNat ((rfL r (isPlate r p)).getD x4 []))) [true,true])]) (kt:=[1,2,4,6,9,8]) (kh:=[0,8,5000]) (q:=True/\True/\True/\True/\(0<=(x4:Int)/\(x4:Int) < (↑((rfL r (isPlate r p)).length):Int))/\True/\True/\((zE (AV.agg (cRun r))/\zE (aInts ((rfL r (isPlate r p)).getD x4 []))/\iv p=iv (↑(p.toNat):Int)/\True)/\Triple Try.prog 109 (c66b r p x4)/\(okRun r=true/\((rfL r (isPlate r p)).getD x4 []).length<=r.found.length/\(↑(p.toNat):Int) < r.plates)/\True /\ ∀ (i6:Env),True)/\((zE (AV.agg (cSpan (rhullTo (rfL r (isPlate r p)) (oldL r p.toNat) x4)))/\zE (AV.agg (cSpan (oldL r p.toNat ((rfL r (isPlate r p)).getD x4 []))))/\True)/\Triple Try.prog 89 (s89 (rhullTo (rfL r (isPlate r p)) (oldL r p.toNat) x4) (oldL r p.toNat ((rfL r (isPlate r p)).getD x4 [])))/\True/\True /\ ∀ (i7:Env),True)/\True/\True) (st':=ASt.mk [(1,iv p),(2,.ptr 0 []),(4,.ptr 8 []),(6,aIntss (rfL r (isPlate r p))),(9,iv (x4:Int)),(8,.ptr 5000 [])] [(0,.cells 25 (cRun r)),(8,.cells 37 [iv 0,iv 0]),(5000,.cells 37 (cSpan (hull2 (rhullTo (rfL r (isPlate r p)) (oldL r p.toNat) x4) (oldL r p.toNat ((rfL r (isPlate r p)).getD x4 [])))))] 10304) ⟨tv,tv,tv,tv,⟨(o11 hp h2 x4 hx4 h5),(o12 hp h2 x4 hx4 h5)⟩,tv,tv,⟨⟨rfl,rfl,(congrArg iv (o13 hp h2 x4 hx4 h5)),tv⟩,(t109 _ _ _),⟨(o14 hp h2 x4 hx4 h5),(o15 hp h2 x4 hx4 h5),(o16 hp h2 x4 hx4 h5)⟩,tv,(fun i6=>tv)⟩,⟨⟨rfl,rfl,tv⟩,(t89 (rhullTo (rfL r (isPlate r p)) (oldL r p.toNat) x4) (oldL r p.toNat ((rfL r (isPlate r p)).getD x4 []))),tv,tv,(fun i7=>tv)⟩,tv,tv⟩ ?_
   refine sQ (kt:=[1,2,4,6,9,8]) (kh:=[0,8,5000]) (q:=True/\inI ((x4:Int) + 1)/\True/\True) (st':=ASt.mk [(1,iv p),(2,.ptr 0 []),(4,.ptr 8 []),(6,aIntss (rfL r (isPlate r p))),(9,iv ((x4:Int) + 1)),(8,.ptr 5000 [])] [(0,.cells 25 (cRun r)),(8,.cells 37 [iv 0,iv 0]),(5000,.cells 37 (cSpan (hull2 (rhullTo (rfL r (isPlate r p)) (oldL r p.toNat) x4) (oldL r p.toNat ((rfL r (isPlate r p)).getD x4 [])))))] 10328) ⟨tv,(o17 hp h2 x4 hx4 h5),tv,tv⟩ ?_
   exact loop_next (z66_1 r p) x4 (eQ hE [] [(0,.same 0),(8,.same 8),(5000,.same 5000)] [1,6] [0,8] (((zT (iv p))/\(zP 0)/\(zP 8)/\(zT (aIntss (rfL r (isPlate r p))))/\(zN (iv ((x4:Int) + 1)) (iv (↑(x4 + 1):Int)))/\(zP 5000)/\True)/\((zT (OB.cells 25 (cRun r)))/\(zT (OB.cells 37 [iv 0,iv 0]))/\(37=37/\((zN (iv (hull2 (rhullTo (rfL r (isPlate r p)) (oldL r p.toNat) x4) (oldL r p.toNat ((rfL r (isPlate r p)).getD x4 []))).lo) (iv (rhullTo (rfL r (isPlate r p)) (oldL r p.toNat) (x4 + 1)).lo))/\(zN (iv (hull2 (rhullTo (rfL r (isPlate r p)) (oldL r p.toNat) x4) (oldL r p.toNat ((rfL r (isPlate r p)).getD x4 []))).hi) (iv (rhullTo (rfL r (isPlate r p)) (oldL r p.toNat) (x4 + 1)).hi))/\True)/\true=true)/\True)/\T2) ⟨⟨⟨rfl,rfl⟩,⟨rfl,rfl⟩,⟨rfl,rfl⟩,⟨rfl,rfl⟩,⟨(congrArg iv (o18 hp h2 x4 hx4 h5)),rfl⟩,⟨rfl,rfl⟩,tv⟩,⟨⟨rfl,rfl⟩,⟨rfl,rfl⟩,⟨rfl,⟨⟨(congrArg iv (o19 hp h2 x4 hx4 h5)),rfl⟩,⟨(congrArg iv (o20 hp h2 x4 hx4 h5)),rfl⟩,tv⟩,rfl⟩,tv⟩,rfl,rfl⟩) (o21 hp h2 x4 hx4 h5) (o22 hp h2 x4 hx4 h5)
  ·refine swp_exit (swp_seq ?_)
   refine sQ (kt:=[4,5]) (kh:=[8]) (q:=tn 3) (st':=ASt.mk [(4,.ptr 8 []),(5,iv 0)] [(8,.cells 37 (cSpan (rhullTo (rfL r (isPlate r p)) (oldL r p.toNat) x4)))] 10248) (tp 3) ?_
   refine swp_ret ?_
   exact rQ [] ((True/\True/\True)/\(((zN (iv (rhullTo (rfL r (isPlate r p)) (oldL r p.toNat) x4).lo) (iv (oldR r p).lo))/\(zN (iv (rhullTo (rfL r (isPlate r p)) (oldL r p.toNat) x4).hi) (iv (oldR r p).hi))/\True)/\(zN (iv 0) (iv (rfE r (isPlate r p))))/\True)/\T3) ⟨⟨tv,tv,tv⟩,⟨⟨⟨(congrArg iv (o23 hp h2 x4 hx4 h5)),rfl⟩,⟨(congrArg iv (o24 hp h2 x4 hx4 h5)),rfl⟩,tv⟩,⟨(congrArg iv (o25 hp h2 x4 hx4 h5)),rfl⟩,tv⟩,rfl,rfl,rfl⟩
theorem t66 (r:Run) (p:Int):Triple Try.prog 66 (s66 r p):=by
  apply w66
  all_goals (first
    | (intro _ h; rw [oldR,if_neg (knowBad h)]; done)
    | ((repeat intro _) <;> (try simp only [v0,v1,v2,v3,v4,v5,v6,v7,v8,v9,inI,fits,Go.Sh.small] at *) <;> first | (exact rfl) | omega | exact vz | (simp_all; done) | (simp_all; omega))
    | (intro _ h
       have F:=knowF h
       have hw:=plateIs_ok F.ok F.isT
       have h1:=F.pos
       have h2:=F.len
       first
       | exact F.zero.symm
       | exact F.okb
       | omega
       | (rw [F.frm 0 F.pos]; exact Nat.le_refl _)
       | rfl
       | (intro x hx hl
          simp only [decide_eq_true_eq,decide_eq_false_iff_not] at hl
          first
          | exact F.zero.symm
          | exact F.okb
          | omega
          | (rw [F.frm x (by omega)]; exact Nat.le_refl _)
          | (simp only [inI]; omega)
          | (rw [rhullTo_succ]; done)
          | (rw [oldR,if_pos F.zero,← F.eq,show x=(rfL r (isPlate r p)).length by omega] <;> rfl)))
    | skip)
abbrev z110_1 (r:Run) (l:List Int) (m:Nat) (x0:Nat):LoopAnn:=Hint.ann (h110b r l m x0) [(1,aInts l),(2,iv (m:Int)),(3,AV.ptr 0 []),(6,AV.ptr 8 []),(8,iv (x0:Int))] [(0,OB.cells 25 (cRun r)),(8,OB.cells 37 [iv 0,iv 0])] 20072
abbrev z110_2 (r:Run) (l:List Int) (m:Nat):LoopAnn:=Hint.ann (h110a r l m) [(1,aInts l),(2,iv (m:Int)),(3,AV.ptr 0 []),(6,AV.ptr 8 [])] [(0,OB.cells 25 (cRun r)),(8,OB.cells 37 [iv 0,iv 0])] 10032
abbrev q110_1 (r:Run) (l:List Int) (m:Nat) (C:Prop):Prop:=okRun r=true/\l.length<=r.found.length/\m < r.machines.length->C
abbrev q110_2 (r:Run) (l:List Int) (m:Nat) (C:Nat->Prop):Prop:=q110_1 r l m (∀ (x0:Nat),x0<=r.plates.toNat->decide ((x0:Int) < r.plates)=true->C x0)
abbrev q110_3 (r:Run) (l:List Int) (m:Nat) (C:Nat->Nat->Prop):Prop:=q110_2 r l m fun x0 => ∀ (x2:Nat),x2<=r.plates.toNat->decide ((x2:Int) < r.plates)=true->decide ((x0:Int)=x2)=true->C x0 x2
abbrev q110_4 (r:Run) (l:List Int) (m:Nat) (C:Nat->Nat->Prop):Prop:=q110_2 r l m fun x0 => ∀ (x2:Nat),x2<=r.plates.toNat->decide ((x2:Int) < r.plates)=true->decide ((x0:Int)=x2)=false->C x0 x2
abbrev q110_5 (r:Run) (l:List Int) (m:Nat) (C:Nat->Nat->Prop):Prop:=q110_2 r l m fun x0 => ∀ (x2:Nat),x2<=r.plates.toNat->decide ((x2:Int) < r.plates)=false->C x0 x2
theorem w110 (r:Run) (l:List Int) (m:Nat)
 (o0:q110_1 r l m (0=(↑0:Int)))
 (o1:q110_1 r l m (0=(minTo (spanOf r l m) r.plates.toNat 0).lo))
 (o2:q110_1 r l m (0=(minTo (spanOf r l m) r.plates.toNat 0).hi))
 (o3:q110_1 r l m (0<=r.plates.toNat))
 (o4:q110_2 r l m fun x0=>0=(↑0:Int))
 (o5:q110_2 r l m fun x0=>(minTo (spanOf r l m) r.plates.toNat x0).lo=(minIn (spanOf r l m) x0 (minTo (spanOf r l m) r.plates.toNat x0) 0).lo)
 (o6:q110_2 r l m fun x0=>(minTo (spanOf r l m) r.plates.toNat x0).hi=(minIn (spanOf r l m) x0 (minTo (spanOf r l m) r.plates.toNat x0) 0).hi)
 (o7:q110_2 r l m fun x0=>0<=r.plates.toNat)
 (o8:q110_3 r l m fun x0 x2=>inI ((x2:Int) + 1))
 (o9:q110_3 r l m fun x0 x2=>(x2:Int) + 1=(↑(x2 + 1):Int))
 (o10:q110_3 r l m fun x0 x2=>(minIn (spanOf r l m) x0 (minTo (spanOf r l m) r.plates.toNat x0) x2).lo=(minIn (spanOf r l m) x0 (minTo (spanOf r l m) r.plates.toNat x0) (x2 + 1)).lo)
 (o11:q110_3 r l m fun x0 x2=>(minIn (spanOf r l m) x0 (minTo (spanOf r l m) r.plates.toNat x0) x2).hi=(minIn (spanOf r l m) x0 (minTo (spanOf r l m) r.plates.toNat x0) (x2 + 1)).hi)
 (o12:q110_3 r l m fun x0 x2=>x2 + 1<=r.plates.toNat)
 (o13:q110_3 r l m fun x0 x2=>r.plates.toNat - (x2 + 1) < r.plates.toNat - x2)
 (o14:q110_4 r l m fun x0 x2=>m < r.machines.length)
 (o15:q110_4 r l m fun x0 x2=>(x0:Int) < r.plates)
 (o16:q110_4 r l m fun x0 x2=>l.length<=r.found.length)
 (o17:q110_4 r l m fun x0 x2=>m < r.machines.length)
 (o18:q110_4 r l m fun x0 x2=>(x2:Int) < r.plates)
 (o19:q110_4 r l m fun x0 x2=>l.length<=r.found.length)
 (o20:q110_4 r l m fun x0 x2=>inI ((spanOf r l m x0).lo - (spanOf r l m x2).hi))
 (o21:q110_4 r l m fun x0 x2=>inI ((spanOf r l m x0).hi - (spanOf r l m x2).lo))
 (o22:q110_4 r l m fun x0 x2=>inI ((x2:Int) + 1))
 (o23:q110_4 r l m fun x0 x2=>(x2:Int) + 1=(↑(x2 + 1):Int))
 (o24:q110_4 r l m fun x0 x2=>max (minIn (spanOf r l m) x0 (minTo (spanOf r l m) r.plates.toNat x0) x2).lo ((spanOf r l m x0).lo - (spanOf r l m x2).hi)=(minIn (spanOf r l m) x0 (minTo (spanOf r l m) r.plates.toNat x0) (x2 + 1)).lo)
 (o25:q110_4 r l m fun x0 x2=>max (minIn (spanOf r l m) x0 (minTo (spanOf r l m) r.plates.toNat x0) x2).hi ((spanOf r l m x0).hi - (spanOf r l m x2).lo)=(minIn (spanOf r l m) x0 (minTo (spanOf r l m) r.plates.toNat x0) (x2 + 1)).hi)
 (o26:q110_4 r l m fun x0 x2=>x2 + 1<=r.plates.toNat)
 (o27:q110_4 r l m fun x0 x2=>r.plates.toNat - (x2 + 1) < r.plates.toNat - x2)
 (o28:q110_5 r l m fun x0 x2=>inI ((x0:Int) + 1))
 (o29:q110_5 r l m fun x0 x2=>(x0:Int) + 1=(↑(x0 + 1):Int))
 (o30:q110_5 r l m fun x0 x2=>(minIn (spanOf r l m) x0 (minTo (spanOf r l m) r.plates.toNat x0) x2).lo=(minTo (spanOf r l m) r.plates.toNat (x0 + 1)).lo)
 (o31:q110_5 r l m fun x0 x2=>(minIn (spanOf r l m) x0 (minTo (spanOf r l m) r.plates.toNat x0) x2).hi=(minTo (spanOf r l m) r.plates.toNat (x0 + 1)).hi)
 (o32:q110_5 r l m fun x0 x2=>x0 + 1<=r.plates.toNat)
 (o33:q110_5 r l m fun x0 x2=>r.plates.toNat - (x0 + 1) < r.plates.toNat - x0)
 (o34:q110_1 r l m (∀ (x0:Nat),x0<=r.plates.toNat->decide ((x0:Int) < r.plates)=false->(minTo (spanOf r l m) r.plates.toNat x0).lo=(minutes (spanOf r l m) r.plates.toNat).lo))
 (o35:q110_1 r l m (∀ (x0:Nat),x0<=r.plates.toNat->decide ((x0:Int) < r.plates)=false->(minTo (spanOf r l m) r.plates.toNat x0).hi=(minutes (spanOf r l m) r.plates.toNat).hi)) :
  Triple Try.prog 110 (s110 r l m):=by
 refine triple_of Try.func110 rfl Try.call110 T0_ok _ rfl rfl rfl rfl (Nat.le_of_ble_eq_true (by kernel_rfl)) (fun _ _ _ _ h=>h) ?_
 intro hp C hC _ hE
 obtain ⟨P,w0,E0,av,hA⟩:=C
 subst hC
 refine swp_seq ?_
 refine sQ (kt:=[1,2,3,6]) (kh:=[0,8]) (q:=tn 2) (st':=ASt.mk [(1,aInts l),(2,iv (m:Int)),(3,.ptr 0 []),(6,.ptr 8 [])] [(0,.cells 25 (cRun r)),(8,.cells 37 [iv 0,iv 0])] 16) (tp 2) ?_
 refine swp_seq ?_
 refine sQ (kt:=[1,2,3,6,7]) (kh:=[0,8,16]) (q:=True/\True) (st':=ASt.mk [(1,aInts l),(2,iv (m:Int)),(3,.ptr 0 []),(6,.ptr 8 []),(7,.ptr 16 [])] [(0,.cells 25 (cRun r)),(8,.cells 37 [iv 0,iv 0]),(16,.cells 37 [iv 0,iv 0])] 24) ⟨tv,tv⟩ ?_
 refine swp_seq (swp_seq ?_)
 refine sQ (kt:=[1,2,3,6,7,8]) (kh:=[0,8,16]) (q:=True/\True) (st':=ASt.mk [(1,aInts l),(2,iv (m:Int)),(3,.ptr 0 []),(6,.ptr 8 []),(7,.ptr 16 []),(8,iv 0)] [(0,.cells 25 (cRun r)),(8,.cells 37 [iv 0,iv 0]),(16,.cells 37 [iv 0,iv 0])] 32) ⟨tv,tv⟩ ?_
 refine swp_block ?_
 refine swp_loopA (z110_2 r l m) (eQ hE [] [(0,.same 0),(8,.same 8),(5000,.same 16)] [1,2] [0,8] (((zT (aInts l))/\(zT (iv (m:Int)))/\(zP 0)/\(zP 8)/\(zN (iv 0) (iv (↑0:Int)))/\(zP 16)/\True)/\((zT (OB.cells 25 (cRun r)))/\(zT (OB.cells 37 [iv 0,iv 0]))/\(37=37/\((zN (iv 0) (iv (minTo (spanOf r l m) r.plates.toNat 0).lo))/\(zN (iv 0) (iv (minTo (spanOf r l m) r.plates.toNat 0).hi))/\True)/\true=true)/\True)/\T2) ⟨⟨⟨rfl,rfl⟩,⟨rfl,rfl⟩,⟨rfl,rfl⟩,⟨rfl,rfl⟩,⟨(congrArg iv (o0 hp)),rfl⟩,⟨rfl,rfl⟩,tv⟩,⟨⟨rfl,rfl⟩,⟨rfl,rfl⟩,⟨rfl,⟨⟨(congrArg iv (o1 hp)),rfl⟩,⟨(congrArg iv (o2 hp)),rfl⟩,tv⟩,rfl⟩,tv⟩,rfl,rfl⟩) (o3 hp) (fun (x0:Nat) hx0 => ?_)
 refine swp_seq (swp_seq ?_)
 refine sQ (kt:=[1,2,3,6,8,7,15]) (kh:=[0,8,5000]) (q:=tn 4) (st':=ASt.mk [(1,aInts l),(2,iv (m:Int)),(3,.ptr 0 []),(6,.ptr 8 []),(8,iv (x0:Int)),(7,.ptr 5000 []),(15,bv (decide ((x0:Int) < r.plates)))] [(0,.cells 25 (cRun r)),(8,.cells 37 [iv 0,iv 0]),(5000,.cells 37 (cSpan (minTo (spanOf r l m) r.plates.toNat x0)))] 10064) (tp 4) ?_
 refine swp_cond (decide ((x0:Int) < r.plates)) (by kernel_rfl) (fun h1 => ?_) (fun h1 => ?_)
 ·refine swp_skip (swp_seq (swp_block (swp_seq ?_)))
  refine sQ (kt:=[1,2,3,6,8,7,9]) (kh:=[0,8,5000]) (q:=True/\True) (st':=ASt.mk [(1,aInts l),(2,iv (m:Int)),(3,.ptr 0 []),(6,.ptr 8 []),(8,iv (x0:Int)),(7,.ptr 5000 []),(9,iv 0)] [(0,.cells 25 (cRun r)),(8,.cells 37 [iv 0,iv 0]),(5000,.cells 37 (cSpan (minTo (spanOf r l m) r.plates.toNat x0)))] 10072) ⟨tv,tv⟩ ?_
  refine swp_block ?_
  refine swp_loopA (z110_1 r l m x0) (eQ hE [] [(0,.same 0),(8,.same 8),(5001,.same 5000)] [1,2,8] [0,8] (((zT (aInts l))/\(zT (iv (m:Int)))/\(zP 0)/\(zP 8)/\(zT (iv (x0:Int)))/\(zN (iv 0) (iv (↑0:Int)))/\(zP 5000)/\True)/\((zT (OB.cells 25 (cRun r)))/\(zT (OB.cells 37 [iv 0,iv 0]))/\(37=37/\((zN (iv (minTo (spanOf r l m) r.plates.toNat x0).lo) (iv (minIn (spanOf r l m) x0 (minTo (spanOf r l m) r.plates.toNat x0) 0).lo))/\(zN (iv (minTo (spanOf r l m) r.plates.toNat x0).hi) (iv (minIn (spanOf r l m) x0 (minTo (spanOf r l m) r.plates.toNat x0) 0).hi))/\True)/\true=true)/\True)/\T2) ⟨⟨⟨rfl,rfl⟩,⟨rfl,rfl⟩,⟨rfl,rfl⟩,⟨rfl,rfl⟩,⟨rfl,rfl⟩,⟨(congrArg iv (o4 hp x0 hx0 h1)),rfl⟩,⟨rfl,rfl⟩,tv⟩,⟨⟨rfl,rfl⟩,⟨rfl,rfl⟩,⟨rfl,⟨⟨(congrArg iv (o5 hp x0 hx0 h1)),rfl⟩,⟨(congrArg iv (o6 hp x0 hx0 h1)),rfl⟩,tv⟩,rfl⟩,tv⟩,rfl,rfl⟩) (o7 hp x0 hx0 h1) (fun (x2:Nat) hx2 => ?_)
  refine swp_seq (swp_seq ?_)
  refine sQ (kt:=[1,2,3,6,8,9,7,21]) (kh:=[0,8,5001]) (q:=tn 4) (st':=ASt.mk [(1,aInts l),(2,iv (m:Int)),(3,.ptr 0 []),(6,.ptr 8 []),(8,iv (x0:Int)),(9,iv (x2:Int)),(7,.ptr 5001 []),(21,bv (decide ((x2:Int) < r.plates)))] [(0,.cells 25 (cRun r)),(8,.cells 37 [iv 0,iv 0]),(5001,.cells 37 (cSpan (minIn (spanOf r l m) x0 (minTo (spanOf r l m) r.plates.toNat x0) x2)))] 20104) (tp 4) ?_
  refine swp_cond (decide ((x2:Int) < r.plates)) (by kernel_rfl) (fun h3 => ?_) (fun h3 => ?_)
  ·refine swp_skip (swp_seq (swp_block (swp_seq (swp_seq ?_))))
   refine sQ (kt:=[1,2,3,6,8,9,7,26]) (kh:=[0,8,5001]) (q:=tn 3) (st':=ASt.mk [(1,aInts l),(2,iv (m:Int)),(3,.ptr 0 []),(6,.ptr 8 []),(8,iv (x0:Int)),(9,iv (x2:Int)),(7,.ptr 5001 []),(26,bv (decide ((x0:Int)=x2)))] [(0,.cells 25 (cRun r)),(8,.cells 37 [iv 0,iv 0]),(5001,.cells 37 (cSpan (minIn (spanOf r l m) x0 (minTo (spanOf r l m) r.plates.toNat x0) x2)))] 20128) (tp 3) ?_
   refine swp_cond (decide ((x0:Int)=x2)) (by kernel_rfl) (fun h4 => ?_) (fun h4 => ?_)
   ·refine swp_exit ?_
    refine sQ (kt:=[1,2,3,6,8,9,7]) (kh:=[0,8,5001]) (q:=True/\inI ((x2:Int) + 1)/\True/\True) (st':=ASt.mk [(1,aInts l),(2,iv (m:Int)),(3,.ptr 0 []),(6,.ptr 8 []),(8,iv (x0:Int)),(9,iv ((x2:Int) + 1)),(7,.ptr 5001 [])] [(0,.cells 25 (cRun r)),(8,.cells 37 [iv 0,iv 0]),(5001,.cells 37 (cSpan (minIn (spanOf r l m) x0 (minTo (spanOf r l m) r.plates.toNat x0) x2)))] 20152) ⟨tv,(o8 hp x0 hx0 h1 x2 hx2 h3 h4),tv,tv⟩ ?_
    exact loop_next (z110_1 r l m x0) x2 (eQ hE [] [(0,.same 0),(8,.same 8),(5001,.same 5001)] [1,2,8] [0,8] (((zT (aInts l))/\(zT (iv (m:Int)))/\(zP 0)/\(zP 8)/\(zT (iv (x0:Int)))/\(zN (iv ((x2:Int) + 1)) (iv (↑(x2 + 1):Int)))/\(zP 5001)/\True)/\((zT (OB.cells 25 (cRun r)))/\(zT (OB.cells 37 [iv 0,iv 0]))/\(37=37/\((zN (iv (minIn (spanOf r l m) x0 (minTo (spanOf r l m) r.plates.toNat x0) x2).lo) (iv (minIn (spanOf r l m) x0 (minTo (spanOf r l m) r.plates.toNat x0) (x2 + 1)).lo))/\(zN (iv (minIn (spanOf r l m) x0 (minTo (spanOf r l m) r.plates.toNat x0) x2).hi) (iv (minIn (spanOf r l m) x0 (minTo (spanOf r l m) r.plates.toNat x0) (x2 + 1)).hi))/\True)/\true=true)/\True)/\T2) ⟨⟨⟨rfl,rfl⟩,⟨rfl,rfl⟩,⟨rfl,rfl⟩,⟨rfl,rfl⟩,⟨rfl,rfl⟩,⟨(congrArg iv (o9 hp x0 hx0 h1 x2 hx2 h3 h4)),rfl⟩,⟨rfl,rfl⟩,tv⟩,⟨⟨rfl,rfl⟩,⟨rfl,rfl⟩,⟨rfl,⟨⟨(congrArg iv (o10 hp x0 hx0 h1 x2 hx2 h3 h4)),rfl⟩,⟨(congrArg iv (o11 hp x0 hx0 h1 x2 hx2 h3 h4)),rfl⟩,tv⟩,rfl⟩,tv⟩,rfl,rfl⟩) (o12 hp x0 hx0 h1 x2 hx2 h3 h4) (o13 hp x0 hx0 h1 x2 hx2 h3 h4)
   ·refine swp_skip (swp_seq ?_)
    refine sC (cs:=[(4,CallSpec.eq (c110a r l m x0 x2) [true,true,true,true]),(9,CallSpec.eq (c110b r l m x0 x2) [true,true,true,true])]) (kt:=[1,2,3,6,8,9,7,10,11]) (kh:=[0,8,5001,20208,20216]) (q:=True/\True/\True/\True/\((zE (AV.agg (cRun r))/\zE (aInts l)/\zE (iv (m:Int))/\zE (iv (x0:Int))/\True)/\Triple Try.prog 88 (c110a r l m x0 x2)/\(okRun r=true/\m < r.machines.length/\(x0:Int) < r.plates/\l.length<=r.found.length)/\True /\ ∀ (i5:Env),True)/\True/\True/\True/\True/\((zE (AV.agg (cRun r))/\zE (aInts l)/\zE (iv (m:Int))/\zE (iv (x2:Int))/\True)/\Triple Try.prog 88 (c110b r l m x0 x2)/\(okRun r=true/\m < r.machines.length/\(x2:Int) < r.plates/\l.length<=r.found.length)/\True /\ ∀ (i6:Env),True)/\tn 4) (st':=ASt.mk [(1,aInts l),(2,iv (m:Int)),(3,.ptr 0 []),(6,.ptr 8 []),(8,iv (x0:Int)),(9,iv (x2:Int)),(7,.ptr 5001 []),(10,.ptr 20208 []),(11,.ptr 20216 [])] [(0,.cells 25 (cRun r)),(8,.cells 37 [iv 0,iv 0]),(5001,.cells 37 (cSpan (minIn (spanOf r l m) x0 (minTo (spanOf r l m) r.plates.toNat x0) x2))),(20208,.cells 37 (cSpan (spanOf r l m x0))),(20216,.cells 37 (cSpan (spanOf r l m x2)))] 20240) ⟨tv,tv,tv,tv,⟨⟨rfl,rfl,rfl,rfl,tv⟩,(t88 _ _ _ _),⟨hp.1,(o14 hp x0 hx0 h1 x2 hx2 h3 h4),(o15 hp x0 hx0 h1 x2 hx2 h3 h4),(o16 hp x0 hx0 h1 x2 hx2 h3 h4)⟩,tv,(fun i5=>tv)⟩,tv,tv,tv,tv,⟨⟨rfl,rfl,rfl,rfl,tv⟩,(t88 _ _ _ _),⟨hp.1,(o17 hp x0 hx0 h1 x2 hx2 h3 h4),(o18 hp x0 hx0 h1 x2 hx2 h3 h4),(o19 hp x0 hx0 h1 x2 hx2 h3 h4)⟩,tv,(fun i6=>tv)⟩,tp 4⟩ ?_
    refine sQ (kt:=[1,2,3,6,8,9,7]) (kh:=[0,8,5001]) (q:=True/\True/\True/\True/\True/\True/\inI ((spanOf r l m x0).lo - (spanOf r l m x2).hi)/\True/\True/\True/\True/\True/\True/\True/\inI ((spanOf r l m x0).hi - (spanOf r l m x2).lo)/\tn 3) (st':=ASt.mk [(1,aInts l),(2,iv (m:Int)),(3,.ptr 0 []),(6,.ptr 8 []),(8,iv (x0:Int)),(9,iv (x2:Int)),(7,.ptr 5001 [])] [(0,.cells 25 (cRun r)),(8,.cells 37 [iv 0,iv 0]),(5001,.cells 37 [iv (max (minIn (spanOf r l m) x0 (minTo (spanOf r l m) r.plates.toNat x0) x2).lo ((spanOf r l m x0).lo - (spanOf r l m x2).hi)),iv (max (minIn (spanOf r l m) x0 (minTo (spanOf r l m) r.plates.toNat x0) x2).hi ((spanOf r l m x0).hi - (spanOf r l m x2).lo))])] 20384) ⟨tv,tv,tv,tv,tv,tv,(o20 hp x0 hx0 h1 x2 hx2 h3 h4),tv,tv,tv,tv,tv,tv,tv,(o21 hp x0 hx0 h1 x2 hx2 h3 h4),tp 3⟩ ?_
    refine sQ (kt:=[1,2,3,6,8,9,7]) (kh:=[0,8,5001]) (q:=True/\inI ((x2:Int) + 1)/\True/\True) (st':=ASt.mk [(1,aInts l),(2,iv (m:Int)),(3,.ptr 0 []),(6,.ptr 8 []),(8,iv (x0:Int)),(9,iv ((x2:Int) + 1)),(7,.ptr 5001 [])] [(0,.cells 25 (cRun r)),(8,.cells 37 [iv 0,iv 0]),(5001,.cells 37 [iv (max (minIn (spanOf r l m) x0 (minTo (spanOf r l m) r.plates.toNat x0) x2).lo ((spanOf r l m x0).lo - (spanOf r l m x2).hi)),iv (max (minIn (spanOf r l m) x0 (minTo (spanOf r l m) r.plates.toNat x0) x2).hi ((spanOf r l m x0).hi - (spanOf r l m x2).lo))])] 20408) ⟨tv,(o22 hp x0 hx0 h1 x2 hx2 h3 h4),tv,tv⟩ ?_
    exact loop_next (z110_1 r l m x0) x2 (eQ hE [] [(0,.same 0),(8,.same 8),(5001,.same 5001)] [1,2,8] [0,8] (((zT (aInts l))/\(zT (iv (m:Int)))/\(zP 0)/\(zP 8)/\(zT (iv (x0:Int)))/\(zN (iv ((x2:Int) + 1)) (iv (↑(x2 + 1):Int)))/\(zP 5001)/\True)/\((zT (OB.cells 25 (cRun r)))/\(zT (OB.cells 37 [iv 0,iv 0]))/\(37=37/\((zN (iv (max (minIn (spanOf r l m) x0 (minTo (spanOf r l m) r.plates.toNat x0) x2).lo ((spanOf r l m x0).lo - (spanOf r l m x2).hi))) (iv (minIn (spanOf r l m) x0 (minTo (spanOf r l m) r.plates.toNat x0) (x2 + 1)).lo))/\(zN (iv (max (minIn (spanOf r l m) x0 (minTo (spanOf r l m) r.plates.toNat x0) x2).hi ((spanOf r l m x0).hi - (spanOf r l m x2).lo))) (iv (minIn (spanOf r l m) x0 (minTo (spanOf r l m) r.plates.toNat x0) (x2 + 1)).hi))/\True)/\true=true)/\True)/\T2) ⟨⟨⟨rfl,rfl⟩,⟨rfl,rfl⟩,⟨rfl,rfl⟩,⟨rfl,rfl⟩,⟨rfl,rfl⟩,⟨(congrArg iv (o23 hp x0 hx0 h1 x2 hx2 h3 h4)),rfl⟩,⟨rfl,rfl⟩,tv⟩,⟨⟨rfl,rfl⟩,⟨rfl,rfl⟩,⟨rfl,⟨⟨(congrArg iv (o24 hp x0 hx0 h1 x2 hx2 h3 h4)),rfl⟩,⟨(congrArg iv (o25 hp x0 hx0 h1 x2 hx2 h3 h4)),rfl⟩,tv⟩,rfl⟩,tv⟩,rfl,rfl⟩) (o26 hp x0 hx0 h1 x2 hx2 h3 h4) (o27 hp x0 hx0 h1 x2 hx2 h3 h4)
  ·refine swp_exit ?_
   refine sQ (kt:=[1,2,3,6,8,7]) (kh:=[0,8,5001]) (q:=True/\inI ((x0:Int) + 1)/\True/\True) (st':=ASt.mk [(1,aInts l),(2,iv (m:Int)),(3,.ptr 0 []),(6,.ptr 8 []),(8,iv ((x0:Int) + 1)),(7,.ptr 5001 [])] [(0,.cells 25 (cRun r)),(8,.cells 37 [iv 0,iv 0]),(5001,.cells 37 (cSpan (minIn (spanOf r l m) x0 (minTo (spanOf r l m) r.plates.toNat x0) x2)))] 20128) ⟨tv,(o28 hp x0 hx0 h1 x2 hx2 h3),tv,tv⟩ ?_
   exact loop_next (z110_2 r l m) x0 (eQ hE [] [(0,.same 0),(8,.same 8),(5000,.same 5001)] [1,2] [0,8] (((zT (aInts l))/\(zT (iv (m:Int)))/\(zP 0)/\(zP 8)/\(zN (iv ((x0:Int) + 1)) (iv (↑(x0 + 1):Int)))/\(zP 5001)/\True)/\((zT (OB.cells 25 (cRun r)))/\(zT (OB.cells 37 [iv 0,iv 0]))/\(37=37/\((zN (iv (minIn (spanOf r l m) x0 (minTo (spanOf r l m) r.plates.toNat x0) x2).lo) (iv (minTo (spanOf r l m) r.plates.toNat (x0 + 1)).lo))/\(zN (iv (minIn (spanOf r l m) x0 (minTo (spanOf r l m) r.plates.toNat x0) x2).hi) (iv (minTo (spanOf r l m) r.plates.toNat (x0 + 1)).hi))/\True)/\true=true)/\True)/\T2) ⟨⟨⟨rfl,rfl⟩,⟨rfl,rfl⟩,⟨rfl,rfl⟩,⟨rfl,rfl⟩,⟨(congrArg iv (o29 hp x0 hx0 h1 x2 hx2 h3)),rfl⟩,⟨rfl,rfl⟩,tv⟩,⟨⟨rfl,rfl⟩,⟨rfl,rfl⟩,⟨rfl,⟨⟨(congrArg iv (o30 hp x0 hx0 h1 x2 hx2 h3)),rfl⟩,⟨(congrArg iv (o31 hp x0 hx0 h1 x2 hx2 h3)),rfl⟩,tv⟩,rfl⟩,tv⟩,rfl,rfl⟩) (o32 hp x0 hx0 h1 x2 hx2 h3) (o33 hp x0 hx0 h1 x2 hx2 h3)
 ·refine swp_exit (swp_seq ?_)
  refine sQ (kt:=[6]) (kh:=[8]) (q:=tn 2) (st':=ASt.mk [(6,.ptr 8 [])] [(8,.cells 37 (cSpan (minTo (spanOf r l m) r.plates.toNat x0)))] 10080) (tp 2) ?_
  refine swp_ret ?_
  exact rQ [] ((True/\True)/\((zN (iv (minTo (spanOf r l m) r.plates.toNat x0).lo) (iv (minutes (spanOf r l m) r.plates.toNat).lo))/\(zN (iv (minTo (spanOf r l m) r.plates.toNat x0).hi) (iv (minutes (spanOf r l m) r.plates.toNat).hi))/\True)/\T3) ⟨⟨tv,tv⟩,⟨⟨(congrArg iv (o34 hp x0 hx0 h1)),rfl⟩,⟨(congrArg iv (o35 hp x0 hx0 h1)),rfl⟩,tv⟩,rfl,rfl,rfl⟩
theorem t110 (r:Run) (l:List Int) (m:Nat):Triple Try.prog 110 (s110 r l m):=by
  apply w110
  all_goals (first
    | ((repeat intro _) <;> (try simp only [v0,v1,v2,v3,v4,v5,v6,v7,v8,v9,inI,fits,Go.Sh.small] at *) <;> first | (exact rfl) | omega | exact vz | (simp_all; done) | (simp_all; omega))
    | (intro hp
       have ok:=ok_of hp.1
       have h0:=ok.plates
       have hg:gb (spanOf r l m):=fun q=>spanOf_b ok l m q
       first
       | omega
       | (intro x hx hl
          simp only [decide_eq_true_eq,decide_eq_false_iff_not] at hl
          have a1:=hg x
          first
          | omega
          | rfl
          | (simp only [inI]; omega)
          | (rw [show x=r.plates.toNat by omega]; rfl)
          | (intro k hk hkl
             simp only [decide_eq_true_eq,decide_eq_false_iff_not] at hkl
             have a2:=hg k
             simp only [sb] at a1 a2
             first
             | omega
             | exact hp.1
             | (rw [minTo_succ,show k=r.plates.toNat by omega]; done)
             | (intro e
                first
                | omega
                | exact hp.1
                | exact hp.2.1
                | exact hp.2.2
                | (simp only [inI]; omega)
                | (rw [minIn_succ,if_pos (by simp only [decide_eq_true_eq] at e; omega)]; done)
                | (rw [minIn_succ,if_neg (by simp only [decide_eq_false_iff_not] at e; omega)]; done)))))
    | skip)
abbrev z67_1 (r:Run) (m:Int):LoopAnn:=Hint.ann (h67 r m) [(1,iv m),(2,AV.ptr 0 []),(6,aIntss (rfL r (isMachine r m)))] [(0,OB.cells 25 (cRun r))] 10144
abbrev q67_1 (r:Run) (m:Int) (C:Prop):Prop:=fits r->(!decide (rfE r (isMachine r m)=0))=false->C
abbrev q67_2 (r:Run) (m:Int) (C:Nat->Prop):Prop:=q67_1 r m (∀ (x3:Nat),x3<=(rfL r (isMachine r m)).length->decide ((x3:Int) < (↑((rfL r (isMachine r m)).length):Int))=true->C x3)
abbrev q67_3 (r:Run) (m:Int) (C:Nat->Prop):Prop:=q67_1 r m (∀ (x3:Nat),x3<=(rfL r (isMachine r m)).length->decide ((x3:Int) < (↑((rfL r (isMachine r m)).length):Int))=false->C x3)
theorem w67 (r:Run) (m:Int)
 (o0:fits r->(!decide (rfE r (isMachine r m)=0))->0=mixedR r m)
 (o1:q67_1 r m (true=nvTo r (rfL r (isMachine r m)) m.toNat 0))
 (o2:q67_1 r m (true=suTo r (rfL r (isMachine r m)) m.toNat 0))
 (o3:q67_1 r m (0=(↑0:Int)))
 (o4:q67_1 r m (0<=(rfL r (isMachine r m)).length))
 (o5:q67_2 r m fun x3=>0<=(x3:Int))
 (o6:q67_2 r m fun x3=>(x3:Int) < (↑((rfL r (isMachine r m)).length):Int))
 (o7:q67_2 r m fun x3=>m=(↑(m.toNat):Int))
 (o8:q67_2 r m fun x3=>okRun r=true)
 (o9:q67_2 r m fun x3=>((rfL r (isMachine r m)).getD x3 []).length<=r.found.length)
 (o10:q67_2 r m fun x3=>m.toNat < r.machines.length)
 (o11:q67_2 r m fun x3=>inI ((x3:Int) + 1))
 (o12:q67_2 r m fun x3=>(bif nvTo r (rfL r (isMachine r m)) m.toNat x3 then decide ((minutes (spanOf r ((rfL r (isMachine r m)).getD x3 []) m.toNat) r.plates.toNat).hi=0) else false)=nvTo r (rfL r (isMachine r m)) m.toNat (x3 + 1))
 (o13:q67_2 r m fun x3=>(bif suTo r (rfL r (isMachine r m)) m.toNat x3 then decide (0 < (minutes (spanOf r ((rfL r (isMachine r m)).getD x3 []) m.toNat) r.plates.toNat).lo) else false)=suTo r (rfL r (isMachine r m)) m.toNat (x3 + 1))
 (o14:q67_2 r m fun x3=>(x3:Int) + 1=(↑(x3 + 1):Int))
 (o15:q67_2 r m fun x3=>x3 + 1<=(rfL r (isMachine r m)).length)
 (o16:q67_2 r m fun x3=>(rfL r (isMachine r m)).length - (x3 + 1) < (rfL r (isMachine r m)).length - x3)
 (o17:q67_3 r m fun x3=>suTo r (rfL r (isMachine r m)) m.toNat x3=true->1=mixedR r m)
 (o18:q67_3 r m fun x3=>suTo r (rfL r (isMachine r m)) m.toNat x3=true->0=rfE r (isMachine r m))
 (o19:q67_3 r m fun x3=>suTo r (rfL r (isMachine r m)) m.toNat x3=false->nvTo r (rfL r (isMachine r m)) m.toNat x3=true->2=mixedR r m)
 (o20:q67_3 r m fun x3=>suTo r (rfL r (isMachine r m)) m.toNat x3=false->nvTo r (rfL r (isMachine r m)) m.toNat x3=true->0=rfE r (isMachine r m))
 (o21:q67_3 r m fun x3=>suTo r (rfL r (isMachine r m)) m.toNat x3=false->nvTo r (rfL r (isMachine r m)) m.toNat x3=false->3=mixedR r m)
 (o22:q67_3 r m fun x3=>suTo r (rfL r (isMachine r m)) m.toNat x3=false->nvTo r (rfL r (isMachine r m)) m.toNat x3=false->0=rfE r (isMachine r m)) :
  Triple Try.prog 67 (s67 r m):=by
 refine triple_of Try.func67 rfl Try.call67 T0_ok _ rfl rfl rfl rfl (Nat.le_of_ble_eq_true (by kernel_rfl)) (fun _ _ _ _ h=>h) ?_
 intro hp C hC _ hE
 obtain ⟨P,w0,E0,av,hA⟩:=C
 subst hC
 refine swp_seq ?_
 refine sQ (kt:=[1,2]) (kh:=[0]) (q:=tn 3) (st':=ASt.mk [(1,iv m),(2,.ptr 0 [])] [(0,.cells 25 (cRun r))] 24) (tp 3) ?_
 refine swp_seq ?_
 refine sC (cs:=[(3,CallSpec.eq (s18 r m) [true,true]),(4,CallSpec.eq (c67o r m) [true,true])]) (kt:=[1,2,6,7]) (kh:=[0]) (q:=True/\True/\True/\((zE (AV.agg (cRun r))/\iv m=iv m/\True)/\Triple Try.prog 18 (s18 r m)/\fits r/\True /\ ∀ (i0:Env),True)/\((zE (AV.agg (cRun r))/\zE (bv (isMachine r m))/\True)/\Triple Try.prog 87 (c67o r m)/\fits r/\True /\ ∀ (i1:Env),True)/\tn 5) (st':=ASt.mk [(1,iv m),(2,.ptr 0 []),(6,aIntss (rfL r (isMachine r m))),(7,iv (rfE r (isMachine r m)))] [(0,.cells 25 (cRun r))] 104) ⟨tv,tv,tv,⟨⟨rfl,rfl,tv⟩,(t18 (r) (m)),hp,tv,(fun i0=>tv)⟩,⟨⟨rfl,rfl,tv⟩,(t87 _ _),hp,tv,(fun i1=>tv)⟩,tp 5⟩ ?_
 refine swp_seq (swp_seq ?_)
 refine sQ (kt:=[1,2,6,7,21]) (kh:=[0]) (q:=tn 2) (st':=ASt.mk [(1,iv m),(2,.ptr 0 []),(6,aIntss (rfL r (isMachine r m))),(7,iv (rfE r (isMachine r m))),(21,bv !decide (rfE r (isMachine r m)=0))] [(0,.cells 25 (cRun r))] 120) (tp 2) ?_
 refine swp_cond (!decide (rfE r (isMachine r m)=0)) (by kernel_rfl) (fun h2 => ?_) (fun h2 => ?_)
 ·refine swp_seq ?_
  refine sQ (kt:=[4,5]) (kh:=[]) (q:=tn 3) (st':=ASt.mk [(4,iv 0),(5,iv (rfE r (isMachine r m)))] [] 144) (tp 3) ?_
  refine swp_ret ?_
  exact rQ [] ((True/\True/\True)/\((zN (iv 0) (iv (mixedR r m)))/\(zM (iv (rfE r (isMachine r m))))/\True)/\T3) ⟨⟨tv,tv,tv⟩,⟨⟨(congrArg iv (o0 hp h2)),rfl⟩,⟨rfl,rfl⟩,tv⟩,rfl,rfl,rfl⟩
 ·refine swp_skip (swp_seq ?_)
  refine sQ (kt:=[1,2,6,8,9]) (kh:=[0]) (q:=tn 2) (st':=ASt.mk [(1,iv m),(2,.ptr 0 []),(6,aIntss (rfL r (isMachine r m))),(8,bv true),(9,bv true)] [(0,.cells 25 (cRun r))] 136) (tp 2) ?_
  refine swp_seq (swp_seq ?_)
  refine sQ (kt:=[1,2,6,8,9,10]) (kh:=[0]) (q:=True/\True) (st':=ASt.mk [(1,iv m),(2,.ptr 0 []),(6,aIntss (rfL r (isMachine r m))),(8,bv true),(9,bv true),(10,iv 0)] [(0,.cells 25 (cRun r))] 144) ⟨tv,tv⟩ ?_
  refine swp_block ?_
  refine swp_loopA (z67_1 r m) (eQ hE [] [(0,.same 0)] [1,6] [0] (((zT (iv m))/\(zP 0)/\(zT (aIntss (rfL r (isMachine r m))))/\(zN (bv true) (bv (nvTo r (rfL r (isMachine r m)) m.toNat 0)))/\(zN (bv true) (bv (suTo r (rfL r (isMachine r m)) m.toNat 0)))/\(zN (iv 0) (iv (↑0:Int)))/\True)/\((zT (OB.cells 25 (cRun r)))/\True)/\T2) ⟨⟨⟨rfl,rfl⟩,⟨rfl,rfl⟩,⟨rfl,rfl⟩,⟨(congrArg bv (o1 hp h2)),rfl⟩,⟨(congrArg bv (o2 hp h2)),rfl⟩,⟨(congrArg iv (o3 hp h2)),rfl⟩,tv⟩,⟨⟨rfl,rfl⟩,tv⟩,rfl,rfl⟩) (o4 hp h2) (fun (x3:Nat) hx3 => ?_)
  refine swp_seq (swp_seq ?_)
  refine sQ (kt:=[1,2,6,8,9,10,26]) (kh:=[0]) (q:=tn 4) (st':=ASt.mk [(1,iv m),(2,.ptr 0 []),(6,aIntss (rfL r (isMachine r m))),(8,bv (nvTo r (rfL r (isMachine r m)) m.toNat x3)),(9,bv (suTo r (rfL r (isMachine r m)) m.toNat x3)),(10,iv (x3:Int)),(26,bv (decide ((x3:Int) < (↑((rfL r (isMachine r m)).length):Int))))] [(0,.cells 25 (cRun r))] 10176) (tp 4) ?_
  refine swp_cond (decide ((x3:Int) < (↑((rfL r (isMachine r m)).length):Int))) (by kernel_rfl) (fun h4 => ?_) (fun h4 => ?_)
  ·refine swp_skip (swp_seq (swp_block (swp_seq ?_)))
   refine sC (cs:=[(6,CallSpec.eq (c67 r m x3) [true,true,false])]) (kt:=[1,2,6,8,9,10,11]) (kh:=[0,10232]) (q:=True/\True/\True/\(0<=(x3:Int)/\(x3:Int) < (↑((rfL r (isMachine r m)).length):Int))/\True/\True/\((zE (AV.agg (cRun r))/\zE (aInts ((rfL r (isMachine r m)).getD x3 []))/\iv m=iv (↑(m.toNat):Int)/\True)/\Triple Try.prog 110 (c67 r m x3)/\(okRun r=true/\((rfL r (isMachine r m)).getD x3 []).length<=r.found.length/\m.toNat < r.machines.length)/\True /\ ∀ (i5:Env),True)/\tn 2) (st':=ASt.mk [(1,iv m),(2,.ptr 0 []),(6,aIntss (rfL r (isMachine r m))),(8,bv (nvTo r (rfL r (isMachine r m)) m.toNat x3)),(9,bv (suTo r (rfL r (isMachine r m)) m.toNat x3)),(10,iv (x3:Int)),(11,.ptr 10232 [])] [(0,.cells 25 (cRun r)),(10232,.cells 37 (cSpan (minutes (spanOf r ((rfL r (isMachine r m)).getD x3 []) m.toNat) r.plates.toNat)))] 10248) ⟨tv,tv,tv,⟨(o5 hp h2 x3 hx3 h4),(o6 hp h2 x3 hx3 h4)⟩,tv,tv,⟨⟨rfl,rfl,(congrArg iv (o7 hp h2 x3 hx3 h4)),tv⟩,(t110 _ _ _),⟨(o8 hp h2 x3 hx3 h4),(o9 hp h2 x3 hx3 h4),(o10 hp h2 x3 hx3 h4)⟩,tv,(fun i5=>tv)⟩,tp 2⟩ ?_
   refine swp_seq ?_
   refine sQ (kt:=[1,2,6,8,9,10,11]) (kh:=[0,10232]) (q:=True/\True/\(nvTo r (rfL r (isMachine r m)) m.toNat x3=true->(True/\True)/\True)/\(nvTo r (rfL r (isMachine r m)) m.toNat x3=true->((nvTo r (rfL r (isMachine r m)) m.toNat x3=true->nvTo r (rfL r (isMachine r m)) m.toNat x3=true)/\True)/\True)/\(nvTo r (rfL r (isMachine r m)) m.toNat x3=true->((nvTo r (rfL r (isMachine r m)) m.toNat x3=true->nvTo r (rfL r (isMachine r m)) m.toNat x3=true)/\True/\True)/\True)/\((nvTo r (rfL r (isMachine r m)) m.toNat x3=true->nvTo r (rfL r (isMachine r m)) m.toNat x3=true)/\(nvTo r (rfL r (isMachine r m)) m.toNat x3=false->True))/\True/\True) (st':=ASt.mk [(1,iv m),(2,.ptr 0 []),(6,aIntss (rfL r (isMachine r m))),(8,bv (bif nvTo r (rfL r (isMachine r m)) m.toNat x3 then decide ((minutes (spanOf r ((rfL r (isMachine r m)).getD x3 []) m.toNat) r.plates.toNat).hi=0) else false)),(9,bv (suTo r (rfL r (isMachine r m)) m.toNat x3)),(10,iv (x3:Int)),(11,.ptr 10232 [])] [(0,.cells 25 (cRun r)),(10232,.cells 37 (cSpan (minutes (spanOf r ((rfL r (isMachine r m)).getD x3 []) m.toNat) r.plates.toNat)))] 10304) ⟨tv,tv,(fun h6=>⟨⟨tv,tv⟩,tv⟩),(fun h7=>⟨⟨(fun h8=>h7),tv⟩,tv⟩),(fun h9=>⟨⟨(fun h10=>h9),tv,tv⟩,tv⟩),⟨(fun h11=>h11),(fun h12=>tv)⟩,tv,tv⟩ ?_
   refine sQ (kt:=[1,2,6,8,9,10]) (kh:=[0]) (q:=True/\True/\(suTo r (rfL r (isMachine r m)) m.toNat x3=true->(True/\True)/\True)/\(suTo r (rfL r (isMachine r m)) m.toNat x3=true->((suTo r (rfL r (isMachine r m)) m.toNat x3=true->suTo r (rfL r (isMachine r m)) m.toNat x3=true)/\True)/\True)/\(suTo r (rfL r (isMachine r m)) m.toNat x3=true->((suTo r (rfL r (isMachine r m)) m.toNat x3=true->suTo r (rfL r (isMachine r m)) m.toNat x3=true)/\True/\True)/\True)/\((suTo r (rfL r (isMachine r m)) m.toNat x3=true->suTo r (rfL r (isMachine r m)) m.toNat x3=true)/\(suTo r (rfL r (isMachine r m)) m.toNat x3=false->True))/\True/\True) (st':=ASt.mk [(1,iv m),(2,.ptr 0 []),(6,aIntss (rfL r (isMachine r m))),(8,bv (bif nvTo r (rfL r (isMachine r m)) m.toNat x3 then decide ((minutes (spanOf r ((rfL r (isMachine r m)).getD x3 []) m.toNat) r.plates.toNat).hi=0) else false)),(9,bv (bif suTo r (rfL r (isMachine r m)) m.toNat x3 then decide (0 < (minutes (spanOf r ((rfL r (isMachine r m)).getD x3 []) m.toNat) r.plates.toNat).lo) else false)),(10,iv (x3:Int))] [(0,.cells 25 (cRun r))] 10360) ⟨tv,tv,(fun h13=>⟨⟨tv,tv⟩,tv⟩),(fun h14=>⟨⟨(fun h15=>h14),tv⟩,tv⟩),(fun h16=>⟨⟨(fun h17=>h16),tv,tv⟩,tv⟩),⟨(fun h18=>h18),(fun h19=>tv)⟩,tv,tv⟩ ?_
   refine sQ (kt:=[1,2,6,8,9,10]) (kh:=[0]) (q:=True/\inI ((x3:Int) + 1)/\True/\True) (st':=ASt.mk [(1,iv m),(2,.ptr 0 []),(6,aIntss (rfL r (isMachine r m))),(8,bv (bif nvTo r (rfL r (isMachine r m)) m.toNat x3 then decide ((minutes (spanOf r ((rfL r (isMachine r m)).getD x3 []) m.toNat) r.plates.toNat).hi=0) else false)),(9,bv (bif suTo r (rfL r (isMachine r m)) m.toNat x3 then decide (0 < (minutes (spanOf r ((rfL r (isMachine r m)).getD x3 []) m.toNat) r.plates.toNat).lo) else false)),(10,iv ((x3:Int) + 1))] [(0,.cells 25 (cRun r))] 10384) ⟨tv,(o11 hp h2 x3 hx3 h4),tv,tv⟩ ?_
   exact loop_next (z67_1 r m) x3 (eQ hE [] [(0,.same 0)] [1,6] [0] (((zT (iv m))/\(zP 0)/\(zT (aIntss (rfL r (isMachine r m))))/\(zN (bv (bif nvTo r (rfL r (isMachine r m)) m.toNat x3 then decide ((minutes (spanOf r ((rfL r (isMachine r m)).getD x3 []) m.toNat) r.plates.toNat).hi=0) else false)) (bv (nvTo r (rfL r (isMachine r m)) m.toNat (x3 + 1))))/\(zN (bv (bif suTo r (rfL r (isMachine r m)) m.toNat x3 then decide (0 < (minutes (spanOf r ((rfL r (isMachine r m)).getD x3 []) m.toNat) r.plates.toNat).lo) else false)) (bv (suTo r (rfL r (isMachine r m)) m.toNat (x3 + 1))))/\(zN (iv ((x3:Int) + 1)) (iv (↑(x3 + 1):Int)))/\True)/\((zT (OB.cells 25 (cRun r)))/\True)/\T2) ⟨⟨⟨rfl,rfl⟩,⟨rfl,rfl⟩,⟨rfl,rfl⟩,⟨(congrArg bv (o12 hp h2 x3 hx3 h4)),rfl⟩,⟨(congrArg bv (o13 hp h2 x3 hx3 h4)),rfl⟩,⟨(congrArg iv (o14 hp h2 x3 hx3 h4)),rfl⟩,tv⟩,⟨⟨rfl,rfl⟩,tv⟩,rfl,rfl⟩) (o15 hp h2 x3 hx3 h4) (o16 hp h2 x3 hx3 h4)
  ·refine swp_exit (swp_seq (swp_block (swp_seq ?_)))
   refine sQ (kt:=[8,48]) (kh:=[]) (q:=tn 2) (st':=ASt.mk [(8,bv (nvTo r (rfL r (isMachine r m)) m.toNat x3)),(48,bv (suTo r (rfL r (isMachine r m)) m.toNat x3))] [] 10192) (tp 2) ?_
   refine swp_cond (suTo r (rfL r (isMachine r m)) m.toNat x3) (by kernel_rfl) (fun h20 => ?_) (fun h20 => ?_)
   ·refine swp_seq ?_
    refine sQ (kt:=[4,5]) (kh:=[]) (q:=tn 2) (st':=ASt.mk [(4,iv 1),(5,iv 0)] [] 10208) (tp 2) ?_
    refine swp_ret ?_
    exact rQ [] ((True/\True/\True)/\((zN (iv 1) (iv (mixedR r m)))/\(zN (iv 0) (iv (rfE r (isMachine r m))))/\True)/\T3) ⟨⟨tv,tv,tv⟩,⟨⟨(congrArg iv (o17 hp h2 x3 hx3 h4 h20)),rfl⟩,⟨(congrArg iv (o18 hp h2 x3 hx3 h4 h20)),rfl⟩,tv⟩,rfl,rfl,rfl⟩
   ·refine swp_seq ?_
    refine sQ (kt:=[50]) (kh:=[]) (q:=tn 2) (st':=ASt.mk [(50,bv (nvTo r (rfL r (isMachine r m)) m.toNat x3))] [] 10208) (tp 2) ?_
    refine swp_cond (nvTo r (rfL r (isMachine r m)) m.toNat x3) (by kernel_rfl) (fun h21 => ?_) (fun h21 => ?_)
    ·refine swp_seq ?_
     refine sQ (kt:=[4,5]) (kh:=[]) (q:=tn 2) (st':=ASt.mk [(4,iv 2),(5,iv 0)] [] 10224) (tp 2) ?_
     refine swp_ret ?_
     exact rQ [] ((True/\True/\True)/\((zN (iv 2) (iv (mixedR r m)))/\(zN (iv 0) (iv (rfE r (isMachine r m))))/\True)/\T3) ⟨⟨tv,tv,tv⟩,⟨⟨(congrArg iv (o19 hp h2 x3 hx3 h4 h20 h21)),rfl⟩,⟨(congrArg iv (o20 hp h2 x3 hx3 h4 h20 h21)),rfl⟩,tv⟩,rfl,rfl,rfl⟩
    ·refine swp_skip (swp_seq ?_)
     refine sQ (kt:=[4,5]) (kh:=[]) (q:=tn 2) (st':=ASt.mk [(4,iv 3),(5,iv 0)] [] 10224) (tp 2) ?_
     refine swp_ret ?_
     exact rQ [] ((True/\True/\True)/\((zN (iv 3) (iv (mixedR r m)))/\(zN (iv 0) (iv (rfE r (isMachine r m))))/\True)/\T3) ⟨⟨tv,tv,tv⟩,⟨⟨(congrArg iv (o21 hp h2 x3 hx3 h4 h20 h21)),rfl⟩,⟨(congrArg iv (o22 hp h2 x3 hx3 h4 h20 h21)),rfl⟩,tv⟩,rfl,rfl,rfl⟩
theorem t67 (r:Run) (m:Int):Triple Try.prog 67 (s67 r m):=by
  apply w67
  all_goals (first
    | (intro _ h; rw [mixedR,if_neg (knowBad h)]; done)
    | ((repeat intro _) <;> (try simp only [v0,v1,v2,v3,v4,v5,v6,v7,v8,v9,inI,fits,Go.Sh.small] at *) <;> first | (exact rfl) | omega | exact vz | (simp_all; done) | (simp_all; omega))
    | (intro _ h
       have F:=knowF h
       have h1:=machIs_ok F.isT
       have h2:=F.len
       intro x hx hl
       simp only [decide_eq_true_eq,decide_eq_false_iff_not] at hl
       first
       | omega
       | exact F.okb
       | (rw [F.frm x (by omega)]; exact Nat.le_refl _)
       | (simp only [inI]; omega)
       | (rw [nvTo_succ (by omega)]; cases nvTo r (rfL r (isMachine r m)) m.toNat x <;> rfl)
       | (rw [suTo_succ (by omega)]; cases suTo r (rfL r (isMachine r m)) m.toNat x <;> rfl)
       | (rw [mixedR,if_pos F.zero,← F.eq,show x=(rfL r (isMachine r m)).length by omega]
          first
          | exact fun e=>by rw [if_pos e]
          | exact fun e e2=>by rw [if_neg (by rw [e]; exact Bool.false_ne_true),if_pos e2]
          | exact fun e e2=>by rw [if_neg (by rw [e]; exact Bool.false_ne_true),if_neg (by rw [e2]; exact Bool.false_ne_true)]))
    | (intro _ h; (repeat intro _); exact (knowF h).zero.symm))
abbrev z135_1 (r:Run) (l:List Int):LoopAnn:=Hint.ann (h135 r l) [(1,aInts l),(2,AV.ptr 0 []),(4,AV.ptr 8 [])] [(0,OB.cells 25 (cRun r)),(8,OB.cells 37 [iv 0,iv 0])] 10032
abbrev q135_1 (r:Run) (l:List Int) (C:Prop):Prop:=okRun r=true/\l.length<=r.found.length->C
abbrev q135_2 (r:Run) (l:List Int) (C:Nat->Prop):Prop:=q135_1 r l (∀ (x0:Nat),x0<=r.machines.length->decide ((x0:Int) < (↑(r.machines.length):Int))=true->C x0)
theorem w135 (r:Run) (l:List Int)
 (o0:q135_1 r l (0=(↑0:Int)))
 (o1:q135_1 r l (0=(sumTo r (fun (m:Nat)=>minutes (spanOf r l m) r.plates.toNat) 0).lo))
 (o2:q135_1 r l (0=(sumTo r (fun (m:Nat)=>minutes (spanOf r l m) r.plates.toNat) 0).hi))
 (o3:q135_1 r l (0<=r.machines.length))
 (o4:q135_2 r l fun x0=>x0 < r.machines.length)
 (o5:q135_2 r l fun x0=>0<=(x0:Int))
 (o6:q135_2 r l fun x0=>(x0:Int) < (↑(r.machines.length):Int))
 (o7:q135_2 r l fun x0=>inI ((mach r x0).rate * (minutes (spanOf r l x0) r.plates.toNat).lo))
 (o8:q135_2 r l fun x0=>inI ((sumTo r (fun (m:Nat)=>minutes (spanOf r l m) r.plates.toNat) x0).lo + (mach r x0).rate * (minutes (spanOf r l x0) r.plates.toNat).lo))
 (o9:q135_2 r l fun x0=>0<=(x0:Int))
 (o10:q135_2 r l fun x0=>(x0:Int) < (↑(r.machines.length):Int))
 (o11:q135_2 r l fun x0=>inI ((mach r x0).rate * (minutes (spanOf r l x0) r.plates.toNat).hi))
 (o12:q135_2 r l fun x0=>inI ((sumTo r (fun (m:Nat)=>minutes (spanOf r l m) r.plates.toNat) x0).hi + (mach r x0).rate * (minutes (spanOf r l x0) r.plates.toNat).hi))
 (o13:q135_2 r l fun x0=>inI ((x0:Int) + 1))
 (o14:q135_2 r l fun x0=>(x0:Int) + 1=(↑(x0 + 1):Int))
 (o15:q135_2 r l fun x0=>(sumTo r (fun (m:Nat)=>minutes (spanOf r l m) r.plates.toNat) x0).lo + (mach r x0).rate * (minutes (spanOf r l x0) r.plates.toNat).lo=(sumTo r (fun (m:Nat)=>minutes (spanOf r l m) r.plates.toNat) (x0 + 1)).lo)
 (o16:q135_2 r l fun x0=>(sumTo r (fun (m:Nat)=>minutes (spanOf r l m) r.plates.toNat) x0).hi + (mach r x0).rate * (minutes (spanOf r l x0) r.plates.toNat).hi=(sumTo r (fun (m:Nat)=>minutes (spanOf r l m) r.plates.toNat) (x0 + 1)).hi)
 (o17:q135_2 r l fun x0=>x0 + 1<=r.machines.length)
 (o18:q135_2 r l fun x0=>r.machines.length - (x0 + 1) < r.machines.length - x0)
 (o19:q135_1 r l (∀ (x0:Nat),x0<=r.machines.length->decide ((x0:Int) < (↑(r.machines.length):Int))=false->(sumTo r (fun (m:Nat)=>minutes (spanOf r l m) r.plates.toNat) x0).lo=(mixL r l).lo))
 (o20:q135_1 r l (∀ (x0:Nat),x0<=r.machines.length->decide ((x0:Int) < (↑(r.machines.length):Int))=false->(sumTo r (fun (m:Nat)=>minutes (spanOf r l m) r.plates.toNat) x0).hi=(mixL r l).hi)) :
  Triple Try.prog 135 (s135 r l):=by
 refine triple_of Try.func135 rfl Try.call135 T0_ok _ rfl rfl rfl rfl (Nat.le_of_ble_eq_true (by kernel_rfl)) (fun _ _ _ _ h=>h) ?_
 intro hp C hC _ hE
 obtain ⟨P,w0,E0,av,hA⟩:=C
 subst hC
 refine swp_seq ?_
 refine sQ (kt:=[1,2,4]) (kh:=[0,8]) (q:=tn 2) (st':=ASt.mk [(1,aInts l),(2,.ptr 0 []),(4,.ptr 8 [])] [(0,.cells 25 (cRun r)),(8,.cells 37 [iv 0,iv 0])] 16) (tp 2) ?_
 refine swp_seq ?_
 refine sQ (kt:=[1,2,4,5]) (kh:=[0,8,16]) (q:=True/\True) (st':=ASt.mk [(1,aInts l),(2,.ptr 0 []),(4,.ptr 8 []),(5,.ptr 16 [])] [(0,.cells 25 (cRun r)),(8,.cells 37 [iv 0,iv 0]),(16,.cells 37 [iv 0,iv 0])] 24) ⟨tv,tv⟩ ?_
 refine swp_seq (swp_seq ?_)
 refine sQ (kt:=[1,2,4,5,6]) (kh:=[0,8,16]) (q:=True/\True) (st':=ASt.mk [(1,aInts l),(2,.ptr 0 []),(4,.ptr 8 []),(5,.ptr 16 []),(6,iv 0)] [(0,.cells 25 (cRun r)),(8,.cells 37 [iv 0,iv 0]),(16,.cells 37 [iv 0,iv 0])] 32) ⟨tv,tv⟩ ?_
 refine swp_block ?_
 refine swp_loopA (z135_1 r l) (eQ hE [] [(0,.same 0),(8,.same 8),(5000,.same 16)] [1] [0,8] (((zT (aInts l))/\(zP 0)/\(zP 8)/\(zN (iv 0) (iv (↑0:Int)))/\(zP 16)/\True)/\((zT (OB.cells 25 (cRun r)))/\(zT (OB.cells 37 [iv 0,iv 0]))/\(37=37/\((zN (iv 0) (iv (sumTo r (fun (m:Nat)=>minutes (spanOf r l m) r.plates.toNat) 0).lo))/\(zN (iv 0) (iv (sumTo r (fun (m:Nat)=>minutes (spanOf r l m) r.plates.toNat) 0).hi))/\True)/\true=true)/\True)/\T2) ⟨⟨⟨rfl,rfl⟩,⟨rfl,rfl⟩,⟨rfl,rfl⟩,⟨(congrArg iv (o0 hp)),rfl⟩,⟨rfl,rfl⟩,tv⟩,⟨⟨rfl,rfl⟩,⟨rfl,rfl⟩,⟨rfl,⟨⟨(congrArg iv (o1 hp)),rfl⟩,⟨(congrArg iv (o2 hp)),rfl⟩,tv⟩,rfl⟩,tv⟩,rfl,rfl⟩) (o3 hp) (fun (x0:Nat) hx0 => ?_)
 refine swp_seq (swp_seq ?_)
 refine sQ (kt:=[1,2,4,6,5,12]) (kh:=[0,8,5000]) (q:=tn 5) (st':=ASt.mk [(1,aInts l),(2,.ptr 0 []),(4,.ptr 8 []),(6,iv (x0:Int)),(5,.ptr 5000 []),(12,bv (decide ((x0:Int) < (↑(r.machines.length):Int))))] [(0,.cells 25 (cRun r)),(8,.cells 37 [iv 0,iv 0]),(5000,.cells 37 (cSpan (sumTo r (fun (m:Nat)=>minutes (spanOf r l m) r.plates.toNat) x0)))] 10072) (tp 5) ?_
 refine swp_cond (decide ((x0:Int) < (↑(r.machines.length):Int))) (by kernel_rfl) (fun h1 => ?_) (fun h1 => ?_)
 ·refine swp_skip (swp_seq (swp_block (swp_seq ?_)))
  refine sC (cs:=[(3,CallSpec.eq (c135 r l x0) [true,true,true])]) (kt:=[1,2,4,6,5,7]) (kh:=[0,8,5000,10104]) (q:=True/\True/\True/\((zE (AV.agg (cRun r))/\zE (aInts l)/\zE (iv (x0:Int))/\True)/\Triple Try.prog 110 (c135 r l x0)/\(okRun r=true/\l.length<=r.found.length/\x0 < r.machines.length)/\True /\ ∀ (i2:Env),True)/\tn 2) (st':=ASt.mk [(1,aInts l),(2,.ptr 0 []),(4,.ptr 8 []),(6,iv (x0:Int)),(5,.ptr 5000 []),(7,.ptr 10104 [])] [(0,.cells 25 (cRun r)),(8,.cells 37 [iv 0,iv 0]),(5000,.cells 37 (cSpan (sumTo r (fun (m:Nat)=>minutes (spanOf r l m) r.plates.toNat) x0))),(10104,.cells 37 (cSpan (minutes (spanOf r l x0) r.plates.toNat)))] 10120) ⟨tv,tv,tv,⟨⟨rfl,rfl,rfl,tv⟩,(t110 _ _ _),⟨hp.1,hp.2,(o4 hp x0 hx0 h1)⟩,tv,(fun i2=>tv)⟩,tp 2⟩ ?_
  refine sQ (kt:=[1,2,4,6,5]) (kh:=[0,8,5000]) (q:=True/\True/\True/\True/\True/\(0<=(x0:Int)/\(x0:Int) < (↑(r.machines.length):Int))/\True/\True/\True/\True/\inI ((mach r x0).rate * (minutes (spanOf r l x0) r.plates.toNat).lo)/\inI ((sumTo r (fun (m:Nat)=>minutes (spanOf r l m) r.plates.toNat) x0).lo + (mach r x0).rate * (minutes (spanOf r l x0) r.plates.toNat).lo)/\True/\True/\True/\True/\True/\(0<=(x0:Int)/\(x0:Int) < (↑(r.machines.length):Int))/\True/\True/\True/\True/\inI ((mach r x0).rate * (minutes (spanOf r l x0) r.plates.toNat).hi)/\inI ((sumTo r (fun (m:Nat)=>minutes (spanOf r l m) r.plates.toNat) x0).hi + (mach r x0).rate * (minutes (spanOf r l x0) r.plates.toNat).hi)/\tn 2) (st':=ASt.mk [(1,aInts l),(2,.ptr 0 []),(4,.ptr 8 []),(6,iv (x0:Int)),(5,.ptr 5000 [])] [(0,.cells 25 (cRun r)),(8,.cells 37 [iv 0,iv 0]),(5000,.cells 37 [iv ((sumTo r (fun (m:Nat)=>minutes (spanOf r l m) r.plates.toNat) x0).lo + (mach r x0).rate * (minutes (spanOf r l x0) r.plates.toNat).lo),iv ((sumTo r (fun (m:Nat)=>minutes (spanOf r l m) r.plates.toNat) x0).hi + (mach r x0).rate * (minutes (spanOf r l x0) r.plates.toNat).hi)])] 10328) ⟨tv,tv,tv,tv,tv,⟨(o5 hp x0 hx0 h1),(o6 hp x0 hx0 h1)⟩,tv,tv,tv,tv,(o7 hp x0 hx0 h1),(o8 hp x0 hx0 h1),tv,tv,tv,tv,tv,⟨(o9 hp x0 hx0 h1),(o10 hp x0 hx0 h1)⟩,tv,tv,tv,tv,(o11 hp x0 hx0 h1),(o12 hp x0 hx0 h1),tp 2⟩ ?_
  refine sQ (kt:=[1,2,4,6,5]) (kh:=[0,8,5000]) (q:=True/\inI ((x0:Int) + 1)/\True/\True) (st':=ASt.mk [(1,aInts l),(2,.ptr 0 []),(4,.ptr 8 []),(6,iv ((x0:Int) + 1)),(5,.ptr 5000 [])] [(0,.cells 25 (cRun r)),(8,.cells 37 [iv 0,iv 0]),(5000,.cells 37 [iv ((sumTo r (fun (m:Nat)=>minutes (spanOf r l m) r.plates.toNat) x0).lo + (mach r x0).rate * (minutes (spanOf r l x0) r.plates.toNat).lo),iv ((sumTo r (fun (m:Nat)=>minutes (spanOf r l m) r.plates.toNat) x0).hi + (mach r x0).rate * (minutes (spanOf r l x0) r.plates.toNat).hi)])] 10352) ⟨tv,(o13 hp x0 hx0 h1),tv,tv⟩ ?_
  exact loop_next (z135_1 r l) x0 (eQ hE [] [(0,.same 0),(8,.same 8),(5000,.same 5000)] [1] [0,8] (((zT (aInts l))/\(zP 0)/\(zP 8)/\(zN (iv ((x0:Int) + 1)) (iv (↑(x0 + 1):Int)))/\(zP 5000)/\True)/\((zT (OB.cells 25 (cRun r)))/\(zT (OB.cells 37 [iv 0,iv 0]))/\(37=37/\((zN (iv ((sumTo r (fun (m:Nat)=>minutes (spanOf r l m) r.plates.toNat) x0).lo + (mach r x0).rate * (minutes (spanOf r l x0) r.plates.toNat).lo)) (iv (sumTo r (fun (m:Nat)=>minutes (spanOf r l m) r.plates.toNat) (x0 + 1)).lo))/\(zN (iv ((sumTo r (fun (m:Nat)=>minutes (spanOf r l m) r.plates.toNat) x0).hi + (mach r x0).rate * (minutes (spanOf r l x0) r.plates.toNat).hi)) (iv (sumTo r (fun (m:Nat)=>minutes (spanOf r l m) r.plates.toNat) (x0 + 1)).hi))/\True)/\true=true)/\True)/\T2) ⟨⟨⟨rfl,rfl⟩,⟨rfl,rfl⟩,⟨rfl,rfl⟩,⟨(congrArg iv (o14 hp x0 hx0 h1)),rfl⟩,⟨rfl,rfl⟩,tv⟩,⟨⟨rfl,rfl⟩,⟨rfl,rfl⟩,⟨rfl,⟨⟨(congrArg iv (o15 hp x0 hx0 h1)),rfl⟩,⟨(congrArg iv (o16 hp x0 hx0 h1)),rfl⟩,tv⟩,rfl⟩,tv⟩,rfl,rfl⟩) (o17 hp x0 hx0 h1) (o18 hp x0 hx0 h1)
 ·refine swp_exit (swp_seq ?_)
  refine sQ (kt:=[4]) (kh:=[8]) (q:=tn 2) (st':=ASt.mk [(4,.ptr 8 [])] [(8,.cells 37 (cSpan (sumTo r (fun (m:Nat)=>minutes (spanOf r l m) r.plates.toNat) x0)))] 10088) (tp 2) ?_
  refine swp_ret ?_
  exact rQ [] ((True/\True)/\((zN (iv (sumTo r (fun (m:Nat)=>minutes (spanOf r l m) r.plates.toNat) x0).lo) (iv (mixL r l).lo))/\(zN (iv (sumTo r (fun (m:Nat)=>minutes (spanOf r l m) r.plates.toNat) x0).hi) (iv (mixL r l).hi))/\True)/\T3) ⟨⟨tv,tv⟩,⟨⟨(congrArg iv (o19 hp x0 hx0 h1)),rfl⟩,⟨(congrArg iv (o20 hp x0 hx0 h1)),rfl⟩,tv⟩,rfl,rfl,rfl⟩
theorem t135 (r:Run) (l:List Int):Triple Try.prog 135 (s135 r l):=by
  apply w135
  all_goals (first
    | ((repeat intro _) <;> (try simp only [v0,v1,v2,v3,v4,v5,v6,v7,v8,v9,inI,fits,Go.Sh.small] at *) <;> first | (exact rfl) | omega | exact vz | (simp_all; done) | (simp_all; omega))
    | ((repeat intro _); rw [sumTo_succ]; done)
    | (intro hp x hx hl; rw [show x=r.machines.length by simp only [decide_eq_false_iff_not] at hl; omega] <;> rfl)
    | (intro hp x hx hl
       have ok:=ok_of hp.1
       simp only [decide_eq_true_eq] at hl
       have hg:∀ m,sb (minutes (spanOf r l m) r.plates.toNat):=fun m=>minTo_b (fun q=>spanOf_b ok l m q) _ _
       have h1:=hg x
       have h2:=sumTo_b (rb_of ok) (f:=fun m=>minutes (spanOf r l m) r.plates.toNat) hg x (by omega)
       have h3:=(rb_of ok).2 x (by omega)
       have h4:=rate_mul h3 ⟨h1.1,h1.2.1⟩
       have h5:=rate_mul h3 ⟨h1.2.2.1,h1.2.2.2⟩
       have h6:=ok.machines
       have h7:=ok.plates
       try simp only [inI]
       first | omega | exact hp.1 | exact hp.2)
    | skip)
abbrev z111_1 (r:Run) (l:List (List Int)) (f:Nat) (m:Int):LoopAnn:=Hint.ann (h111 r l f m) [(1,aIntss l),(2,iv (f:Int)),(3,iv m),(4,AV.ptr 0 []),(8,AV.ptr 8 [])] [(0,OB.cells 25 (cRun r)),(8,OB.cells 37 [iv 0,iv 0])] 10040
abbrev q111_1 (r:Run) (l:List (List Int)) (f:Nat) (m:Int) (C:Prop):Prop:=okRun r=true/\l.length<=65536/\(∀ (x:Nat),x < l.length->(l.getD x []).length=r.found.length)/\(0<=m->f < r.found.length)->C
abbrev q111_2 (r:Run) (l:List (List Int)) (f:Nat) (m:Int) (C:Nat->Prop):Prop:=q111_1 r l f m (∀ (x0:Nat),x0<=l.length->decide ((x0:Int) < (↑(l.length):Int))=true->C x0)
abbrev q111_3 (r:Run) (l:List (List Int)) (f:Nat) (m:Int) (C:Nat->Prop):Prop:=q111_2 r l f m fun x0=>(bif decide (0<=m) then !decide ((l.getD x0 []).getD f 0=m) else false)=true->C x0
abbrev q111_4 (r:Run) (l:List (List Int)) (f:Nat) (m:Int) (C:Nat->Prop):Prop:=q111_2 r l f m fun x0=>(bif decide (0<=m) then !decide ((l.getD x0 []).getD f 0=m) else false)=false->C x0
abbrev q111_5 (r:Run) (l:List (List Int)) (f:Nat) (m:Int) (C:Nat->Prop):Prop:=q111_4 r l f m fun x0=>(allTo r l f m x0).1=true->C x0
abbrev q111_6 (r:Run) (l:List (List Int)) (f:Nat) (m:Int) (C:Nat->Prop):Prop:=q111_4 r l f m fun x0=>(allTo r l f m x0).1=false->C x0
theorem w111 (r:Run) (l:List (List Int)) (f:Nat) (m:Int)
 (o0:q111_1 r l f m (false=(allTo r l f m 0).1))
 (o1:q111_1 r l f m (0=(↑0:Int)))
 (o2:q111_1 r l f m (0=(allTo r l f m 0).2.lo))
 (o3:q111_1 r l f m (0=(allTo r l f m 0).2.hi))
 (o4:q111_1 r l f m (0<=l.length))
 (o5:q111_2 r l f m fun x0=>decide (0<=m)=true->0<=(x0:Int))
 (o6:q111_2 r l f m fun x0=>decide (0<=m)=true->(x0:Int) < (↑(l.length):Int))
 (o7:q111_2 r l f m fun x0=>decide (0<=m)=true->0<=(f:Int))
 (o8:q111_2 r l f m fun x0=>decide (0<=m)=true->(f:Int) < (↑((l.getD x0 []).length):Int))
 (o9:q111_3 r l f m fun x0=>inI ((x0:Int) + 1))
 (o10:q111_3 r l f m fun x0=>(allTo r l f m x0).1=(allTo r l f m (x0 + 1)).1)
 (o11:q111_3 r l f m fun x0=>(x0:Int) + 1=(↑(x0 + 1):Int))
 (o12:q111_3 r l f m fun x0=>(allTo r l f m x0).2.lo=(allTo r l f m (x0 + 1)).2.lo)
 (o13:q111_3 r l f m fun x0=>(allTo r l f m x0).2.hi=(allTo r l f m (x0 + 1)).2.hi)
 (o14:q111_3 r l f m fun x0=>x0 + 1<=l.length)
 (o15:q111_3 r l f m fun x0=>l.length - (x0 + 1) < l.length - x0)
 (o16:q111_4 r l f m fun x0=>0<=(x0:Int))
 (o17:q111_4 r l f m fun x0=>(x0:Int) < (↑(l.length):Int))
 (o18:q111_4 r l f m fun x0=>(l.getD x0 []).length<=r.found.length)
 (o19:q111_5 r l f m fun x0=>inI ((x0:Int) + 1))
 (o20:q111_5 r l f m fun x0=>true=(allTo r l f m (x0 + 1)).1)
 (o21:q111_5 r l f m fun x0=>(x0:Int) + 1=(↑(x0 + 1):Int))
 (o22:q111_5 r l f m fun x0=>(hull2 (allTo r l f m x0).2 (mixL r (l.getD x0 []))).lo=(allTo r l f m (x0 + 1)).2.lo)
 (o23:q111_5 r l f m fun x0=>(hull2 (allTo r l f m x0).2 (mixL r (l.getD x0 []))).hi=(allTo r l f m (x0 + 1)).2.hi)
 (o24:q111_5 r l f m fun x0=>x0 + 1<=l.length)
 (o25:q111_5 r l f m fun x0=>l.length - (x0 + 1) < l.length - x0)
 (o26:q111_6 r l f m fun x0=>inI ((x0:Int) + 1))
 (o27:q111_6 r l f m fun x0=>true=(allTo r l f m (x0 + 1)).1)
 (o28:q111_6 r l f m fun x0=>(x0:Int) + 1=(↑(x0 + 1):Int))
 (o29:q111_6 r l f m fun x0=>(mixL r (l.getD x0 [])).lo=(allTo r l f m (x0 + 1)).2.lo)
 (o30:q111_6 r l f m fun x0=>(mixL r (l.getD x0 [])).hi=(allTo r l f m (x0 + 1)).2.hi)
 (o31:q111_6 r l f m fun x0=>x0 + 1<=l.length)
 (o32:q111_6 r l f m fun x0=>l.length - (x0 + 1) < l.length - x0)
 (o33:q111_1 r l f m (∀ (x0:Nat),x0<=l.length->decide ((x0:Int) < (↑(l.length):Int))=false->(allTo r l f m x0).2.lo=(allMixes r l f m).lo))
 (o34:q111_1 r l f m (∀ (x0:Nat),x0<=l.length->decide ((x0:Int) < (↑(l.length):Int))=false->(allTo r l f m x0).2.hi=(allMixes r l f m).hi)) :
  Triple Try.prog 111 (s111 r l f m):=by
 refine triple_of Try.func111 rfl Try.call111 T0_ok _ rfl rfl rfl rfl (Nat.le_of_ble_eq_true (by kernel_rfl)) (fun _ _ _ _ h=>h) ?_
 intro hp C hC _ hE
 obtain ⟨P,w0,E0,av,hA⟩:=C
 subst hC
 refine swp_seq ?_
 refine sQ (kt:=[1,2,3,4,8]) (kh:=[0,8]) (q:=tn 2) (st':=ASt.mk [(1,aIntss l),(2,iv (f:Int)),(3,iv m),(4,.ptr 0 []),(8,.ptr 8 [])] [(0,.cells 25 (cRun r)),(8,.cells 37 [iv 0,iv 0])] 16) (tp 2) ?_
 refine swp_seq ?_
 refine sQ (kt:=[1,2,3,4,8,9]) (kh:=[0,8]) (q:=True/\True) (st':=ASt.mk [(1,aIntss l),(2,iv (f:Int)),(3,iv m),(4,.ptr 0 []),(8,.ptr 8 []),(9,bv false)] [(0,.cells 25 (cRun r)),(8,.cells 37 [iv 0,iv 0])] 24) ⟨tv,tv⟩ ?_
 refine swp_seq ?_
 refine sQ (kt:=[1,2,3,4,8,9,10]) (kh:=[0,8,24]) (q:=True/\True) (st':=ASt.mk [(1,aIntss l),(2,iv (f:Int)),(3,iv m),(4,.ptr 0 []),(8,.ptr 8 []),(9,bv false),(10,.ptr 24 [])] [(0,.cells 25 (cRun r)),(8,.cells 37 [iv 0,iv 0]),(24,.cells 37 [iv 0,iv 0])] 32) ⟨tv,tv⟩ ?_
 refine swp_seq (swp_seq ?_)
 refine sQ (kt:=[1,2,3,4,8,9,10,11]) (kh:=[0,8,24]) (q:=True/\True) (st':=ASt.mk [(1,aIntss l),(2,iv (f:Int)),(3,iv m),(4,.ptr 0 []),(8,.ptr 8 []),(9,bv false),(10,.ptr 24 []),(11,iv 0)] [(0,.cells 25 (cRun r)),(8,.cells 37 [iv 0,iv 0]),(24,.cells 37 [iv 0,iv 0])] 40) ⟨tv,tv⟩ ?_
 refine swp_block ?_
 refine swp_loopA (z111_1 r l f m) (eQ hE [] [(0,.same 0),(8,.same 8),(5000,.same 24)] [1,2,3] [0,8] (((zT (aIntss l))/\(zT (iv (f:Int)))/\(zT (iv m))/\(zP 0)/\(zP 8)/\(zN (bv false) (bv (allTo r l f m 0).1))/\(zN (iv 0) (iv (↑0:Int)))/\(zP 24)/\True)/\((zT (OB.cells 25 (cRun r)))/\(zT (OB.cells 37 [iv 0,iv 0]))/\(37=37/\((zN (iv 0) (iv (allTo r l f m 0).2.lo))/\(zN (iv 0) (iv (allTo r l f m 0).2.hi))/\True)/\true=true)/\True)/\T2) ⟨⟨⟨rfl,rfl⟩,⟨rfl,rfl⟩,⟨rfl,rfl⟩,⟨rfl,rfl⟩,⟨rfl,rfl⟩,⟨(congrArg bv (o0 hp)),rfl⟩,⟨(congrArg iv (o1 hp)),rfl⟩,⟨rfl,rfl⟩,tv⟩,⟨⟨rfl,rfl⟩,⟨rfl,rfl⟩,⟨rfl,⟨⟨(congrArg iv (o2 hp)),rfl⟩,⟨(congrArg iv (o3 hp)),rfl⟩,tv⟩,rfl⟩,tv⟩,rfl,rfl⟩) (o4 hp) (fun (x0:Nat) hx0 => ?_)
 refine swp_seq (swp_seq ?_)
 refine sQ (kt:=[1,2,3,4,8,9,11,10,16]) (kh:=[0,8,5000]) (q:=tn 4) (st':=ASt.mk [(1,aIntss l),(2,iv (f:Int)),(3,iv m),(4,.ptr 0 []),(8,.ptr 8 []),(9,bv (allTo r l f m x0).1),(11,iv (x0:Int)),(10,.ptr 5000 []),(16,bv (decide ((x0:Int) < (↑(l.length):Int))))] [(0,.cells 25 (cRun r)),(8,.cells 37 [iv 0,iv 0]),(5000,.cells 37 (cSpan (allTo r l f m x0).2))] 10072) (tp 4) ?_
 refine swp_cond (decide ((x0:Int) < (↑(l.length):Int))) (by kernel_rfl) (fun h1 => ?_) (fun h1 => ?_)
 ·refine swp_skip (swp_seq (swp_block (swp_seq (swp_seq ?_))))
  refine sQ (kt:=[1,2,3,4,8,9,11,10,31]) (kh:=[0,8,5000]) (q:=True/\True/\True/\(decide (0<=m)=true->(True/\True)/\True)/\(decide (0<=m)=true->(True/\True)/\True)/\(decide (0<=m)=true->((decide (0<=m)=true->decide (0<=m)=true)/\(decide (0<=m)=true->decide (0<=m)=true)/\True)/\0<=(x0:Int)/\(x0:Int) < (↑(l.length):Int))/\(decide (0<=m)=true->((decide (0<=m)=true->decide (0<=m)=true)/\True)/\True)/\(decide (0<=m)=true->(True/\True)/\True)/\(decide (0<=m)=true->((decide (0<=m)=true->decide (0<=m)=true)/\(decide (0<=m)=true->decide (0<=m)=true)/\True)/\0<=(f:Int)/\(f:Int) < (↑((l.getD x0 []).length):Int))/\(decide (0<=m)=true->((decide (0<=m)=true->decide (0<=m)=true)/\True)/\True)/\(decide (0<=m)=true->(True/\True)/\True)/\(decide (0<=m)=true->((decide (0<=m)=true->decide (0<=m)=true)/\(decide (0<=m)=true->decide (0<=m)=true)/\True)/\True)/\((decide (0<=m)=true->decide (0<=m)=true)/\(decide (0<=m)=false->True))/\True) (st':=ASt.mk [(1,aIntss l),(2,iv (f:Int)),(3,iv m),(4,.ptr 0 []),(8,.ptr 8 []),(9,bv (allTo r l f m x0).1),(11,iv (x0:Int)),(10,.ptr 5000 []),(31,bv (bif decide (0<=m) then !decide ((l.getD x0 []).getD f 0=m) else false))] [(0,.cells 25 (cRun r)),(8,.cells 37 [iv 0,iv 0]),(5000,.cells 37 (cSpan (allTo r l f m x0).2))] 10176) ⟨tv,tv,tv,(fun h2=>⟨⟨tv,tv⟩,tv⟩),(fun h3=>⟨⟨tv,tv⟩,tv⟩),(fun h4=>⟨⟨(fun h5=>h4),(fun h6=>h4),tv⟩,(o5 hp x0 hx0 h1 h4),(o6 hp x0 hx0 h1 h4)⟩),(fun h7=>⟨⟨(fun h8=>h7),tv⟩,tv⟩),(fun h9=>⟨⟨tv,tv⟩,tv⟩),(fun h10=>⟨⟨(fun h11=>h10),(fun h12=>h10),tv⟩,(o7 hp x0 hx0 h1 h10),(o8 hp x0 hx0 h1 h10)⟩),(fun h13=>⟨⟨(fun h14=>h13),tv⟩,tv⟩),(fun h15=>⟨⟨tv,tv⟩,tv⟩),(fun h16=>⟨⟨(fun h17=>h16),(fun h18=>h16),tv⟩,tv⟩),⟨(fun h19=>h19),(fun h20=>tv)⟩,tv⟩ ?_
  refine swp_cond (bif decide (0<=m) then !decide ((l.getD x0 []).getD f 0=m) else false) (by kernel_rfl) (fun h21 => ?_) (fun h21 => ?_)
  ·refine swp_exit ?_
   refine sQ (kt:=[1,2,3,4,8,9,11,10]) (kh:=[0,8,5000]) (q:=True/\inI ((x0:Int) + 1)/\True/\True) (st':=ASt.mk [(1,aIntss l),(2,iv (f:Int)),(3,iv m),(4,.ptr 0 []),(8,.ptr 8 []),(9,bv (allTo r l f m x0).1),(11,iv ((x0:Int) + 1)),(10,.ptr 5000 [])] [(0,.cells 25 (cRun r)),(8,.cells 37 [iv 0,iv 0]),(5000,.cells 37 (cSpan (allTo r l f m x0).2))] 10200) ⟨tv,(o9 hp x0 hx0 h1 h21),tv,tv⟩ ?_
   exact loop_next (z111_1 r l f m) x0 (eQ hE [] [(0,.same 0),(8,.same 8),(5000,.same 5000)] [1,2,3] [0,8] (((zT (aIntss l))/\(zT (iv (f:Int)))/\(zT (iv m))/\(zP 0)/\(zP 8)/\(zN (bv (allTo r l f m x0).1) (bv (allTo r l f m (x0 + 1)).1))/\(zN (iv ((x0:Int) + 1)) (iv (↑(x0 + 1):Int)))/\(zP 5000)/\True)/\((zT (OB.cells 25 (cRun r)))/\(zT (OB.cells 37 [iv 0,iv 0]))/\(37=37/\((zN (iv (allTo r l f m x0).2.lo) (iv (allTo r l f m (x0 + 1)).2.lo))/\(zN (iv (allTo r l f m x0).2.hi) (iv (allTo r l f m (x0 + 1)).2.hi))/\True)/\true=true)/\True)/\T2) ⟨⟨⟨rfl,rfl⟩,⟨rfl,rfl⟩,⟨rfl,rfl⟩,⟨rfl,rfl⟩,⟨rfl,rfl⟩,⟨(congrArg bv (o10 hp x0 hx0 h1 h21)),rfl⟩,⟨(congrArg iv (o11 hp x0 hx0 h1 h21)),rfl⟩,⟨rfl,rfl⟩,tv⟩,⟨⟨rfl,rfl⟩,⟨rfl,rfl⟩,⟨rfl,⟨⟨(congrArg iv (o12 hp x0 hx0 h1 h21)),rfl⟩,⟨(congrArg iv (o13 hp x0 hx0 h1 h21)),rfl⟩,tv⟩,rfl⟩,tv⟩,rfl,rfl⟩) (o14 hp x0 hx0 h1 h21) (o15 hp x0 hx0 h1 h21)
  ·refine swp_skip (swp_seq ?_)
   refine sC (cs:=[(5,CallSpec.eq (s135 r (l.getD x0 [])) [true,true])]) (kt:=[1,2,3,4,8,9,11,10,12]) (kh:=[0,8,5000,10224]) (q:=True/\True/\True/\(0<=(x0:Int)/\(x0:Int) < (↑(l.length):Int))/\True/\((zE (AV.agg (cRun r))/\zE (aInts (l.getD x0 []))/\True)/\Triple Try.prog 135 (s135 r (l.getD x0 []))/\(okRun r=true/\(l.getD x0 []).length<=r.found.length)/\True /\ ∀ (i22:Env),True)/\tn 2) (st':=ASt.mk [(1,aIntss l),(2,iv (f:Int)),(3,iv m),(4,.ptr 0 []),(8,.ptr 8 []),(9,bv (allTo r l f m x0).1),(11,iv (x0:Int)),(10,.ptr 5000 []),(12,.ptr 10224 [])] [(0,.cells 25 (cRun r)),(8,.cells 37 [iv 0,iv 0]),(5000,.cells 37 (cSpan (allTo r l f m x0).2)),(10224,.cells 37 (cSpan (mixL r (l.getD x0 []))))] 10240) ⟨tv,tv,tv,⟨(o16 hp x0 hx0 h1 h21),(o17 hp x0 hx0 h1 h21)⟩,tv,⟨⟨rfl,rfl,tv⟩,(t135 (r) (l.getD x0 [])),⟨hp.1,(o18 hp x0 hx0 h1 h21)⟩,tv,(fun i22=>tv)⟩,tp 2⟩ ?_
   refine swp_seq (swp_seq ?_)
   refine sQ (kt:=[1,2,3,4,8,11,10,12,38]) (kh:=[0,8,5000,10224]) (q:=True/\True) (st':=ASt.mk [(1,aIntss l),(2,iv (f:Int)),(3,iv m),(4,.ptr 0 []),(8,.ptr 8 []),(11,iv (x0:Int)),(10,.ptr 5000 []),(12,.ptr 10224 []),(38,bv (allTo r l f m x0).1)] [(0,.cells 25 (cRun r)),(8,.cells 37 [iv 0,iv 0]),(5000,.cells 37 (cSpan (allTo r l f m x0).2)),(10224,.cells 37 (cSpan (mixL r (l.getD x0 []))))] 10248) ⟨tv,tv⟩ ?_
   refine swp_cond (allTo r l f m x0).1 (by kernel_rfl) (fun h23 => ?_) (fun h23 => ?_)
   ·refine sC (cs:=[(2,CallSpec.eq (s89 (allTo r l f m x0).2 (mixL r (l.getD x0 []))) [true,true])]) (kt:=[1,2,3,4,8,11,10,12]) (kh:=[0,8,5000,10224]) (q:=True/\True/\((zE (AV.agg (cSpan (allTo r l f m x0).2))/\zE (AV.agg (cSpan (mixL r (l.getD x0 []))))/\True)/\Triple Try.prog 89 (s89 (allTo r l f m x0).2 (mixL r (l.getD x0 [])))/\True/\True /\ ∀ (i24:Env),True)/\True/\True) (st':=ASt.mk [(1,aIntss l),(2,iv (f:Int)),(3,iv m),(4,.ptr 0 []),(8,.ptr 8 []),(11,iv (x0:Int)),(10,.ptr 5000 []),(12,.ptr 10224 [])] [(0,.cells 25 (cRun r)),(8,.cells 37 [iv 0,iv 0]),(5000,.cells 37 (cSpan (allTo r l f m x0).2)),(10224,.cells 37 (cSpan (hull2 (allTo r l f m x0).2 (mixL r (l.getD x0 [])))))] 10280) ⟨tv,tv,⟨⟨rfl,rfl,tv⟩,(t89 (allTo r l f m x0).2 (mixL r (l.getD x0 []))),tv,tv,(fun i24=>tv)⟩,tv,tv⟩ ?_
    refine sQ (kt:=[1,2,3,4,8,11,10,9]) (kh:=[0,8,5000]) (q:=tn 3) (st':=ASt.mk [(1,aIntss l),(2,iv (f:Int)),(3,iv m),(4,.ptr 0 []),(8,.ptr 8 []),(11,iv (x0:Int)),(10,.ptr 5000 []),(9,bv true)] [(0,.cells 25 (cRun r)),(8,.cells 37 [iv 0,iv 0]),(5000,.cells 37 (cSpan (hull2 (allTo r l f m x0).2 (mixL r (l.getD x0 [])))))] 10304) (tp 3) ?_
    refine sQ (kt:=[1,2,3,4,8,11,10,9]) (kh:=[0,8,5000]) (q:=True/\inI ((x0:Int) + 1)/\True/\True) (st':=ASt.mk [(1,aIntss l),(2,iv (f:Int)),(3,iv m),(4,.ptr 0 []),(8,.ptr 8 []),(11,iv ((x0:Int) + 1)),(10,.ptr 5000 []),(9,bv true)] [(0,.cells 25 (cRun r)),(8,.cells 37 [iv 0,iv 0]),(5000,.cells 37 (cSpan (hull2 (allTo r l f m x0).2 (mixL r (l.getD x0 [])))))] 10328) ⟨tv,(o19 hp x0 hx0 h1 h21 h23),tv,tv⟩ ?_
    exact loop_next (z111_1 r l f m) x0 (eQ hE [] [(0,.same 0),(8,.same 8),(5000,.same 5000)] [1,2,3] [0,8] (((zT (aIntss l))/\(zT (iv (f:Int)))/\(zT (iv m))/\(zP 0)/\(zP 8)/\(zN (bv true) (bv (allTo r l f m (x0 + 1)).1))/\(zN (iv ((x0:Int) + 1)) (iv (↑(x0 + 1):Int)))/\(zP 5000)/\True)/\((zT (OB.cells 25 (cRun r)))/\(zT (OB.cells 37 [iv 0,iv 0]))/\(37=37/\((zN (iv (hull2 (allTo r l f m x0).2 (mixL r (l.getD x0 []))).lo) (iv (allTo r l f m (x0 + 1)).2.lo))/\(zN (iv (hull2 (allTo r l f m x0).2 (mixL r (l.getD x0 []))).hi) (iv (allTo r l f m (x0 + 1)).2.hi))/\True)/\true=true)/\True)/\T2) ⟨⟨⟨rfl,rfl⟩,⟨rfl,rfl⟩,⟨rfl,rfl⟩,⟨rfl,rfl⟩,⟨rfl,rfl⟩,⟨(congrArg bv (o20 hp x0 hx0 h1 h21 h23)),rfl⟩,⟨(congrArg iv (o21 hp x0 hx0 h1 h21 h23)),rfl⟩,⟨rfl,rfl⟩,tv⟩,⟨⟨rfl,rfl⟩,⟨rfl,rfl⟩,⟨rfl,⟨⟨(congrArg iv (o22 hp x0 hx0 h1 h21 h23)),rfl⟩,⟨(congrArg iv (o23 hp x0 hx0 h1 h21 h23)),rfl⟩,tv⟩,rfl⟩,tv⟩,rfl,rfl⟩) (o24 hp x0 hx0 h1 h21 h23) (o25 hp x0 hx0 h1 h21 h23)
   ·refine swp_skip ?_
    refine sQ (kt:=[1,2,3,4,8,11,10,9]) (kh:=[0,8,5000]) (q:=tn 3) (st':=ASt.mk [(1,aIntss l),(2,iv (f:Int)),(3,iv m),(4,.ptr 0 []),(8,.ptr 8 []),(11,iv (x0:Int)),(10,.ptr 5000 []),(9,bv true)] [(0,.cells 25 (cRun r)),(8,.cells 37 [iv 0,iv 0]),(5000,.cells 37 (cSpan (mixL r (l.getD x0 []))))] 10272) (tp 3) ?_
    refine sQ (kt:=[1,2,3,4,8,11,10,9]) (kh:=[0,8,5000]) (q:=True/\inI ((x0:Int) + 1)/\True/\True) (st':=ASt.mk [(1,aIntss l),(2,iv (f:Int)),(3,iv m),(4,.ptr 0 []),(8,.ptr 8 []),(11,iv ((x0:Int) + 1)),(10,.ptr 5000 []),(9,bv true)] [(0,.cells 25 (cRun r)),(8,.cells 37 [iv 0,iv 0]),(5000,.cells 37 (cSpan (mixL r (l.getD x0 []))))] 10296) ⟨tv,(o26 hp x0 hx0 h1 h21 h23),tv,tv⟩ ?_
    exact loop_next (z111_1 r l f m) x0 (eQ hE [] [(0,.same 0),(8,.same 8),(5000,.same 5000)] [1,2,3] [0,8] (((zT (aIntss l))/\(zT (iv (f:Int)))/\(zT (iv m))/\(zP 0)/\(zP 8)/\(zN (bv true) (bv (allTo r l f m (x0 + 1)).1))/\(zN (iv ((x0:Int) + 1)) (iv (↑(x0 + 1):Int)))/\(zP 5000)/\True)/\((zT (OB.cells 25 (cRun r)))/\(zT (OB.cells 37 [iv 0,iv 0]))/\(37=37/\((zN (iv (mixL r (l.getD x0 [])).lo) (iv (allTo r l f m (x0 + 1)).2.lo))/\(zN (iv (mixL r (l.getD x0 [])).hi) (iv (allTo r l f m (x0 + 1)).2.hi))/\True)/\true=true)/\True)/\T2) ⟨⟨⟨rfl,rfl⟩,⟨rfl,rfl⟩,⟨rfl,rfl⟩,⟨rfl,rfl⟩,⟨rfl,rfl⟩,⟨(congrArg bv (o27 hp x0 hx0 h1 h21 h23)),rfl⟩,⟨(congrArg iv (o28 hp x0 hx0 h1 h21 h23)),rfl⟩,⟨rfl,rfl⟩,tv⟩,⟨⟨rfl,rfl⟩,⟨rfl,rfl⟩,⟨rfl,⟨⟨(congrArg iv (o29 hp x0 hx0 h1 h21 h23)),rfl⟩,⟨(congrArg iv (o30 hp x0 hx0 h1 h21 h23)),rfl⟩,tv⟩,rfl⟩,tv⟩,rfl,rfl⟩) (o31 hp x0 hx0 h1 h21 h23) (o32 hp x0 hx0 h1 h21 h23)
 ·refine swp_exit (swp_seq ?_)
  refine sQ (kt:=[8]) (kh:=[8]) (q:=tn 2) (st':=ASt.mk [(8,.ptr 8 [])] [(8,.cells 37 (cSpan (allTo r l f m x0).2))] 10088) (tp 2) ?_
  refine swp_ret ?_
  exact rQ [] ((True/\True)/\((zN (iv (allTo r l f m x0).2.lo) (iv (allMixes r l f m).lo))/\(zN (iv (allTo r l f m x0).2.hi) (iv (allMixes r l f m).hi))/\True)/\T3) ⟨⟨tv,tv⟩,⟨⟨(congrArg iv (o33 hp x0 hx0 h1)),rfl⟩,⟨(congrArg iv (o34 hp x0 hx0 h1)),rfl⟩,tv⟩,rfl,rfl,rfl⟩
theorem t111 (r:Run) (l:List (List Int)) (f:Nat) (m:Int):Triple Try.prog 111 (s111 r l f m):=by
 have sk:∀ (x:List Int) {b:Bool},(bif decide (0<=m) then !decide (x.getD f 0=m) else false)=b->skipL f m x=b:=by
  intro x b h; rw [skipL]; cases e:decide (0<=m) <;> rw [e] at h <;> exact h
 apply w111
 all_goals (first
  | ((repeat intro _) <;> (try simp only [v0,v1,v2,v3,v4,v5,v6,v7,v8,v9,inI,fits,Go.Sh.small] at *) <;> first | (exact rfl) | omega | exact vz | (simp_all; done) | (simp_all; omega))
  | (intro hp x hx hl e; rw [all_skip (sk _ e)]; done)
  | (intro hp x hx hl e e2; rw [all_t (sk _ e) e2] <;> rfl)
  | (intro hp x hx hl e e2; rw [all_f (sk _ e) e2] <;> rfl)
  | (intro hp x hx hl; rw [show x=l.length by simp only [decide_eq_false_iff_not] at hl; omega] <;> rfl)
  | (intro hp x hx hl; simp only [decide_eq_true_eq] at hl; have:=hp.2.2.1 x (by omega); (repeat intro _); simp only [decide_eq_true_eq] at *; omega))
abbrev q68_1 (r:Run) (C:Prop):Prop:=fits r->(!decide (rfE r true=0))=false->C
theorem w68 (r:Run)
 (o0:fits r->(!decide (rfE r true=0))->0=(mixesR r).lo)
 (o1:fits r->(!decide (rfE r true=0))->0=(mixesR r).hi)
 (o2:q68_1 r (0=(↑0:Int)))
 (o3:q68_1 r (okRun r=true))
 (o4:q68_1 r ((rfL r true).length<=65536))
 (o5:q68_1 r (∀ (i2:Nat),i2 < (rfL r true).length->((rfL r true).getD i2 []).length=r.found.length))
 (o6:q68_1 r (0 <= -1->0 < r.found.length))
 (o7:q68_1 r ((allMixes r (rfL r true) 0 (-1)).lo=(mixesR r).lo))
 (o8:q68_1 r ((allMixes r (rfL r true) 0 (-1)).hi=(mixesR r).hi))
 (o9:q68_1 r (0=rfE r true)) :
  Triple Try.prog 68 (s68 r):=by
 refine triple_of Try.func68 rfl Try.call68 T0_ok _ rfl rfl rfl rfl (Nat.le_of_ble_eq_true (by kernel_rfl)) (fun _ _ _ _ h=>h) ?_
 intro hp C hC _ hE
 obtain ⟨P,w0,E0,av,hA⟩:=C
 subst hC
 refine swp_seq ?_
 refine sQ (kt:=[1,2]) (kh:=[0,8]) (q:=tn 3) (st':=ASt.mk [(1,.ptr 0 []),(2,.ptr 8 [])] [(0,.cells 25 (cRun r)),(8,.cells 37 [iv 0,iv 0])] 24) (tp 3) ?_
 refine swp_seq ?_
 refine sC (cs:=[(1,CallSpec.eq (s87 r true) [true,true])]) (kt:=[1,2,4,5]) (kh:=[0,8]) (q:=True/\((zE (AV.agg (cRun r))/\zE (bv true)/\True)/\Triple Try.prog 87 (s87 r true)/\fits r/\True /\ ∀ (i0:Env),True)/\tn 5) (st':=ASt.mk [(1,.ptr 0 []),(2,.ptr 8 []),(4,aIntss (rfL r true)),(5,iv (rfE r true))] [(0,.cells 25 (cRun r)),(8,.cells 37 [iv 0,iv 0])] 80) ⟨tv,⟨⟨rfl,rfl,tv⟩,(t87 (r) (true)),hp,tv,(fun i0=>tv)⟩,tp 5⟩ ?_
 refine swp_seq (swp_seq ?_)
 refine sQ (kt:=[1,2,4,5,12]) (kh:=[0,8]) (q:=tn 2) (st':=ASt.mk [(1,.ptr 0 []),(2,.ptr 8 []),(4,aIntss (rfL r true)),(5,iv (rfE r true)),(12,bv !decide (rfE r true=0))] [(0,.cells 25 (cRun r)),(8,.cells 37 [iv 0,iv 0])] 96) (tp 2) ?_
 refine swp_cond (!decide (rfE r true=0)) (by kernel_rfl) (fun h1 => ?_) (fun h1 => ?_)
 ·refine swp_seq ?_
  refine sQ (kt:=[2,3]) (kh:=[8]) (q:=tn 4) (st':=ASt.mk [(2,.ptr 8 []),(3,iv (rfE r true))] [(8,.cells 37 [iv 0,iv 0])] 128) (tp 4) ?_
  refine swp_ret ?_
  exact rQ [] ((True/\True/\True)/\(((zN (iv 0) (iv (mixesR r).lo))/\(zN (iv 0) (iv (mixesR r).hi))/\True)/\(zM (iv (rfE r true)))/\True)/\T3) ⟨⟨tv,tv,tv⟩,⟨⟨⟨(congrArg iv (o0 hp h1)),rfl⟩,⟨(congrArg iv (o1 hp h1)),rfl⟩,tv⟩,⟨rfl,rfl⟩,tv⟩,rfl,rfl,rfl⟩
 ·refine swp_skip (swp_seq ?_)
  refine sC (cs:=[(2,CallSpec.eq (c68 r) [true,true,false,true])]) (kt:=[2,3]) (kh:=[8]) (q:=True/\True/\((zE (AV.agg (cRun r))/\zE (aIntss (rfL r true))/\iv 0=iv (↑0:Int)/\zE (iv (-1))/\True)/\Triple Try.prog 111 (c68 r)/\(okRun r=true/\(rfL r true).length<=65536/\(∀ (i2:Nat),i2 < (rfL r true).length->((rfL r true).getD i2 []).length=r.found.length)/\(0 <= -1->0 < r.found.length))/\True /\ ∀ (i5:Env),True)/\tn 2) (st':=ASt.mk [(2,.ptr 8 []),(3,iv 0)] [(8,.cells 37 (cSpan (allMixes r (rfL r true) 0 (-1))))] 136) ⟨tv,tv,⟨⟨rfl,rfl,(congrArg iv (o2 hp h1)),rfl,tv⟩,(t111 _ _ _ _),⟨(o3 hp h1),(o4 hp h1),(fun i2=>(fun h3=>(o5 hp h1 i2 h3))),(fun h4=>(o6 hp h1 h4))⟩,tv,(fun i5=>tv)⟩,tp 2⟩ ?_
  refine swp_ret ?_
  exact rQ [] ((True/\True/\True)/\(((zN (iv (allMixes r (rfL r true) 0 (-1)).lo) (iv (mixesR r).lo))/\(zN (iv (allMixes r (rfL r true) 0 (-1)).hi) (iv (mixesR r).hi))/\True)/\(zN (iv 0) (iv (rfE r true)))/\True)/\T3) ⟨⟨tv,tv,tv⟩,⟨⟨⟨(congrArg iv (o7 hp h1)),rfl⟩,⟨(congrArg iv (o8 hp h1)),rfl⟩,tv⟩,⟨(congrArg iv (o9 hp h1)),rfl⟩,tv⟩,rfl,rfl,rfl⟩
theorem t68 (r:Run):Triple Try.prog 68 (s68 r):=by
  apply w68
  all_goals (first
    | (intro _ h; rw [mixesR,if_neg (knowBad h)]; done)
    | ((repeat intro _) <;> (try simp only [v0,v1,v2,v3,v4,v5,v6,v7,v8,v9,inI,fits,Go.Sh.small] at *) <;> first | (exact rfl) | omega | exact vz | (simp_all; done) | (simp_all; omega))
    | (intro _ h
       have F:=knowF h
       have h2:=F.len
       first
       | exact F.zero.symm
       | exact F.okb
       | exact F.frm
       | omega
       | (rw [mixesR,if_pos F.zero,F.eq]; done))
    | skip)
abbrev z69_1 (r:Run) (x2:Nat):LoopAnn:=Hint.ann (h69b r x2) [(1,AV.ptr 0 []),(4,aIntss (rfL r true)),(6,iv (seekTR r (rfL r true) x2).1),(7,iv (seekTR r (rfL r true) x2).2),(8,iv (x2:Int)),(9,aInts (whereOf r (rfL r true) x2))] [(0,OB.cells 25 (cRun r))] 20240
abbrev z69_2 (r:Run):LoopAnn:=Hint.ann (h69a r) [(1,AV.ptr 0 []),(4,aIntss (rfL r true))] [(0,OB.cells 25 (cRun r))] 10120
abbrev q69_1 (r:Run) (C:Prop):Prop:=fits r->(!decide (rfE r true=0))=false->C
abbrev q69_2 (r:Run) (C:Nat->Prop):Prop:=q69_1 r (∀ (x2:Nat),x2<=r.found.length->decide ((x2:Int) < (↑(r.found.length):Int))=true->C x2)
abbrev q69_3 (r:Run) (C:Nat->Prop):Prop:=q69_2 r fun x2=>decide ((↑((whereOf r (rfL r true) x2).length):Int) < 2)=true->C x2
abbrev q69_4 (r:Run) (C:Nat->Prop):Prop:=q69_2 r fun x2=>decide ((↑((whereOf r (rfL r true) x2).length):Int) < 2)=false->C x2
abbrev q69_5 (r:Run) (C:Nat->Nat->Prop):Prop:=q69_4 r fun x2 => ∀ (x8:Nat),x8<=(whereOf r (rfL r true) x2).length->decide ((x8:Int) < (↑((whereOf r (rfL r true) x2).length):Int))=true->C x2 x8
abbrev q69_6 (r:Run) (C:Nat->Nat->Prop):Prop:=q69_4 r fun x2 => ∀ (x8:Nat),x8<=(whereOf r (rfL r true) x2).length->decide ((x8:Int) < (↑((whereOf r (rfL r true) x2).length):Int))=false->C x2 x8
abbrev q69_7 (r:Run) (C:Nat->Nat->Prop):Prop:=q69_6 r fun x2 x8=>(bif decide ((seekTR r (rfL r true) x2).1 < 0) then true else decide (worstTo (fun (m:Int)=>allMixes r (rfL r true) x2 m) (whereOf r (rfL r true) x2) x8 < (seekTR r (rfL r true) x2).2))=true->C x2 x8
abbrev q69_8 (r:Run) (C:Nat->Nat->Prop):Prop:=q69_6 r fun x2 x8=>(bif decide ((seekTR r (rfL r true) x2).1 < 0) then true else decide (worstTo (fun (m:Int)=>allMixes r (rfL r true) x2 m) (whereOf r (rfL r true) x2) x8 < (seekTR r (rfL r true) x2).2))=false->C x2 x8
abbrev q69_9 (r:Run) (C:Nat->Prop):Prop:=q69_1 r (∀ (x2:Nat),x2<=r.found.length->decide ((x2:Int) < (↑(r.found.length):Int))=false->decide ((seekTR r (rfL r true) x2).1 < 0)=true->C x2)
abbrev q69_10 (r:Run) (C:Nat->Prop):Prop:=q69_1 r (∀ (x2:Nat),x2<=r.found.length->decide ((x2:Int) < (↑(r.found.length):Int))=false->decide ((seekTR r (rfL r true) x2).1 < 0)=false->C x2)
theorem w69 (r:Run)
 (o0:fits r->(!decide (rfE r true=0))->0=(seekR r).1)
 (o1:fits r->(!decide (rfE r true=0))->rfE r true=(seekR r).2)
 (o2:q69_1 r (-1=(seekTR r (rfL r true) 0).1))
 (o3:q69_1 r (0=(seekTR r (rfL r true) 0).2))
 (o4:q69_1 r (0=(↑0:Int)))
 (o5:q69_1 r (0<=r.found.length))
 (o6:q69_2 r fun x2=>r.machines.length<=3)
 (o7:q69_2 r fun x2=>(rfL r true).length<=65536)
 (o8:q69_2 r fun x2 => ∀ (i4:Nat),i4 < (rfL r true).length->x2 < ((rfL r true).getD i4 []).length)
 (o9:q69_3 r fun x2=>inI ((x2:Int) + 1))
 (o10:q69_3 r fun x2=>(seekTR r (rfL r true) x2).1=(seekTR r (rfL r true) (x2 + 1)).1)
 (o11:q69_3 r fun x2=>(seekTR r (rfL r true) x2).2=(seekTR r (rfL r true) (x2 + 1)).2)
 (o12:q69_3 r fun x2=>(x2:Int) + 1=(↑(x2 + 1):Int))
 (o13:q69_3 r fun x2=>x2 + 1<=r.found.length)
 (o14:q69_3 r fun x2=>r.found.length - (x2 + 1) < r.found.length - x2)
 (o15:q69_4 r fun x2=>0=worstTo (fun (m:Int)=>allMixes r (rfL r true) x2 m) (whereOf r (rfL r true) x2) 0)
 (o16:q69_4 r fun x2=>0=(↑0:Int))
 (o17:q69_4 r fun x2=>0<=(whereOf r (rfL r true) x2).length)
 (o18:q69_5 r fun x2 x8=>0<=(x8:Int))
 (o19:q69_5 r fun x2 x8=>(x8:Int) < (↑((whereOf r (rfL r true) x2).length):Int))
 (o20:q69_5 r fun x2 x8=>okRun r=true)
 (o21:q69_5 r fun x2 x8=>(rfL r true).length<=65536)
 (o22:q69_5 r fun x2 x8 => ∀ (i10:Nat),i10 < (rfL r true).length->((rfL r true).getD i10 []).length=r.found.length)
 (o23:q69_5 r fun x2 x8=>0<=(whereOf r (rfL r true) x2).getD x8 0->x2 < r.found.length)
 (o24:q69_5 r fun x2 x8=>inI ((allMixes r (rfL r true) x2 ((whereOf r (rfL r true) x2).getD x8 0)).hi - (allMixes r (rfL r true) x2 ((whereOf r (rfL r true) x2).getD x8 0)).lo))
 (o25:q69_5 r fun x2 x8=>inI ((x8:Int) + 1))
 (o26:q69_5 r fun x2 x8=>max (worstTo (fun (m:Int)=>allMixes r (rfL r true) x2 m) (whereOf r (rfL r true) x2) x8) ((allMixes r (rfL r true) x2 ((whereOf r (rfL r true) x2).getD x8 0)).hi - (allMixes r (rfL r true) x2 ((whereOf r (rfL r true) x2).getD x8 0)).lo)=worstTo (fun (m:Int)=>allMixes r (rfL r true) x2 m) (whereOf r (rfL r true) x2) (x8 + 1))
 (o27:q69_5 r fun x2 x8=>(x8:Int) + 1=(↑(x8 + 1):Int))
 (o28:q69_5 r fun x2 x8=>x8 + 1<=(whereOf r (rfL r true) x2).length)
 (o29:q69_5 r fun x2 x8=>(whereOf r (rfL r true) x2).length - (x8 + 1) < (whereOf r (rfL r true) x2).length - x8)
 (o30:q69_6 r fun x2 x8=>decide ((seekTR r (rfL r true) x2).1 < 0)=false->(!decide ((seekTR r (rfL r true) x2).1 < 0))=true)
 (o31:q69_7 r fun x2 x8=>inI ((x2:Int) + 1))
 (o32:q69_7 r fun x2 x8=>(x2:Int)=(seekTR r (rfL r true) (x2 + 1)).1)
 (o33:q69_7 r fun x2 x8=>worstTo (fun (m:Int)=>allMixes r (rfL r true) x2 m) (whereOf r (rfL r true) x2) x8=(seekTR r (rfL r true) (x2 + 1)).2)
 (o34:q69_7 r fun x2 x8=>(x2:Int) + 1=(↑(x2 + 1):Int))
 (o35:q69_7 r fun x2 x8=>x2 + 1<=r.found.length)
 (o36:q69_7 r fun x2 x8=>r.found.length - (x2 + 1) < r.found.length - x2)
 (o37:q69_8 r fun x2 x8=>inI ((x2:Int) + 1))
 (o38:q69_8 r fun x2 x8=>(seekTR r (rfL r true) x2).1=(seekTR r (rfL r true) (x2 + 1)).1)
 (o39:q69_8 r fun x2 x8=>(seekTR r (rfL r true) x2).2=(seekTR r (rfL r true) (x2 + 1)).2)
 (o40:q69_8 r fun x2 x8=>(x2:Int) + 1=(↑(x2 + 1):Int))
 (o41:q69_8 r fun x2 x8=>x2 + 1<=r.found.length)
 (o42:q69_8 r fun x2 x8=>r.found.length - (x2 + 1) < r.found.length - x2)
 (o43:q69_9 r fun x2=>0=(seekR r).1)
 (o44:q69_9 r fun x2=>3=(seekR r).2)
 (o45:q69_10 r fun x2=>(seekTR r (rfL r true) x2).1=(seekR r).1)
 (o46:q69_10 r fun x2=>0=(seekR r).2) :
  Triple Try.prog 69 (s69 r):=by
 refine triple_of Try.func69 rfl Try.call69 T0_ok _ rfl rfl rfl rfl (Nat.le_of_ble_eq_true (by kernel_rfl)) (fun _ _ _ _ h=>h) ?_
 intro hp C hC _ hE
 obtain ⟨P,w0,E0,av,hA⟩:=C
 subst hC
 refine swp_seq ?_
 refine sQ (kt:=[1]) (kh:=[0]) (q:=tn 3) (st':=ASt.mk [(1,.ptr 0 [])] [(0,.cells 25 (cRun r))] 24) (tp 3) ?_
 refine swp_seq ?_
 refine sC (cs:=[(1,CallSpec.eq (s87 r true) [true,true])]) (kt:=[1,4,5]) (kh:=[0]) (q:=True/\((zE (AV.agg (cRun r))/\zE (bv true)/\True)/\Triple Try.prog 87 (s87 r true)/\fits r/\True /\ ∀ (i0:Env),True)/\tn 5) (st':=ASt.mk [(1,.ptr 0 []),(4,aIntss (rfL r true)),(5,iv (rfE r true))] [(0,.cells 25 (cRun r))] 80) ⟨tv,⟨⟨rfl,rfl,tv⟩,(t87 (r) (true)),hp,tv,(fun i0=>tv)⟩,tp 5⟩ ?_
 refine swp_seq (swp_seq ?_)
 refine sQ (kt:=[1,4,5,19]) (kh:=[0]) (q:=tn 2) (st':=ASt.mk [(1,.ptr 0 []),(4,aIntss (rfL r true)),(5,iv (rfE r true)),(19,bv !decide (rfE r true=0))] [(0,.cells 25 (cRun r))] 96) (tp 2) ?_
 refine swp_cond (!decide (rfE r true=0)) (by kernel_rfl) (fun h1 => ?_) (fun h1 => ?_)
 ·refine swp_seq ?_
  refine sQ (kt:=[2,3]) (kh:=[]) (q:=tn 3) (st':=ASt.mk [(2,iv 0),(3,iv (rfE r true))] [] 120) (tp 3) ?_
  refine swp_ret ?_
  exact rQ [] ((True/\True/\True)/\((zN (iv 0) (iv (seekR r).1))/\(zN (iv (rfE r true)) (iv (seekR r).2))/\True)/\T3) ⟨⟨tv,tv,tv⟩,⟨⟨(congrArg iv (o0 hp h1)),rfl⟩,⟨(congrArg iv (o1 hp h1)),rfl⟩,tv⟩,rfl,rfl,rfl⟩
 ·refine swp_skip (swp_seq ?_)
  refine sQ (kt:=[1,4,6,7]) (kh:=[0]) (q:=tn 2) (st':=ASt.mk [(1,.ptr 0 []),(4,aIntss (rfL r true)),(6,iv (-1)),(7,iv 0)] [(0,.cells 25 (cRun r))] 112) (tp 2) ?_
  refine swp_seq (swp_seq ?_)
  refine sQ (kt:=[1,4,6,7,8]) (kh:=[0]) (q:=True/\True) (st':=ASt.mk [(1,.ptr 0 []),(4,aIntss (rfL r true)),(6,iv (-1)),(7,iv 0),(8,iv 0)] [(0,.cells 25 (cRun r))] 120) ⟨tv,tv⟩ ?_
  refine swp_block ?_
  refine swp_loopA (z69_2 r) (eQ hE [] [(0,.same 0)] [4] [0] (((zP 0)/\(zT (aIntss (rfL r true)))/\(zN (iv (-1)) (iv (seekTR r (rfL r true) 0).1))/\(zN (iv 0) (iv (seekTR r (rfL r true) 0).2))/\(zN (iv 0) (iv (↑0:Int)))/\True)/\((zT (OB.cells 25 (cRun r)))/\True)/\T2) ⟨⟨⟨rfl,rfl⟩,⟨rfl,rfl⟩,⟨(congrArg iv (o2 hp h1)),rfl⟩,⟨(congrArg iv (o3 hp h1)),rfl⟩,⟨(congrArg iv (o4 hp h1)),rfl⟩,tv⟩,⟨⟨rfl,rfl⟩,tv⟩,rfl,rfl⟩) (o5 hp h1) (fun (x2:Nat) hx2 => ?_)
  refine swp_seq (swp_seq ?_)
  refine sQ (kt:=[1,4,6,7,8,25]) (kh:=[0]) (q:=tn 5) (st':=ASt.mk [(1,.ptr 0 []),(4,aIntss (rfL r true)),(6,iv (seekTR r (rfL r true) x2).1),(7,iv (seekTR r (rfL r true) x2).2),(8,iv (x2:Int)),(25,bv (decide ((x2:Int) < (↑(r.found.length):Int))))] [(0,.cells 25 (cRun r))] 10160) (tp 5) ?_
  refine swp_cond (decide ((x2:Int) < (↑(r.found.length):Int))) (by kernel_rfl) (fun h3 => ?_) (fun h3 => ?_)
  ·refine swp_skip (swp_seq (swp_block (swp_seq ?_)))
   refine sC (cs:=[(3,CallSpec.eq (c69a r x2) [true,true,true])]) (kt:=[1,4,6,7,8,9]) (kh:=[0]) (q:=True/\True/\True/\((zE (AV.agg (cRun r))/\zE (aIntss (rfL r true))/\zE (iv (x2:Int))/\True)/\Triple Try.prog 91 (c69a r x2)/\(r.machines.length<=3/\(rfL r true).length<=65536 /\ ∀ (i4:Nat),i4 < (rfL r true).length->x2 < ((rfL r true).getD i4 []).length)/\True /\ ∀ (i6:Env),True)/\True/\True) (st':=ASt.mk [(1,.ptr 0 []),(4,aIntss (rfL r true)),(6,iv (seekTR r (rfL r true) x2).1),(7,iv (seekTR r (rfL r true) x2).2),(8,iv (x2:Int)),(9,aInts (whereOf r (rfL r true) x2))] [(0,.cells 25 (cRun r))] 10200) ⟨tv,tv,tv,⟨⟨rfl,rfl,rfl,tv⟩,(t91 _ _ _),⟨(o6 hp h1 x2 hx2 h3),(o7 hp h1 x2 hx2 h3),(fun i4=>(fun h5=>(o8 hp h1 x2 hx2 h3 i4 h5)))⟩,tv,(fun i6=>tv)⟩,tv,tv⟩ ?_
   refine swp_seq (swp_seq ?_)
   refine sQ (kt:=[1,4,6,7,8,9,34]) (kh:=[0]) (q:=tn 3) (st':=ASt.mk [(1,.ptr 0 []),(4,aIntss (rfL r true)),(6,iv (seekTR r (rfL r true) x2).1),(7,iv (seekTR r (rfL r true) x2).2),(8,iv (x2:Int)),(9,aInts (whereOf r (rfL r true) x2)),(34,bv (decide ((↑((whereOf r (rfL r true) x2).length):Int) < 2)))] [(0,.cells 25 (cRun r))] 10224) (tp 3) ?_
   refine swp_cond (decide ((↑((whereOf r (rfL r true) x2).length):Int) < 2)) (by kernel_rfl) (fun h7 => ?_) (fun h7 => ?_)
   ·refine swp_exit ?_
    refine sQ (kt:=[1,4,6,7,8]) (kh:=[0]) (q:=True/\inI ((x2:Int) + 1)/\True/\True) (st':=ASt.mk [(1,.ptr 0 []),(4,aIntss (rfL r true)),(6,iv (seekTR r (rfL r true) x2).1),(7,iv (seekTR r (rfL r true) x2).2),(8,iv ((x2:Int) + 1))] [(0,.cells 25 (cRun r))] 10248) ⟨tv,(o9 hp h1 x2 hx2 h3 h7),tv,tv⟩ ?_
    exact loop_next (z69_2 r) x2 (eQ hE [] [(0,.same 0)] [4] [0] (((zP 0)/\(zT (aIntss (rfL r true)))/\(zN (iv (seekTR r (rfL r true) x2).1) (iv (seekTR r (rfL r true) (x2 + 1)).1))/\(zN (iv (seekTR r (rfL r true) x2).2) (iv (seekTR r (rfL r true) (x2 + 1)).2))/\(zN (iv ((x2:Int) + 1)) (iv (↑(x2 + 1):Int)))/\True)/\((zT (OB.cells 25 (cRun r)))/\True)/\T2) ⟨⟨⟨rfl,rfl⟩,⟨rfl,rfl⟩,⟨(congrArg iv (o10 hp h1 x2 hx2 h3 h7)),rfl⟩,⟨(congrArg iv (o11 hp h1 x2 hx2 h3 h7)),rfl⟩,⟨(congrArg iv (o12 hp h1 x2 hx2 h3 h7)),rfl⟩,tv⟩,⟨⟨rfl,rfl⟩,tv⟩,rfl,rfl⟩) (o13 hp h1 x2 hx2 h3 h7) (o14 hp h1 x2 hx2 h3 h7)
   ·refine swp_skip (swp_seq ?_)
    refine sQ (kt:=[1,4,6,7,8,9,10]) (kh:=[0]) (q:=True/\True) (st':=ASt.mk [(1,.ptr 0 []),(4,aIntss (rfL r true)),(6,iv (seekTR r (rfL r true) x2).1),(7,iv (seekTR r (rfL r true) x2).2),(8,iv (x2:Int)),(9,aInts (whereOf r (rfL r true) x2)),(10,iv 0)] [(0,.cells 25 (cRun r))] 10232) ⟨tv,tv⟩ ?_
    refine swp_seq (swp_seq ?_)
    refine sQ (kt:=[1,4,6,7,8,9,10,11]) (kh:=[0]) (q:=True/\True) (st':=ASt.mk [(1,.ptr 0 []),(4,aIntss (rfL r true)),(6,iv (seekTR r (rfL r true) x2).1),(7,iv (seekTR r (rfL r true) x2).2),(8,iv (x2:Int)),(9,aInts (whereOf r (rfL r true) x2)),(10,iv 0),(11,iv 0)] [(0,.cells 25 (cRun r))] 10240) ⟨tv,tv⟩ ?_
    refine swp_block ?_
    refine swp_loopA (z69_1 r x2) (eQ hE [] [(0,.same 0)] [4,6,7,8,9] [0] (((zP 0)/\(zT (aIntss (rfL r true)))/\(zT (iv (seekTR r (rfL r true) x2).1))/\(zT (iv (seekTR r (rfL r true) x2).2))/\(zT (iv (x2:Int)))/\(zT (aInts (whereOf r (rfL r true) x2)))/\(zN (iv 0) (iv (worstTo (fun (m:Int)=>allMixes r (rfL r true) x2 m) (whereOf r (rfL r true) x2) 0)))/\(zN (iv 0) (iv (↑0:Int)))/\True)/\((zT (OB.cells 25 (cRun r)))/\True)/\T2) ⟨⟨⟨rfl,rfl⟩,⟨rfl,rfl⟩,⟨rfl,rfl⟩,⟨rfl,rfl⟩,⟨rfl,rfl⟩,⟨rfl,rfl⟩,⟨(congrArg iv (o15 hp h1 x2 hx2 h3 h7)),rfl⟩,⟨(congrArg iv (o16 hp h1 x2 hx2 h3 h7)),rfl⟩,tv⟩,⟨⟨rfl,rfl⟩,tv⟩,rfl,rfl⟩) (o17 hp h1 x2 hx2 h3 h7) (fun (x8:Nat) hx8 => ?_)
    refine swp_seq (swp_seq ?_)
    refine sQ (kt:=[1,4,6,7,8,9,10,11,38]) (kh:=[0]) (q:=tn 4) (st':=ASt.mk [(1,.ptr 0 []),(4,aIntss (rfL r true)),(6,iv (seekTR r (rfL r true) x2).1),(7,iv (seekTR r (rfL r true) x2).2),(8,iv (x2:Int)),(9,aInts (whereOf r (rfL r true) x2)),(10,iv (worstTo (fun (m:Int)=>allMixes r (rfL r true) x2 m) (whereOf r (rfL r true) x2) x8)),(11,iv (x8:Int)),(38,bv (decide ((x8:Int) < (↑((whereOf r (rfL r true) x2).length):Int))))] [(0,.cells 25 (cRun r))] 20272) (tp 4) ?_
    refine swp_cond (decide ((x8:Int) < (↑((whereOf r (rfL r true) x2).length):Int))) (by kernel_rfl) (fun h9 => ?_) (fun h9 => ?_)
    ·refine swp_skip (swp_seq (swp_block (swp_seq ?_)))
     refine sC (cs:=[(7,CallSpec.eq (c69b r x2 x8) [true,true,true,true])]) (kt:=[1,4,6,7,8,9,10,11,12]) (kh:=[0,20336]) (q:=True/\True/\True/\True/\True/\(0<=(x8:Int)/\(x8:Int) < (↑((whereOf r (rfL r true) x2).length):Int))/\True/\((zE (AV.agg (cRun r))/\zE (aIntss (rfL r true))/\zE (iv (x2:Int))/\zE (iv ((whereOf r (rfL r true) x2).getD x8 0))/\True)/\Triple Try.prog 111 (c69b r x2 x8)/\(okRun r=true/\(rfL r true).length<=65536/\(∀ (i10:Nat),i10 < (rfL r true).length->((rfL r true).getD i10 []).length=r.found.length)/\(0<=(whereOf r (rfL r true) x2).getD x8 0->x2 < r.found.length))/\True /\ ∀ (i13:Env),True)/\tn 2) (st':=ASt.mk [(1,.ptr 0 []),(4,aIntss (rfL r true)),(6,iv (seekTR r (rfL r true) x2).1),(7,iv (seekTR r (rfL r true) x2).2),(8,iv (x2:Int)),(9,aInts (whereOf r (rfL r true) x2)),(10,iv (worstTo (fun (m:Int)=>allMixes r (rfL r true) x2 m) (whereOf r (rfL r true) x2) x8)),(11,iv (x8:Int)),(12,.ptr 20336 [])] [(0,.cells 25 (cRun r)),(20336,.cells 37 (cSpan (allMixes r (rfL r true) x2 ((whereOf r (rfL r true) x2).getD x8 0))))] 20352) ⟨tv,tv,tv,tv,tv,⟨(o18 hp h1 x2 hx2 h3 h7 x8 hx8 h9),(o19 hp h1 x2 hx2 h3 h7 x8 hx8 h9)⟩,tv,⟨⟨rfl,rfl,rfl,rfl,tv⟩,(t111 _ _ _ _),⟨(o20 hp h1 x2 hx2 h3 h7 x8 hx8 h9),(o21 hp h1 x2 hx2 h3 h7 x8 hx8 h9),(fun i10=>(fun h11=>(o22 hp h1 x2 hx2 h3 h7 x8 hx8 h9 i10 h11))),(fun h12=>(o23 hp h1 x2 hx2 h3 h7 x8 hx8 h9 h12))⟩,tv,(fun i13=>tv)⟩,tp 2⟩ ?_
     refine sQ (kt:=[1,4,6,7,8,9,10,11]) (kh:=[0]) (q:=True/\True/\True/\True/\True/\inI ((allMixes r (rfL r true) x2 ((whereOf r (rfL r true) x2).getD x8 0)).hi - (allMixes r (rfL r true) x2 ((whereOf r (rfL r true) x2).getD x8 0)).lo)/\tn 2) (st':=ASt.mk [(1,.ptr 0 []),(4,aIntss (rfL r true)),(6,iv (seekTR r (rfL r true) x2).1),(7,iv (seekTR r (rfL r true) x2).2),(8,iv (x2:Int)),(9,aInts (whereOf r (rfL r true) x2)),(10,iv (max (worstTo (fun (m:Int)=>allMixes r (rfL r true) x2 m) (whereOf r (rfL r true) x2) x8) ((allMixes r (rfL r true) x2 ((whereOf r (rfL r true) x2).getD x8 0)).hi - (allMixes r (rfL r true) x2 ((whereOf r (rfL r true) x2).getD x8 0)).lo))),(11,iv (x8:Int))] [(0,.cells 25 (cRun r))] 20416) ⟨tv,tv,tv,tv,tv,(o24 hp h1 x2 hx2 h3 h7 x8 hx8 h9),tp 2⟩ ?_
     refine sQ (kt:=[1,4,6,7,8,9,10,11]) (kh:=[0]) (q:=True/\inI ((x8:Int) + 1)/\True/\True) (st':=ASt.mk [(1,.ptr 0 []),(4,aIntss (rfL r true)),(6,iv (seekTR r (rfL r true) x2).1),(7,iv (seekTR r (rfL r true) x2).2),(8,iv (x2:Int)),(9,aInts (whereOf r (rfL r true) x2)),(10,iv (max (worstTo (fun (m:Int)=>allMixes r (rfL r true) x2 m) (whereOf r (rfL r true) x2) x8) ((allMixes r (rfL r true) x2 ((whereOf r (rfL r true) x2).getD x8 0)).hi - (allMixes r (rfL r true) x2 ((whereOf r (rfL r true) x2).getD x8 0)).lo))),(11,iv ((x8:Int) + 1))] [(0,.cells 25 (cRun r))] 20440) ⟨tv,(o25 hp h1 x2 hx2 h3 h7 x8 hx8 h9),tv,tv⟩ ?_
     exact loop_next (z69_1 r x2) x8 (eQ hE [] [(0,.same 0)] [4,6,7,8,9] [0] (((zP 0)/\(zT (aIntss (rfL r true)))/\(zT (iv (seekTR r (rfL r true) x2).1))/\(zT (iv (seekTR r (rfL r true) x2).2))/\(zT (iv (x2:Int)))/\(zT (aInts (whereOf r (rfL r true) x2)))/\(zN (iv (max (worstTo (fun (m:Int)=>allMixes r (rfL r true) x2 m) (whereOf r (rfL r true) x2) x8) ((allMixes r (rfL r true) x2 ((whereOf r (rfL r true) x2).getD x8 0)).hi - (allMixes r (rfL r true) x2 ((whereOf r (rfL r true) x2).getD x8 0)).lo))) (iv (worstTo (fun (m:Int)=>allMixes r (rfL r true) x2 m) (whereOf r (rfL r true) x2) (x8 + 1))))/\(zN (iv ((x8:Int) + 1)) (iv (↑(x8 + 1):Int)))/\True)/\((zT (OB.cells 25 (cRun r)))/\True)/\T2) ⟨⟨⟨rfl,rfl⟩,⟨rfl,rfl⟩,⟨rfl,rfl⟩,⟨rfl,rfl⟩,⟨rfl,rfl⟩,⟨rfl,rfl⟩,⟨(congrArg iv (o26 hp h1 x2 hx2 h3 h7 x8 hx8 h9)),rfl⟩,⟨(congrArg iv (o27 hp h1 x2 hx2 h3 h7 x8 hx8 h9)),rfl⟩,tv⟩,⟨⟨rfl,rfl⟩,tv⟩,rfl,rfl⟩) (o28 hp h1 x2 hx2 h3 h7 x8 hx8 h9) (o29 hp h1 x2 hx2 h3 h7 x8 hx8 h9)
    ·refine swp_exit (swp_seq ?_)
     refine sQ (kt:=[1,4,6,7,8,10,62]) (kh:=[0]) (q:=True/\True/\True/\((!decide ((seekTR r (rfL r true) x2).1 < 0))->(True/\True)/\True)/\((!decide ((seekTR r (rfL r true) x2).1 < 0))->(True/\True)/\True)/\((!decide ((seekTR r (rfL r true) x2).1 < 0))->(((!decide ((seekTR r (rfL r true) x2).1 < 0))->(!decide ((seekTR r (rfL r true) x2).1 < 0))=true)/\((!decide ((seekTR r (rfL r true) x2).1 < 0))->(!decide ((seekTR r (rfL r true) x2).1 < 0))=true)/\True)/\True)/\((decide ((seekTR r (rfL r true) x2).1 < 0)=true->True)/\(decide ((seekTR r (rfL r true) x2).1 < 0)=false->(!decide ((seekTR r (rfL r true) x2).1 < 0))=true))/\True) (st':=ASt.mk [(1,.ptr 0 []),(4,aIntss (rfL r true)),(6,iv (seekTR r (rfL r true) x2).1),(7,iv (seekTR r (rfL r true) x2).2),(8,iv (x2:Int)),(10,iv (worstTo (fun (m:Int)=>allMixes r (rfL r true) x2 m) (whereOf r (rfL r true) x2) x8)),(62,bv (bif decide ((seekTR r (rfL r true) x2).1 < 0) then true else decide (worstTo (fun (m:Int)=>allMixes r (rfL r true) x2 m) (whereOf r (rfL r true) x2) x8 < (seekTR r (rfL r true) x2).2)))] [(0,.cells 25 (cRun r))] 20328) ⟨tv,tv,tv,(fun h14=>⟨⟨tv,tv⟩,tv⟩),(fun h15=>⟨⟨tv,tv⟩,tv⟩),(fun h16=>⟨⟨(fun h17=>h16),(fun h18=>h16),tv⟩,tv⟩),⟨(fun h19=>tv),(fun h20=>(o30 hp h1 x2 hx2 h3 h7 x8 hx8 h9 h20))⟩,tv⟩ ?_
     refine swp_cond (bif decide ((seekTR r (rfL r true) x2).1 < 0) then true else decide (worstTo (fun (m:Int)=>allMixes r (rfL r true) x2 m) (whereOf r (rfL r true) x2) x8 < (seekTR r (rfL r true) x2).2)) (by kernel_rfl) (fun h21 => ?_) (fun h21 => ?_)
     ·refine sQ (kt:=[1,4,6,7,8]) (kh:=[0]) (q:=tn 4) (st':=ASt.mk [(1,.ptr 0 []),(4,aIntss (rfL r true)),(6,iv (x2:Int)),(7,iv (worstTo (fun (m:Int)=>allMixes r (rfL r true) x2 m) (whereOf r (rfL r true) x2) x8)),(8,iv (x2:Int))] [(0,.cells 25 (cRun r))] 20360) (tp 4) ?_
      refine sQ (kt:=[1,4,6,7,8]) (kh:=[0]) (q:=True/\inI ((x2:Int) + 1)/\True/\True) (st':=ASt.mk [(1,.ptr 0 []),(4,aIntss (rfL r true)),(6,iv (x2:Int)),(7,iv (worstTo (fun (m:Int)=>allMixes r (rfL r true) x2 m) (whereOf r (rfL r true) x2) x8)),(8,iv ((x2:Int) + 1))] [(0,.cells 25 (cRun r))] 20384) ⟨tv,(o31 hp h1 x2 hx2 h3 h7 x8 hx8 h9 h21),tv,tv⟩ ?_
      exact loop_next (z69_2 r) x2 (eQ hE [] [(0,.same 0)] [4] [0] (((zP 0)/\(zT (aIntss (rfL r true)))/\(zN (iv (x2:Int)) (iv (seekTR r (rfL r true) (x2 + 1)).1))/\(zN (iv (worstTo (fun (m:Int)=>allMixes r (rfL r true) x2 m) (whereOf r (rfL r true) x2) x8)) (iv (seekTR r (rfL r true) (x2 + 1)).2))/\(zN (iv ((x2:Int) + 1)) (iv (↑(x2 + 1):Int)))/\True)/\((zT (OB.cells 25 (cRun r)))/\True)/\T2) ⟨⟨⟨rfl,rfl⟩,⟨rfl,rfl⟩,⟨(congrArg iv (o32 hp h1 x2 hx2 h3 h7 x8 hx8 h9 h21)),rfl⟩,⟨(congrArg iv (o33 hp h1 x2 hx2 h3 h7 x8 hx8 h9 h21)),rfl⟩,⟨(congrArg iv (o34 hp h1 x2 hx2 h3 h7 x8 hx8 h9 h21)),rfl⟩,tv⟩,⟨⟨rfl,rfl⟩,tv⟩,rfl,rfl⟩) (o35 hp h1 x2 hx2 h3 h7 x8 hx8 h9 h21) (o36 hp h1 x2 hx2 h3 h7 x8 hx8 h9 h21)
     ·refine swp_skip ?_
      refine sQ (kt:=[1,4,6,7,8]) (kh:=[0]) (q:=True/\inI ((x2:Int) + 1)/\True/\True) (st':=ASt.mk [(1,.ptr 0 []),(4,aIntss (rfL r true)),(6,iv (seekTR r (rfL r true) x2).1),(7,iv (seekTR r (rfL r true) x2).2),(8,iv ((x2:Int) + 1))] [(0,.cells 25 (cRun r))] 20352) ⟨tv,(o37 hp h1 x2 hx2 h3 h7 x8 hx8 h9 h21),tv,tv⟩ ?_
      exact loop_next (z69_2 r) x2 (eQ hE [] [(0,.same 0)] [4] [0] (((zP 0)/\(zT (aIntss (rfL r true)))/\(zN (iv (seekTR r (rfL r true) x2).1) (iv (seekTR r (rfL r true) (x2 + 1)).1))/\(zN (iv (seekTR r (rfL r true) x2).2) (iv (seekTR r (rfL r true) (x2 + 1)).2))/\(zN (iv ((x2:Int) + 1)) (iv (↑(x2 + 1):Int)))/\True)/\((zT (OB.cells 25 (cRun r)))/\True)/\T2) ⟨⟨⟨rfl,rfl⟩,⟨rfl,rfl⟩,⟨(congrArg iv (o38 hp h1 x2 hx2 h3 h7 x8 hx8 h9 h21)),rfl⟩,⟨(congrArg iv (o39 hp h1 x2 hx2 h3 h7 x8 hx8 h9 h21)),rfl⟩,⟨(congrArg iv (o40 hp h1 x2 hx2 h3 h7 x8 hx8 h9 h21)),rfl⟩,tv⟩,⟨⟨rfl,rfl⟩,tv⟩,rfl,rfl⟩) (o41 hp h1 x2 hx2 h3 h7 x8 hx8 h9 h21) (o42 hp h1 x2 hx2 h3 h7 x8 hx8 h9 h21)
  ·refine swp_exit (swp_seq (swp_seq ?_))
   refine sQ (kt:=[6,66]) (kh:=[]) (q:=tn 2) (st':=ASt.mk [(6,iv (seekTR r (rfL r true) x2).1),(66,bv (decide ((seekTR r (rfL r true) x2).1 < 0)))] [] 10176) (tp 2) ?_
   refine swp_cond (decide ((seekTR r (rfL r true) x2).1 < 0)) (by kernel_rfl) (fun h22 => ?_) (fun h22 => ?_)
   ·refine swp_seq ?_
    refine sQ (kt:=[2,3]) (kh:=[]) (q:=tn 2) (st':=ASt.mk [(2,iv 0),(3,iv 3)] [] 10192) (tp 2) ?_
    refine swp_ret ?_
    exact rQ [] ((True/\True/\True)/\((zN (iv 0) (iv (seekR r).1))/\(zN (iv 3) (iv (seekR r).2))/\True)/\T3) ⟨⟨tv,tv,tv⟩,⟨⟨(congrArg iv (o43 hp h1 x2 hx2 h3 h22)),rfl⟩,⟨(congrArg iv (o44 hp h1 x2 hx2 h3 h22)),rfl⟩,tv⟩,rfl,rfl,rfl⟩
   ·refine swp_skip (swp_seq ?_)
    refine sQ (kt:=[2,3]) (kh:=[]) (q:=tn 3) (st':=ASt.mk [(2,iv (seekTR r (rfL r true) x2).1),(3,iv 0)] [] 10200) (tp 3) ?_
    refine swp_ret ?_
    exact rQ [] ((True/\True/\True)/\((zN (iv (seekTR r (rfL r true) x2).1) (iv (seekR r).1))/\(zN (iv 0) (iv (seekR r).2))/\True)/\T3) ⟨⟨tv,tv,tv⟩,⟨⟨(congrArg iv (o45 hp h1 x2 hx2 h3 h22)),rfl⟩,⟨(congrArg iv (o46 hp h1 x2 hx2 h3 h22)),rfl⟩,tv⟩,rfl,rfl,rfl⟩
theorem t69 (r:Run):Triple Try.prog 69 (s69 r):=by
  have key:∀ (l:List (List Int)) (x n:Nat) {b:Bool},n=(whereOf r l x).length->(bif decide ((seekTR r l x).1 < 0) then true else decide (worstTo (fun m=>allMixes r l x m) (whereOf r l x) n < (seekTR r l x).2))=b->b=decide ((seekTR r l x).1 < 0 ∨ worst (fun m=>allMixes r l x m) (whereOf r l x) < (seekTR r l x).2):=by
    intro l x n b hn h
    rw [← h,hn]
    by_cases e:(seekTR r l x).1 < 0
    · simp [e]
    · simp [e]; rfl
  apply w69
  all_goals (first
    | (intro _ h; rw [seekR,if_neg (knowBad h)]; done)
    | ((repeat intro _) <;> (try simp only [v0,v1,v2,v3,v4,v5,v6,v7,v8,v9,inI,fits,Go.Sh.small] at *) <;> first | (exact rfl) | omega | exact vz | (simp_all; done) | (simp_all; omega))
    | (intro _ h
       have F:=knowF h
       have h2:=F.len
       have h3:=F.ok.machines
       have h4:=F.ok.found
       first
       | exact F.zero.symm
       | (intro c hc hl
          simp only [decide_eq_true_eq,decide_eq_false_iff_not] at hl
          first
          | exact F.zero.symm
          | omega
          | (intro i hi; rw [F.frm i hi]; omega)
          | (intro e; rw [show seekTR r (rfL r true) (c + 1)=seekTR r (rfL r true) c from seek_skip (show (whereOf r (rfL r true) c).length < 2 by simp only [decide_eq_true_eq] at e; omega)]; done)
          | (intro e; rw [seekR,if_pos F.zero,← F.eq,show r.found.length=c by omega,seekOf,if_pos (by simpa using e)]; done)
          | (intro e; rw [seekR,if_pos F.zero,← F.eq,show r.found.length=c by omega,seekOf,if_neg (by simpa using e)]; done)
          | (intro e x hx hxl
             have h7:=whTo_len (rfL r true) c r.machines.length
             have h8:(whereOf r (rfL r true) c).length<=3:=Nat.le_trans h7 h3.2
             have h9:=allTo_b F.ok (rfL r true) c ((whereOf r (rfL r true) c).getD x 0) (rfL r true).length
             simp only [decide_eq_true_eq,decide_eq_false_iff_not] at e hxl
             first
             | exact F.okb
             | omega
             | exact F.frm
             | (intro i hi; exact F.frm i hi)
             | (simp only [inI,allMixes,bb] at *; omega)
             | (rw [worstTo_succ]; done)
             | (intro e2
                have e3:=key _ _ _ (show x=(whereOf r (rfL r true) c).length by omega) e2
                first
                | (simp only [inI]; omega)
                | (rw [show seekTR r (rfL r true) (c + 1)=_ from seek_t (by omega) (of_decide_eq_true e3.symm)] <;> first | rfl | (rw [show x=(whereOf r (rfL r true) c).length by omega]; rfl))
                | (rw [show seekTR r (rfL r true) (c + 1)=_ from seek_f (by omega) (of_decide_eq_false e3.symm)] <;> rfl))))))
end Go.Ab
namespace Go.Sh
def eqv (v x:Int):Bool:=decide (v=x)
def logTo (l:List Int) (j:Nat):List (Int × Int):=(List.range j).foldl (fun es i=>es ++ [(l.getD i 0,Go.Ab.mlook es (l.getD i 0) + 1)]) []
theorem logTo_succ (l:List Int) (j:Nat):logTo l (j + 1)=logTo l j ++ [(l.getD j 0,Go.Ab.mlook (logTo l j) (l.getD j 0) + 1)]:=Go.Ab.foldl_range_succ _ _ _
theorem logTo_len (l:List Int):∀ j,(logTo l j).length=j:=by
 intro j
 induction j with
 | zero=>rfl
 | succ j ih=>rw [logTo_succ,List.length_append,ih]; rfl
theorem logTo_look (l:List Int) (k:Int):∀ j,0<=Go.Ab.mlook (logTo l j) k/\Go.Ab.mlook (logTo l j) k<=j:=by
 intro j
 induction j with
 | zero=>exact ⟨Int.le_refl 0,Int.le_refl 0⟩
 | succ j ih =>
  rw [logTo_succ,Go.Ab.mlook_snoc]
  split
  ·rename_i e
   simp only at e ⊢
   rw [e]; omega
  ·omega
def usedW (l:List Int):Nat:=(Go.Ab.mkeys (logTo l l.length)).length
def fewPTo (r:Run) (l:List WayS) (n:Nat):Int:=(List.range n).foldl (fun o i=>min o (usedW (l.getD i default).frm:Int)) r.machines.length
theorem fewPTo_succ (r:Run) (l:List WayS) (n:Nat):fewPTo r l (n + 1)=min (fewPTo r l n) (usedW (l.getD n default).frm:Int):=Go.Ab.foldl_range_succ _ _ _
def fewP (r:Run):Int:=if openE r true=0 then fewPTo r (waysOf r) (waysOf r).length else 0
end Go.Sh
namespace Go.Ab
open Go Go.RowKit Go.Proofs Go.Sh Go.En
def s22 (r:Run):CallSpec:={ args:=[vRun r],res := .tup [iv (fewP r),iv (openE r true)],pre:=fits r }
def h22a (r:Run):Hint:={ X:=Nat,M:=fun i=>[(25,iv i),(6,iv (fewPTo r (openL r true) i))],I:=fun i=>i<=(openL r true).length,mu:=fun i=>(openL r true).length - i,x0:=(0:Nat),nx:=fun i=>i + 1 }
def h22b (r:Run) (i:Nat):Hint:={ X:=Nat,M:=fun j=>[(33,iv j),(9,.vec 5000)],H:=fun j=>[(5000,.mp 108 (logTo ((openL r true).getD i default).frm j))],I:=fun j=>j<=((openL r true).getD i default).frm.length,mu:=fun j=>((openL r true).getD i default).frm.length - j,x0:=(0:Nat),nx:=fun j=>j + 1 }
end Go.Ab
namespace Go.Ab
open Go Go.RowKit Go.Proofs Go.Sh Go.En
abbrev z22_1 (r:Run) (x2:Nat):LoopAnn:=Hint.ann (h22b r x2) [(23,aWays (openL r true)),(24,iv (↑((openL r true).length):Int)),(25,iv (x2:Int)),(6,iv (fewPTo r (openL r true) x2)),(31,aInts ((openL r true).getD x2 default).frm),(32,iv (↑(((openL r true).getD x2 default).frm.length):Int))] [] 20240
abbrev z22_2 (r:Run):LoopAnn:=Hint.ann (h22a r) [(23,aWays (openL r true)),(24,iv (↑((openL r true).length):Int))] [] 10152
abbrev q22_1 (r:Run) (C:Prop):Prop:=fits r->(!decide (openE r true=0))=false->C
abbrev q22_2 (r:Run) (C:Nat->Prop):Prop:=q22_1 r (∀ (x2:Nat),x2<=(openL r true).length->decide ((x2:Int) < (↑((openL r true).length):Int))=true->C x2)
abbrev q22_3 (r:Run) (C:Nat->Nat->Prop):Prop:=q22_2 r fun x2 => ∀ (x4:Nat),x4<=((openL r true).getD x2 default).frm.length->decide ((x4:Int) < (↑(((openL r true).getD x2 default).frm.length):Int))=true->C x2 x4
abbrev q22_4 (r:Run) (C:Nat->Nat->Prop):Prop:=q22_2 r fun x2 => ∀ (x4:Nat),x4<=((openL r true).getD x2 default).frm.length->decide ((x4:Int) < (↑(((openL r true).getD x2 default).frm.length):Int))=false->C x2 x4
abbrev q22_5 (r:Run) (C:Nat->Prop):Prop:=q22_1 r (∀ (x2:Nat),x2<=(openL r true).length->decide ((x2:Int) < (↑((openL r true).length):Int))=false->C x2)
theorem w22 (r:Run)
 (o0:fits r->(!decide (openE r true=0))->0=fewP r)
 (o1:q22_1 r (0=(↑0:Int)))
 (o2:q22_1 r ((↑(r.machines.length):Int)=fewPTo r (openL r true) 0))
 (o3:q22_1 r (0<=(openL r true).length))
 (o4:q22_2 r fun x2=>0<=(x2:Int))
 (o5:q22_2 r fun x2=>(x2:Int) < (↑((openL r true).length):Int))
 (o6:q22_2 r fun x2=>0=(↑0:Int))
 (o7:q22_2 r fun x2=>[]=logTo ((openL r true).getD x2 default).frm 0)
 (o8:q22_2 r fun x2=>0<=((openL r true).getD x2 default).frm.length)
 (o9:q22_3 r fun x2 x4=>0<=(x4:Int))
 (o10:q22_3 r fun x2 x4=>(x4:Int) < (↑(((openL r true).getD x2 default).frm.length):Int))
 (o11:q22_3 r fun x2 x4=>inI (((openL r true).getD x2 default).frm.getD x4 0))
 (o12:q22_3 r fun x2 x4=>inI (mlook (logTo ((openL r true).getD x2 default).frm x4) (((openL r true).getD x2 default).frm.getD x4 0) + 1))
 (o13:q22_3 r fun x2 x4=>inI (((openL r true).getD x2 default).frm.getD x4 0))
 (o14:q22_3 r fun x2 x4=>inI (mlook (logTo ((openL r true).getD x2 default).frm x4) (((openL r true).getD x2 default).frm.getD x4 0) + 1))
 (o15:q22_3 r fun x2 x4=>(logTo ((openL r true).getD x2 default).frm x4).length < 65536)
 (o16:q22_3 r fun x2 x4=>inI ((x4:Int) + 1))
 (o17:q22_3 r fun x2 x4=>(x4:Int) + 1=(↑(x4 + 1):Int))
 (o18:q22_3 r fun x2 x4=>logTo ((openL r true).getD x2 default).frm x4 ++ [(((openL r true).getD x2 default).frm.getD x4 0,mlook (logTo ((openL r true).getD x2 default).frm x4) (((openL r true).getD x2 default).frm.getD x4 0) + 1)]=logTo ((openL r true).getD x2 default).frm (x4 + 1))
 (o19:q22_3 r fun x2 x4=>x4 + 1<=((openL r true).getD x2 default).frm.length)
 (o20:q22_3 r fun x2 x4=>((openL r true).getD x2 default).frm.length - (x4 + 1) < ((openL r true).getD x2 default).frm.length - x4)
 (o21:q22_4 r fun x2 x4=>inI ((x2:Int) + 1))
 (o22:q22_4 r fun x2 x4=>(x2:Int) + 1=(↑(x2 + 1):Int))
 (o23:q22_4 r fun x2 x4=>min (fewPTo r (openL r true) x2) (↑((mkeys (logTo ((openL r true).getD x2 default).frm x4)).length):Int)=fewPTo r (openL r true) (x2 + 1))
 (o24:q22_4 r fun x2 x4=>x2 + 1<=(openL r true).length)
 (o25:q22_4 r fun x2 x4=>(openL r true).length - (x2 + 1) < (openL r true).length - x2)
 (o26:q22_5 r fun x2=>fewPTo r (openL r true) x2=fewP r)
 (o27:q22_5 r fun x2=>0=openE r true) :
  Triple Try.prog 22 (s22 r):=by
 refine triple_of Try.func22 rfl Try.call22 T0_ok _ rfl rfl rfl rfl (Nat.le_of_ble_eq_true (by kernel_rfl)) (fun _ _ _ _ h=>h) ?_
 intro hp C hC _ hE
 obtain ⟨P,w0,E0,av,hA⟩:=C
 subst hC
 refine swp_seq ?_
 refine sQ (kt:=[1]) (kh:=[0]) (q:=tn 3) (st':=ASt.mk [(1,.ptr 0 [])] [(0,.cells 25 (cRun r))] 24) (tp 3) ?_
 refine swp_seq ?_
 refine sC (cs:=[(1,CallSpec.eq (s78 r true) [true,true])]) (kt:=[1,4,5]) (kh:=[0]) (q:=True/\((zE (AV.agg (cRun r))/\zE (bv true)/\True)/\Triple Try.prog 78 (s78 r true)/\fits r/\True /\ ∀ (i0:Env),True)/\tn 5) (st':=ASt.mk [(1,.ptr 0 []),(4,aWays (openL r true)),(5,iv (openE r true))] [(0,.cells 25 (cRun r))] 80) ⟨tv,⟨⟨rfl,rfl,tv⟩,(t78 (r) (true)),hp,tv,(fun i0=>tv)⟩,tp 5⟩ ?_
 refine swp_seq (swp_seq ?_)
 refine sQ (kt:=[1,4,5,18]) (kh:=[0]) (q:=tn 2) (st':=ASt.mk [(1,.ptr 0 []),(4,aWays (openL r true)),(5,iv (openE r true)),(18,bv !decide (openE r true=0))] [(0,.cells 25 (cRun r))] 96) (tp 2) ?_
 refine swp_cond (!decide (openE r true=0)) (by kernel_rfl) (fun h1 => ?_) (fun h1 => ?_)
 ·refine swp_seq ?_
  refine sQ (kt:=[2,3]) (kh:=[]) (q:=tn 3) (st':=ASt.mk [(2,iv 0),(3,iv (openE r true))] [] 120) (tp 3) ?_
  refine swp_ret ?_
  exact rQ [] ((True/\True/\True)/\((zN (iv 0) (iv (fewP r)))/\(zM (iv (openE r true)))/\True)/\T3) ⟨⟨tv,tv,tv⟩,⟨⟨(congrArg iv (o0 hp h1)),rfl⟩,⟨rfl,rfl⟩,tv⟩,rfl,rfl,rfl⟩
 ·refine swp_skip (swp_seq ?_)
  refine sQ (kt:=[4,6]) (kh:=[]) (q:=tn 4) (st':=ASt.mk [(4,aWays (openL r true)),(6,iv (↑(r.machines.length):Int))] [] 128) (tp 4) ?_
  refine swp_seq (swp_seq ?_)
  refine sQ (kt:=[6,23,24,25]) (kh:=[]) (q:=tn 3) (st':=ASt.mk [(6,iv (↑(r.machines.length):Int)),(23,aWays (openL r true)),(24,iv (↑((openL r true).length):Int)),(25,iv 0)] [] 152) (tp 3) ?_
  refine swp_block ?_
  refine swp_loopA (z22_2 r) (eQ hE [] [] [23,24] [] (((zT (aWays (openL r true)))/\(zT (iv (↑((openL r true).length):Int)))/\(zN (iv 0) (iv (↑0:Int)))/\(zN (iv (↑(r.machines.length):Int)) (iv (fewPTo r (openL r true) 0)))/\True)/\True/\T2) ⟨⟨⟨rfl,rfl⟩,⟨rfl,rfl⟩,⟨(congrArg iv (o1 hp h1)),rfl⟩,⟨(congrArg iv (o2 hp h1)),rfl⟩,tv⟩,tv,rfl,rfl⟩) (o3 hp h1) (fun (x2:Nat) hx2 => ?_)
  refine swp_seq ?_
  refine sQ (kt:=[23,24,25,6,26]) (kh:=[]) (q:=True/\True) (st':=ASt.mk [(23,aWays (openL r true)),(24,iv (↑((openL r true).length):Int)),(25,iv (x2:Int)),(6,iv (fewPTo r (openL r true) x2)),(26,bv (decide ((x2:Int) < (↑((openL r true).length):Int))))] [] 10160) ⟨tv,tv⟩ ?_
  refine swp_seq ?_
  refine swp_cond (decide ((x2:Int) < (↑((openL r true).length):Int))) (by kernel_rfl) (fun h3 => ?_) (fun h3 => ?_)
  ·refine swp_skip (swp_seq (swp_block (swp_seq ?_)))
   refine sQ (kt:=[23,24,25,6,8]) (kh:=[10176]) (q:=(0<=(x2:Int)/\(x2:Int) < (↑((openL r true).length):Int))/\tn 3) (st':=ASt.mk [(23,aWays (openL r true)),(24,iv (↑((openL r true).length):Int)),(25,iv (x2:Int)),(6,iv (fewPTo r (openL r true) x2)),(8,.ptr 10176 [])] [(10176,.cells 107 (cWay ((openL r true).getD x2 default)))] 10192) ⟨⟨(o4 hp h1 x2 hx2 h3),(o5 hp h1 x2 hx2 h3)⟩,tp 3⟩ ?_
   refine swp_seq ?_
   refine sQ (kt:=[23,24,25,6,8,9]) (kh:=[10176,10192]) (q:=tn 2) (st':=ASt.mk [(23,aWays (openL r true)),(24,iv (↑((openL r true).length):Int)),(25,iv (x2:Int)),(6,iv (fewPTo r (openL r true) x2)),(8,.ptr 10176 []),(9,.vec 10192)] [(10176,.cells 107 (cWay ((openL r true).getD x2 default))),(10192,.mp 108 [])] 10208) (tp 2) ?_
   refine swp_seq (swp_seq ?_)
   refine sQ (kt:=[23,24,25,6,9,31,32,33]) (kh:=[10192]) (q:=tn 4) (st':=ASt.mk [(23,aWays (openL r true)),(24,iv (↑((openL r true).length):Int)),(25,iv (x2:Int)),(6,iv (fewPTo r (openL r true) x2)),(9,.vec 10192),(31,aInts ((openL r true).getD x2 default).frm),(32,iv (↑(((openL r true).getD x2 default).frm.length):Int)),(33,iv 0)] [(10192,.mp 108 [])] 10240) (tp 4) ?_
   refine swp_block ?_
   refine swp_loopA (z22_1 r x2) (eQ hE [] [(5000,.same 10192)] [23,24,25,6,31,32] [] (((zT (aWays (openL r true)))/\(zT (iv (↑((openL r true).length):Int)))/\(zT (iv (x2:Int)))/\(zT (iv (fewPTo r (openL r true) x2)))/\(zT (aInts ((openL r true).getD x2 default).frm))/\(zT (iv (↑(((openL r true).getD x2 default).frm.length):Int)))/\(zN (iv 0) (iv (↑0:Int)))/\zE (some (Src.same 10192))/\True)/\((108=108 /\ []=logTo ((openL r true).getD x2 default).frm 0)/\True)/\T2) ⟨⟨⟨rfl,rfl⟩,⟨rfl,rfl⟩,⟨rfl,rfl⟩,⟨rfl,rfl⟩,⟨rfl,rfl⟩,⟨rfl,rfl⟩,⟨(congrArg iv (o6 hp h1 x2 hx2 h3)),rfl⟩,rfl,tv⟩,⟨⟨rfl,(o7 hp h1 x2 hx2 h3)⟩,tv⟩,rfl,rfl⟩) (o8 hp h1 x2 hx2 h3) (fun (x4:Nat) hx4 => ?_)
   refine swp_seq ?_
   refine sQ (kt:=[23,24,25,6,31,32,33,9,34]) (kh:=[5000]) (q:=True/\True) (st':=ASt.mk [(23,aWays (openL r true)),(24,iv (↑((openL r true).length):Int)),(25,iv (x2:Int)),(6,iv (fewPTo r (openL r true) x2)),(31,aInts ((openL r true).getD x2 default).frm),(32,iv (↑(((openL r true).getD x2 default).frm.length):Int)),(33,iv (x4:Int)),(9,.vec 5000),(34,bv (decide ((x4:Int) < (↑(((openL r true).getD x2 default).frm.length):Int))))] [(5000,.mp 108 (logTo ((openL r true).getD x2 default).frm x4))] 20248) ⟨tv,tv⟩ ?_
   refine swp_seq ?_
   refine swp_cond (decide ((x4:Int) < (↑(((openL r true).getD x2 default).frm.length):Int))) (by kernel_rfl) (fun h5 => ?_) (fun h5 => ?_)
   ·refine swp_skip (swp_seq (swp_block (swp_seq ?_)))
    refine sQ (kt:=[23,24,25,6,31,32,33,9,11]) (kh:=[5000]) (q:=(0<=(x4:Int)/\(x4:Int) < (↑(((openL r true).getD x2 default).frm.length):Int))/\tn 2) (st':=ASt.mk [(23,aWays (openL r true)),(24,iv (↑((openL r true).length):Int)),(25,iv (x2:Int)),(6,iv (fewPTo r (openL r true) x2)),(31,aInts ((openL r true).getD x2 default).frm),(32,iv (↑(((openL r true).getD x2 default).frm.length):Int)),(33,iv (x4:Int)),(9,.vec 5000),(11,iv (((openL r true).getD x2 default).frm.getD x4 0))] [(5000,.mp 108 (logTo ((openL r true).getD x2 default).frm x4))] 20272) ⟨⟨(o9 hp h1 x2 hx2 h3 x4 hx4 h5),(o10 hp h1 x2 hx2 h3 x4 hx4 h5)⟩,tp 2⟩ ?_
    refine sQ (kt:=[23,24,25,6,31,32,33,9]) (kh:=[5000]) (q:=True/\True/\inI (((openL r true).getD x2 default).frm.getD x4 0)/\inI (mlook (logTo ((openL r true).getD x2 default).frm x4) (((openL r true).getD x2 default).frm.getD x4 0) + 1)/\(inI (((openL r true).getD x2 default).frm.getD x4 0)/\inI (mlook (logTo ((openL r true).getD x2 default).frm x4) (((openL r true).getD x2 default).frm.getD x4 0) + 1)/\(logTo ((openL r true).getD x2 default).frm x4).length < 65536)/\True) (st':=ASt.mk [(23,aWays (openL r true)),(24,iv (↑((openL r true).length):Int)),(25,iv (x2:Int)),(6,iv (fewPTo r (openL r true) x2)),(31,aInts ((openL r true).getD x2 default).frm),(32,iv (↑(((openL r true).getD x2 default).frm.length):Int)),(33,iv (x4:Int)),(9,.vec 5000)] [(5000,.mp 108 (logTo ((openL r true).getD x2 default).frm x4 ++ [(((openL r true).getD x2 default).frm.getD x4 0,mlook (logTo ((openL r true).getD x2 default).frm x4) (((openL r true).getD x2 default).frm.getD x4 0) + 1)]))] 20312) ⟨tv,tv,(o11 hp h1 x2 hx2 h3 x4 hx4 h5),(o12 hp h1 x2 hx2 h3 x4 hx4 h5),⟨(o13 hp h1 x2 hx2 h3 x4 hx4 h5),(o14 hp h1 x2 hx2 h3 x4 hx4 h5),(o15 hp h1 x2 hx2 h3 x4 hx4 h5)⟩,tv⟩ ?_
    refine sQ (kt:=[23,24,25,6,31,32,33,9]) (kh:=[5000]) (q:=inI ((x4:Int) + 1)/\True/\True) (st':=ASt.mk [(23,aWays (openL r true)),(24,iv (↑((openL r true).length):Int)),(25,iv (x2:Int)),(6,iv (fewPTo r (openL r true) x2)),(31,aInts ((openL r true).getD x2 default).frm),(32,iv (↑(((openL r true).getD x2 default).frm.length):Int)),(33,iv ((x4:Int) + 1)),(9,.vec 5000)] [(5000,.mp 108 (logTo ((openL r true).getD x2 default).frm x4 ++ [(((openL r true).getD x2 default).frm.getD x4 0,mlook (logTo ((openL r true).getD x2 default).frm x4) (((openL r true).getD x2 default).frm.getD x4 0) + 1)]))] 20328) ⟨(o16 hp h1 x2 hx2 h3 x4 hx4 h5),tv,tv⟩ ?_
    exact loop_next (z22_1 r x2) x4 (eQ hE [] [(5000,.same 5000)] [23,24,25,6,31,32] [] (((zT (aWays (openL r true)))/\(zT (iv (↑((openL r true).length):Int)))/\(zT (iv (x2:Int)))/\(zT (iv (fewPTo r (openL r true) x2)))/\(zT (aInts ((openL r true).getD x2 default).frm))/\(zT (iv (↑(((openL r true).getD x2 default).frm.length):Int)))/\(zN (iv ((x4:Int) + 1)) (iv (↑(x4 + 1):Int)))/\zE (some (Src.same 5000))/\True)/\((108=108/\logTo ((openL r true).getD x2 default).frm x4 ++ [(((openL r true).getD x2 default).frm.getD x4 0,mlook (logTo ((openL r true).getD x2 default).frm x4) (((openL r true).getD x2 default).frm.getD x4 0) + 1)]=logTo ((openL r true).getD x2 default).frm (x4 + 1))/\True)/\T2) ⟨⟨⟨rfl,rfl⟩,⟨rfl,rfl⟩,⟨rfl,rfl⟩,⟨rfl,rfl⟩,⟨rfl,rfl⟩,⟨rfl,rfl⟩,⟨(congrArg iv (o17 hp h1 x2 hx2 h3 x4 hx4 h5)),rfl⟩,rfl,tv⟩,⟨⟨rfl,(o18 hp h1 x2 hx2 h3 x4 hx4 h5)⟩,tv⟩,rfl,rfl⟩) (o19 hp h1 x2 hx2 h3 x4 hx4 h5) (o20 hp h1 x2 hx2 h3 x4 hx4 h5)
   ·refine swp_exit ?_
    refine sQ (kt:=[23,24,25,6]) (kh:=[]) (q:=tn 5) (st':=ASt.mk [(23,aWays (openL r true)),(24,iv (↑((openL r true).length):Int)),(25,iv (x2:Int)),(6,iv (min (fewPTo r (openL r true) x2) (↑((mkeys (logTo ((openL r true).getD x2 default).frm x4)).length):Int)))] [] 20288) (tp 5) ?_
    refine sQ (kt:=[23,24,25,6]) (kh:=[]) (q:=inI ((x2:Int) + 1)/\True/\True) (st':=ASt.mk [(23,aWays (openL r true)),(24,iv (↑((openL r true).length):Int)),(25,iv ((x2:Int) + 1)),(6,iv (min (fewPTo r (openL r true) x2) (↑((mkeys (logTo ((openL r true).getD x2 default).frm x4)).length):Int)))] [] 20304) ⟨(o21 hp h1 x2 hx2 h3 x4 hx4 h5),tv,tv⟩ ?_
    exact loop_next (z22_2 r) x2 (eQ hE [] [] [23,24] [] (((zT (aWays (openL r true)))/\(zT (iv (↑((openL r true).length):Int)))/\(zN (iv ((x2:Int) + 1)) (iv (↑(x2 + 1):Int)))/\(zN (iv (min (fewPTo r (openL r true) x2) (↑((mkeys (logTo ((openL r true).getD x2 default).frm x4)).length):Int))) (iv (fewPTo r (openL r true) (x2 + 1))))/\True)/\True/\T2) ⟨⟨⟨rfl,rfl⟩,⟨rfl,rfl⟩,⟨(congrArg iv (o22 hp h1 x2 hx2 h3 x4 hx4 h5)),rfl⟩,⟨(congrArg iv (o23 hp h1 x2 hx2 h3 x4 hx4 h5)),rfl⟩,tv⟩,tv,rfl,rfl⟩) (o24 hp h1 x2 hx2 h3 x4 hx4 h5) (o25 hp h1 x2 hx2 h3 x4 hx4 h5)
  ·refine swp_exit (swp_seq ?_)
   refine sQ (kt:=[2,3]) (kh:=[]) (q:=tn 3) (st':=ASt.mk [(2,iv (fewPTo r (openL r true) x2)),(3,iv 0)] [] 10184) (tp 3) ?_
   refine swp_ret ?_
   exact rQ [] ((True/\True/\True)/\((zN (iv (fewPTo r (openL r true) x2)) (iv (fewP r)))/\(zN (iv 0) (iv (openE r true)))/\True)/\T3) ⟨⟨tv,tv,tv⟩,⟨⟨(congrArg iv (o26 hp h1 x2 hx2 h3)),rfl⟩,⟨(congrArg iv (o27 hp h1 x2 hx2 h3)),rfl⟩,tv⟩,rfl,rfl,rfl⟩
theorem t22 (r:Run):Triple Try.prog 22 (s22 r):=by
  apply w22
  all_goals (first
    | (intro _ h; rw [fewP,if_neg (openBad h)]; done)
    | ((repeat intro _) <;> (try simp only [v0,v1,v2,v3,v4,v5,v6,v7,v8,v9,inI,fits,Go.Sh.small] at *) <;> first | (exact rfl) | omega | exact vz | (simp_all; done) | (simp_all; omega))
    | (intro _ h
       have F:=openF h
       have h2:=F.len
       have h3:=F.ok.machines
       have h4:=F.ok.found
       first
       | exact F.zero.symm
       | (intro x hx hl
          simp only [decide_eq_true_eq,decide_eq_false_iff_not] at hl
          first
          | exact F.zero.symm
          | omega
          | (simp only [inI]; omega)
          | (rw [fewP,if_pos F.zero,← F.eq,show x=(openL r true).length by omega]; done)
          | (intro j hj hjl
             have h5:=F.frm x (by omega)
             simp only [decide_eq_true_eq,decide_eq_false_iff_not] at hjl
             have h6:=logTo_look ((openL r true).getD x default).frm (((openL r true).getD x default).frm.getD j 0) j
             have h7:=logTo_len ((openL r true).getD x default).frm j
             first
             | omega
             | (simp only [inI]; omega)
             | (simp only [inI]; have h8:=F.mach x (by omega) j (by omega); omega)
             | (rw [logTo_succ]; done)
             | (rw [fewPTo_succ,usedW,show ((openL r true).getD x default).frm.length=j by omega]; done))))
    | skip)
end Go.Ab
namespace Go.Proofs
open Go.Shelf
def Try.lays189_ren:Go.Shelf.Ren:=⟨fun | 189=>119 | 125=>141 | 257=>140 | 128=>155 | 129=>156 | 294=>146 | 295=>147 | 296=>148 | 297=>149 | 298=>150 | 299=>151 | 216=>152 | 300=>153 | 301=>154 | 328=>158 | 329=>159 | 330=>160 | 331=>161 | 332=>162 | 215=>163 | 343=>164 | n=>n,fun | 28=>30 | 3=>3 | 46=>157 | 0=>0 | 51=>171 | 53=>173 | 4=>4 | 183=>166 | 182=>165 | 131=>75 | 5=>5 | 9=>9 | 218=>175 | 222=>179 | 228=>181 | 229=>182 | n=>n,fun | n=>n⟩
theorem Try.lays189:Go.Proofs.Lays.n189 Try.prog Try.lays189_ren:={
 mixed:=by kernel_rfl
 f125:=Try.func141.trans (congrArg some (by kernel_rfl))
 f128:=Try.func155.trans (congrArg some (by kernel_rfl))
 f129:=Try.func156.trans (congrArg some (by kernel_rfl))
 f189:=Try.func119.trans (congrArg some (by kernel_rfl))
 f215:=Try.func163.trans (congrArg some (by kernel_rfl))
 f216:=Try.func152.trans (congrArg some (by kernel_rfl))
 f257:=Try.func140.trans (congrArg some (by kernel_rfl))
 f294:=Try.func146.trans (congrArg some (by kernel_rfl))
 f295:=Try.func147.trans (congrArg some (by kernel_rfl))
 f296:=Try.func148.trans (congrArg some (by kernel_rfl))
 f297:=Try.func149.trans (congrArg some (by kernel_rfl))
 f298:=Try.func150.trans (congrArg some (by kernel_rfl))
 f299:=Try.func151.trans (congrArg some (by kernel_rfl))
 f300:=Try.func153.trans (congrArg some (by kernel_rfl))
 f301:=Try.func154.trans (congrArg some (by kernel_rfl))
 f328:=Try.func158.trans (congrArg some (by kernel_rfl))
 f329:=Try.func159.trans (congrArg some (by kernel_rfl))
 f330:=Try.func160.trans (congrArg some (by kernel_rfl))
 f331:=Try.func161.trans (congrArg some (by kernel_rfl))
 f332:=Try.func162.trans (congrArg some (by kernel_rfl))
 f343:=Try.func164.trans (congrArg some (by kernel_rfl))
 t0:=Try.underlying0
 a0:=Try.isAgg0
 z0:=Try.sizeOf0
 v0:=Try.zeroValue0
 t3:=Try.underlying3
 a3:=Try.isAgg3
 z3:=Try.sizeOf3
 v3:=Try.zeroValue3
 t4:=Try.underlying4
 a4:=Try.isAgg4
 z4:=Try.sizeOf4
 v4:=Try.zeroValue4
 t5:=Try.underlying5
 a5:=Try.isAgg5
 z5:=Try.sizeOf5
 v5:=Try.zeroValue5
 t9:=Try.underlying9
 a9:=Try.isAgg9
 z9:=Try.sizeOf9
 v9:=Try.zeroValue9
 t28:=Try.underlying30
 a28:=Try.isAgg30
 z28:=Try.sizeOf30
 v28:=Try.zeroValue30
 t46:=Try.underlying157
 a46:=Try.isAgg157
 z46:=Try.sizeOf157
 v46:=Try.zeroValue157
 t51:=Try.underlying171
 a51:=Try.isAgg171
 z51:=Try.sizeOf171
 v51:=Try.zeroValue171
 t53:=Try.underlying173
 a53:=Try.isAgg173
 z53:=Try.sizeOf173
 v53:=Try.zeroValue173
 t131:=Try.underlying75
 a131:=Try.isAgg75
 z131:=Try.sizeOf75
 v131:=Try.zeroValue75
 t182:=Try.underlying165
 a182:=Try.isAgg165
 z182:=Try.sizeOf165
 v182:=Try.zeroValue165
 t183:=Try.underlying166
 a183:=Try.isAgg166
 z183:=Try.sizeOf166
 v183:=Try.zeroValue166
 t218:=Try.underlying175
 a218:=Try.isAgg175
 z218:=Try.sizeOf175
 v218:=Try.zeroValue175
 t222:=Try.underlying179
 a222:=Try.isAgg179
 z222:=Try.sizeOf179
 v222:=Try.zeroValue179
 t228:=Try.underlying181
 a228:=Try.isAgg181
 z228:=Try.sizeOf181
 v228:=Try.zeroValue181
 t229:=Try.underlying182
 a229:=Try.isAgg182
 z229:=Try.sizeOf182
 v229:=Try.zeroValue182 }
open Go.Sort Go.RowKit in
theorem Try.slices_Sort_int (blk off cap:Nat) (zs:List Int) (w:World) (hH:Holds (Value.int .i64) w blk off zs.toArray) (hblk:blk < w.heap.size) (hsz:zs.length < 4611686018427387904) :
  Calls Try.prog 119 #[.slice (some ⟨blk,off,none⟩) zs.length cap] w fun e w' =>
   e = .returned (.tuple #[]) /\ ∃ n os,w'=grow (putRow (Value.int .i64) (Sort.ahead w n) blk off (zs.mergeSort fun x y=>decide (x<=y)).toArray) os:=Any.slices_Sort_int Try.lays189 blk off cap zs w hH hblk hsz
def Try.laysNm220_ren:Go.Shelf.Ren:=⟨fun | 20=>120 | n=>n,fun | 22=>30 | 3=>3 | 4=>4 | 0=>0 | n=>n,fun | n=>n⟩
theorem Try.laysNm220:Go.Proofs.Lays2.n20 Try.prog Try.laysNm220_ren:={
 mixed:=by kernel_rfl
 f20:=Try.func120.trans (congrArg some (by kernel_rfl))
 t0:=Try.underlying0
 a0:=Try.isAgg0
 z0:=Try.sizeOf0
 v0:=Try.zeroValue0
 t3:=Try.underlying3
 a3:=Try.isAgg3
 z3:=Try.sizeOf3
 v3:=Try.zeroValue3
 t4:=Try.underlying4
 a4:=Try.isAgg4
 z4:=Try.sizeOf4
 v4:=Try.zeroValue4
 t22:=Try.underlying30
 a22:=Try.isAgg30
 z22:=Try.sizeOf30
 v22:=Try.zeroValue30
 i3:=by kernel_rfl }
open Go.RowKit Go.Lib Go.Sort in
theorem Try.slices_Compact_int (blk off cap:Nat) (zs:List Int) (w:World) (hH:Holds (Value.int .i64) w blk off zs.toArray) (hsz:zs.length<=9223372036854775807) (hcap:zs.length<=cap) :
  Calls Try.prog 120 #[.slice (some ⟨blk,off,none⟩) zs.length cap] w fun e w'=>e = .returned (.slice (some ⟨blk,off,none⟩) (Lib.compact zs).length cap) /\ ∃ q,w'=putRow (Value.int .i64) (Sort.ahead w q) blk off (Lib.compact zs ++ List.replicate (zs.length - (Lib.compact zs).length) 0).toArray:=Any.slices_Compact_int Try.laysNm220 blk off cap zs w hH hsz hcap
end Go.Proofs
namespace Go.Sh
def sortI (l:List Int):List Int:=l.mergeSort (fun x y=>decide (x<=y))
theorem sortI_len (l:List Int):(sortI l).length=l.length:=List.length_mergeSort _
def compactI (l:List Int):List Int:=Go.Lib.compact l
theorem compact_le (l:List Int):(compactI l).length<=l.length:=by
 unfold compactI Go.Lib.compact Go.Lib.compactUpTo
 rw [List.length_map]
 exact Nat.le_trans (List.length_filter_le _ _) (by simp)
end Go.Sh
namespace Go.Ab
open Go Go.RowKit Go.Sort Go.Sh
theorem putRow_heap {α:Type} [Inhabited α] (enc:α->Value) (w:World) (q k:Nat) (ys:List α) (os:Array Obj) (us:List Value) (e:TypeId) (hw:w.heap[k]? = some (.cells us.toArray e (0,0))) (hl:ys.length<=us.length) :
  (grow (putRow enc (Sort.ahead w q) k 0 ys.toArray) os).heap[k]? = some (.cells (ys.map enc ++ us.drop ys.length).toArray e (0,0))/\w.grownBy (grow (putRow enc (Sort.ahead w q) k 0 ys.toArray) os) (some k):=by
 have hlt:k < w.heap.size:=(Array.getElem?_eq_some_iff.1 hw).1
 have hsz:(putRow enc (Sort.ahead w q) k 0 ys.toArray).heap.size=w.heap.size:=by simp [putRow,mapBlock,Sort.ahead]
 refine ⟨?_,⟨rfl,rfl,rfl,by rw [size_grow,hsz]; omega,fun j hj hne => ?_⟩⟩
 ·rw [heap_grow_old _ _ (by rw [hsz]; exact hlt)]
  show ((Sort.ahead w q).heap.modify k _)[k]? = _
  have hw':(Sort.ahead w q).heap[k]? = some (.cells us.toArray e (0,0)):=hw
  rw [Array.getElem?_modify,if_pos rfl,hw']
  simp only [Option.map_some,onCells,Option.some.injEq,Obj.cells.injEq,and_true]
  apply Array.ext_getElem?
  intro i
  simp only [putCells,Array.getElem?_mapIdx,List.getElem?_toArray,List.size_toArray,Nat.zero_le,true_and,Nat.zero_add,Nat.sub_zero]
  by_cases h1:i < ys.length
  ·rw [List.getElem?_append_left (by simpa using h1),List.getElem?_map,List.getElem?_eq_getElem h1,List.getElem?_eq_getElem (show i < us.length by omega)]
   simp only [Option.map_some,if_pos h1]
   rw [getElem!_pos _ i (by simpa using h1)]
   simp
  ·rw [List.getElem?_append_right (by simpa using h1),List.getElem?_drop]
   have:ys.length + (i - (List.map enc ys).length)=i:=by simp; omega
   rw [this]
   cases us[i]? with
   | none=>rfl
   | some u=>simp only [Option.map_some,if_neg h1]
 ·rw [heap_grow_old _ _ (by rw [hsz]; exact hj)]
  show ((Sort.ahead w q).heap.modify k _)[j]? = _
  rw [Array.getElem?_modify,if_neg (fun e=>hne (by rw [e]))]
  rfl
def rowI (t:TypeId) (l:List Int):OB := .vec t 1 l.length (fun i=>[iv (l.getD i 0)])
theorem rowI_flat {E:Env} {l:List Int} {g:Nat->List Value} (hr:∀ i,i < l.length->RelL E false [iv (l.getD i 0)] (g i)):(List.range l.length).flatMap g=l.map (Value.int .i64):=by
 have h1:∀ i,i < l.length->g i = [Value.int .i64 (l.getD i 0)]:=by
  intro i hi
  have:=hr i hi
  generalize g i=x at this
  cases this with
  | cons h _ hs=>cases hs; cases h; rfl
 refine List.ext_getElem? fun i => ?_
 have hlen:=flat_length g 1 l.length (fun i hi=>by rw [h1 i hi]; rfl)
 by_cases hi:i < l.length
 ·have:=flat_get g 1 l.length (fun i hi=>by rw [h1 i hi]; rfl) i 0 hi (by omega)
  simp only [Nat.mul_one,Nat.add_zero] at this
  rw [this,h1 i hi,List.getElem?_map,List.getElem?_eq_getElem hi]
  simp [List.getD,List.getElem?_eq_getElem hi]
 ·rw [List.getElem?_eq_none (by omega),List.getElem?_eq_none (by simpa using hi)]
theorem rowI_rel (E:Env) (l:List Int):∀ i,i < l.length->RelL E false [iv (l.getD i 0)] [Value.int .i64 (l.getD i 0)]:=fun i _ => .cons (.lit _) rfl .nil
theorem rowI_flat' (l:List Int):(List.range l.length).flatMap (fun i=>[Value.int .i64 (l.getD i 0)])=l.map (Value.int .i64):=by
 let E0:Env:=⟨fun _=>none,fun _=>none,fun _=>none,fun _ _=>False⟩
 exact rowI_flat (E:=E0) (rowI_rel E0 l)
theorem holdsI {w:World} {k:Nat} {l:List Int} {us:List Value} {e:TypeId} (hw:w.heap[k]? = some (.cells us.toArray e (0,0))) (ht:us.take l.length=l.map (Value.int .i64)):Holds (Value.int .i64) w k 0 l.toArray:=by
 intro j hj
 have hj':j < l.length:=by simpa using hj
 have h1:us[j]? = some (.int .i64 l[j]):=by
  have:=congrArg (fun x=>x[j]?) ht
  simp only [List.getElem?_take,if_pos hj',List.getElem?_map,List.getElem?_eq_getElem hj',Option.map_some] at this
  exact this
 refine ⟨?_,?_⟩
 ·rw [Nat.zero_add,getElem!_pos _ j hj]
  simp only [World.cell?,hw]
  simpa using h1
 ·simp only [World.frozen?,hw]
  rfl
theorem own_rowI {C:Ctx} {E:Env} {w:World} {b:Nat} {t:TypeId} {l:List Int} (h:OwnOB C E w b (rowI t l)) (hn:0 < l.length) :
  ∃ k cap us,E.hdr b=some (.slice (some ⟨k,0,none⟩) l.length cap)/\l.length<=cap/\cap<=maxLen/\w.heap[k]? = some (.cells (List.toArray us) t (0,0))/\us.length=cap/\us.take l.length=l.map (Value.int .i64)/\E.blk b=some k/\C.avail k/\E.M k=none:=by
 obtain ⟨hd,g,hh,ho,hl,hr,hbk,hav⟩:=h
 rcases ownsRow_form ho with ⟨_,h0⟩ | ⟨k,cap,rfl,hnc,hcm,us,hw,hul,hut⟩
 ·omega
 ·rw [Nat.mul_one] at hul hut
  rw [rowI_flat hr] at hut
  exact ⟨k,cap,us,hh,hnc,hcm,hw,hul,hut,hbk,(hav k rfl).1,(hav k rfl).2⟩
theorem ownsRow_of {w:World} {k cap:Nat} {us:List Value} {t:TypeId} {l:List Int} (hw:w.heap[k]? = some (.cells us.toArray t (0,0))) (hnc:l.length<=cap) (hcm:cap<=maxLen) (hul:us.length=cap) (hut:us.take l.length=l.map (Value.int .i64)) :
  w.ownsRow 0 t 1 (.slice (some ⟨k,0,none⟩) l.length cap) l.length ((List.range l.length).flatMap (fun i=>[Value.int .i64 (l.getD i 0)])):=by
 rw [rowI_flat']
 refine ⟨by simp,.inr ⟨k,cap,us.toArray,rfl,Nat.zero_le _,hw,hnc,hcm,by simpa using hul,by simpa using hut⟩⟩
theorem triple_sort {P:Program} {f:FuncId} (hcall:Callable P f) (t:TypeId) (b:Nat) (l:List Int)
  (h:∀ k cap w,Holds (Value.int .i64) w k 0 l.toArray->k < w.heap.size->l.length < 4611686018427387904->Calls P f #[.slice (some ⟨k,0,none⟩) l.length cap] w fun e w'=>e = .returned (.tuple #[]) /\ ∃ n os,w'=grow (putRow (Value.int .i64) (Sort.ahead w n) k 0 (sortI l).toArray) os) :
  Triple P f { args:=[.vec b],pre:=0 < l.length/\l.length<=65536,hin:=[(b,rowI t l)],res := .tup [],hout:=[(b,rowI t (sortI l))] }:=by
 refine ⟨hcall,fun hpre E w vs _ hok hlen hrel _ => ?_⟩
 obtain ⟨v,rfl⟩:∃ v,vs = [v]:=by
  match vs,hlen with
  | [v],_=>exact ⟨v,rfl⟩
 have hv:=hrel 0
 simp only [List.getD_cons_zero] at hv
 have hob:Heap.of [(b,rowI t l)] b=some (rowI t l):=by rw [Heap.of_cons,if_pos rfl]
 obtain ⟨k,cap,us,hh,hnc,hcm,hw,hul,hut,hbk,hav,hM⟩:=own_rowI (hok.own b _ hob) hpre.1
 cases hv with
 | vec _ hh' _ =>
 rw [hh] at hh'
 cases hh'
 have hlt:k < w.heap.size:=(Array.getElem?_eq_some_iff.1 hw).1
 refine (h k cap w (holdsI hw hut) hlt (by omega)).mono ?_
 rintro e w' ⟨rfl,n,os,rfl⟩
 obtain ⟨h1,hg⟩:=putRow_heap (Value.int .i64) w n k (sortI l) os us t hw (by rw [sortI_len]; omega)
 refine ⟨_,E,rfl,?_,.tup rfl (fun k=>by simp; exact .any _),fun _ _=>⟨rfl,rfl⟩⟩
 have:=hok.setVec b k (by rw [hob]; simp) hbk hav hM hg (rowI t (sortI l)) ?_
 ·refine this.drop fun i ob hi => ?_
  rw [Heap.of_cons] at hi
  split at hi
  ·rename_i e; cases hi; unfold Heap.put; rw [if_pos e.symm]
  ·cases hi
 ·refine ⟨_,fun i=>[Value.int .i64 ((sortI l).getD i 0)],hh,?_,fun _ _=>rfl,rowI_rel E _,hbk,fun k' hk' => ?_⟩
  ·have:=ownsRow_of (l:=sortI l) (cap:=cap) h1 (by rw [sortI_len]; exact hnc) hcm (by simp [sortI_len,hul]; omega) (by rw [List.take_append_of_le_length (by rw [List.length_map]; exact Nat.le_refl _)]; exact List.take_of_length_le (by rw [List.length_map]; exact Nat.le_refl _))
   rw [sortI_len] at this ⊢
   exact this
  ·cases hk'; exact ⟨hav,hM⟩
theorem triple_compact {P:Program} {f:FuncId} (hcall:Callable P f) (t:TypeId) (b:Nat) (l:List Int)
  (h:∀ k cap w,Holds (Value.int .i64) w k 0 l.toArray->l.length<=9223372036854775807->l.length<=cap->Calls P f #[.slice (some ⟨k,0,none⟩) l.length cap] w fun e w'=>e = .returned (.slice (some ⟨k,0,none⟩) (Lib.compact l).length cap) /\ ∃ q,w'=putRow (Value.int .i64) (Sort.ahead w q) k 0 (Lib.compact l ++ List.replicate (l.length - (Lib.compact l).length) 0).toArray)
  (hc:(compactI l).length<=l.length) :
  Triple P f { args:=[.vec b],pre:=0 < l.length/\l.length<=65536,hin:=[(b,rowI t l)],res := .sl 1 (compactI l).length (fun i=>[iv ((compactI l).getD i 0)]),hout:=[] }:=by
 replace hc:(Lib.compact l).length<=l.length:=hc
 show Triple P f { args:=[.vec b],pre:=0 < l.length/\l.length<=65536,hin:=[(b,rowI t l)],res := .sl 1 (Lib.compact l).length (fun i=>[iv ((Lib.compact l).getD i 0)]),hout:=[] }
 refine ⟨hcall,fun hpre E w vs _ hok hlen hrel _ => ?_⟩
 obtain ⟨v,rfl⟩:∃ v,vs = [v]:=by
  match vs,hlen with
  | [v],_=>exact ⟨v,rfl⟩
 have hv:=hrel 0
 simp only [List.getD_cons_zero] at hv
 have hob:Heap.of [(b,rowI t l)] b=some (rowI t l):=by rw [Heap.of_cons,if_pos rfl]
 obtain ⟨k,cap,us,hh,hnc,hcm,hw,hul,hut,hbk,hav,hM⟩:=own_rowI (hok.own b _ hob) hpre.1
 cases hv with
 | vec _ hh' _ =>
 rw [hh] at hh'
 cases hh'
 refine (h k cap w (holdsI hw hut) (by omega) hnc).mono ?_
 rintro e w' ⟨rfl,q,rfl⟩
 let ys:=Lib.compact l ++ List.replicate (l.length - (Lib.compact l).length) 0
 have hys:ys.length=l.length:=by simp [ys]; omega
 obtain ⟨h1,hg⟩:=putRow_heap (Value.int .i64) w q k ys #[] us t hw (by omega)
 rw [grow_empty] at h1 hg
 have hown:=hok.setVec b k (by rw [hob]; simp) hbk hav hM hg (rowI t ys) ⟨_,fun i=>[Value.int .i64 (ys.getD i 0)],by rw [hh,← hys],ownsRow_of (l:=ys) (cap:=cap) h1 (by omega) hcm (by simp [hul]; omega) (by rw [List.take_append_of_le_length (by rw [List.length_map]; exact Nat.le_refl _)]; exact List.take_of_length_le (by rw [List.length_map]; exact Nat.le_refl _)),fun _ _=>rfl,rowI_rel E _,hbk,fun k' hk'=>by cases hk'; exact ⟨hav,hM⟩⟩
 have hfz:=hown.freeze b k _ (by unfold Heap.put; rw [if_pos rfl]; simp) hbk hav hM h1
 refine ⟨_,E.freeze k (.cells (ys.map (Value.int .i64) ++ us.drop ys.length).toArray t (0,0)),rfl,?_,?_,fun _ _=>⟨rfl,rfl⟩⟩
 ·refine hfz.drop fun i ob hi => ?_
  cases hi
 ·refine .slA 1 _ _ k 0 cap (fun i=>[Value.int .i64 ((Lib.compact l).getD i 0)]) (by omega) hcm (fun _ _=>rfl) (fun i j hi hj => ?_) (fun i hi => .cons (.lit _) rfl .nil)
  have hj0:j=0:=by omega
  subst hj0
  simp only [mcell,frozen_self,Nat.zero_add,Nat.mul_one,Nat.add_zero,List.getElem?_toArray,List.getElem?_cons_zero]
  have hlt:i < (ys.map (Value.int .i64)).length:=by rw [List.length_map,hys]; omega
  rw [List.getElem?_append_left hlt,List.getElem?_map]
  simp only [ys,List.getElem?_append_left hi,List.getElem?_eq_getElem hi,Option.map_some]
  simp [List.getD,List.getElem?_eq_getElem hi]
end Go.Ab
