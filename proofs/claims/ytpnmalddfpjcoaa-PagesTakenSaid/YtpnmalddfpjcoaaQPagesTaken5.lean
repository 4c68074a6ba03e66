/- PagesTaken returns true for every input, and leaves what it was handed as it was. No condition. -/
import Derived.Test.YtpnmalddfpjcoaaQPagesTaken4
import Derived.Deep.Slices
import Derived.ChangeShapes
import Derived.Carry
import Derived.OpenShut
import Derived.SizedLaws
import Derived.Test.YtpnmalddfpjcoaaRows
import Derived.ProofKit
import Derived.JoinedOf
set_option linter.all false
set_option linter.deprecated false
namespace Go.Sh
structure Plc where
 column:Int
 set:List Int
 one:Int
 other:Int
def stockedF (f:Frm) (k:Nat) (m:Int):Frm:={ f with strips:=f.strips.set k { stp f k with many:=m } }
def exP:Frm:=⟨60,2,[⟨5,2⟩,⟨3,2⟩,⟨18,1⟩],[⟨20,21,9⟩,⟨30,30,5⟩,⟨40,41,7⟩,⟨12,13,4⟩],[[0,1],[2,3]]⟩
def exO:Frm:=stockedF exP 1 3
end Go.Sh
namespace Go.En
open Go Go.Ab Go.Sh
def cPlc (x:Plc):List AV:=[iv x.column,aInts x.set,iv x.one,iv x.other]
abbrev vPlc (x:Plc):AV := .agg (cPlc x)
end Go.En
namespace Go.Ab
open Go Go.RowKit Go.Proofs Go.Sh Go.En
def ou31 (f:Frm):OutSpec:={ args:=[vFrm f],pre:=smallF f,res := .agg [iv f.length,iv f.slack,.vec 0,.vec 1,.vec 2],hout:=[(0,.vec 65 2 f.strips.length (fun i=>cStrip (stp f i))),(1,.vec 46 3 f.pieces.length (fun i=>cPiece (pc f i))),(2,.vec 27 1 f.columns.length (fun i=>[aInts (col f i)]))] }
def h31 (f:Frm):Hint:={ X:=Nat,M:=fun i=>[(4,iv i)],H:=fun i=>[(120,.cells 26 [iv f.length,iv f.slack,.vec 72,.vec 104,.vec 5000]),(5000,.vec 27 1 i (fun k=>[aInts (col f k)]))],I:=fun i=>i<=f.columns.length,mu:=fun i=>f.columns.length - i,x0:=(0:Nat),nx:=fun i=>i + 1 }
def s31o (f:Frm) (id:Nat):CallSpec:=(ou31 f).at [(0,id),(1,id + 1),(2,id + 2)]
def s49 (f:Frm) (k m:Int):CallSpec:={ args:=[vFrm f,iv k,iv m],res:=vFrm (stockedF f k.toNat m),pre:=smallF f/\0<=k/\k < f.strips.length }
def c49 (f:Frm) (k m:Int) (id:Nat):CallSpec:=s31o f id
def s82:CallSpec:={ args:=[],res := .tup [vFrm exP,vFrm exO] }
def c82:CallSpec:=s49 exP 1 3
def s82o (f o:Frm):CallSpec:={ args:=[],res := .tup [vFrm f,vFrm o],pre:=f=exP/\o=exO }
def sw20 (f o:Frm):CallSpec:={ args:=[],res:=bv true,pre:=f=exP/\o=exO }
def c20a (f o:Frm):CallSpec:=s82o f o
def c20b (f o:Frm):CallSpec:=s36 o 0 [2,0,0]
def c20c (f o:Frm):CallSpec:=s40 (refuseL f) [3]
def s20:CallSpec:={ args:=[],res:=bv true }
def s3 (f:Frm) (x:Plc):CallSpec:={ args:=[vFrm f,vPlc x],res:=bv true,pre:=fitsF f/\x.set.length<=big }
end Go.Ab
namespace Go.Ab
open Go Go.RowKit Go.Proofs Go.Sh Go.En
theorem wo31 (f:Frm)
  (o0:smallF f->0 + List.length (Frm.strips f)<=65536)
  (o1:smallF f->0 + List.length (Frm.pieces f)<=65536)
  (o2:smallF f->0=(↑0:Int))
  (o3:smallF f->0<=List.length (Frm.columns f))
  (o4:smallF f -> ∀ (x0:Nat),x0<=f.columns.length->decide ((x0:Int) < (↑(f.columns.length):Int))=true->0<=(x0:Int))
  (o5:smallF f -> ∀ (x0:Nat),x0<=f.columns.length->decide ((x0:Int) < (↑(f.columns.length):Int))=true->(x0:Int) < (↑(f.columns.length):Int))
  (o6:smallF f -> ∀ (x0:Nat),x0<=f.columns.length->decide ((x0:Int) < (↑(f.columns.length):Int))=true->0 + (col f x0).length<=65536)
  (o7:smallF f -> ∀ (x0:Nat),x0<=f.columns.length->decide ((x0:Int) < (↑(f.columns.length):Int))=true->x0 + 1<=65536)
  (o8:smallF f -> ∀ (x0:Nat),x0<=f.columns.length->decide ((x0:Int) < (↑(f.columns.length):Int))=true->inI ((x0:Int) + 1))
  (o9:smallF f -> ∀ (x0:Nat),x0<=f.columns.length->decide ((x0:Int) < (↑(f.columns.length):Int))=true->(x0:Int) + 1=(↑(x0 + 1):Int))
  (o10:smallF f -> ∀ (x0:Nat),x0<=f.columns.length->decide ((x0:Int) < (↑(f.columns.length):Int))=true -> ∀ (i2:Nat),i2 < x0 + 1->catF x0 (fun (k:Nat)=>[aInts (col f k)]) (fun (j:Nat)=>List.getD [[AV.sl 1 (0 + (col f x0).length) fun (i:Nat)=>[iv ((col f x0).getD i 0)]]] j (TI.za ti27)) i2 = [aInts (col f i2)])
  (o11:smallF f -> ∀ (x0:Nat),x0<=f.columns.length->decide ((x0:Int) < (↑(f.columns.length):Int))=true->x0 + 1<=f.columns.length)
  (o12:smallF f -> ∀ (x0:Nat),x0<=f.columns.length->decide ((x0:Int) < (↑(f.columns.length):Int))=true->f.columns.length - (x0 + 1) < f.columns.length - x0)
  (o13:smallF f -> ∀ (x0:Nat),x0<=f.columns.length->decide ((x0:Int) < (↑(f.columns.length):Int))=false->0 + f.strips.length=f.strips.length)
  (o14:smallF f -> ∀ (x0:Nat),x0<=f.columns.length->decide ((x0:Int) < (↑(f.columns.length):Int))=false->0 + f.pieces.length=f.pieces.length)
  (o15:smallF f -> ∀ (x0:Nat),x0<=f.columns.length->decide ((x0:Int) < (↑(f.columns.length):Int))=false->x0=f.columns.length)
  (l:List (Nat × Nat)) (hl:l.map (·.1)=(OutSpec.hout (ou31 f)).map (·.1)) (hnd:(l.map (·.2)).Nodup) :
  Triple Try.prog 31 (OutSpec.at (ou31 f) l):=by
 refine triple_out Try.func31 rfl Try.call31 T0_ok _ _ _ _ l rfl (Nat.le_of_ble_eq_true (by kernel_rfl)) hl hnd (by kernel_rfl) (by kernel_rfl) (by kernel_rfl) ?_
 intro hpre C hC hE
 obtain ⟨P,w0,E0,av,hA,ro,df⟩:=C
 obtain ⟨rfl,rfl,rfl⟩:=hC
 refine swp_seq ?_
 refine zR [1,2] [0,8] (Ak 2 tv) ?_
 refine swp_seq ?_
 refine zR [1,2,3] [0,8,120,72,104] (Ak 7 (An (o0 hpre) (Ak 3 (An (o1 hpre) (Ak 3 tv))))) ?_
 refine swp_seq ?_
 refine swp_seq ?_
 refine zR [1,2,3,4] [0,8,120,72,104] (Ak 1 tv) ?_
 refine swp_block ?_
 refine zL (Hint.ann (h31 f) [(1,AV.ptr 0 []),(2,AV.ptr 8 []),(3,AV.ptr 120 [])] [(0,OB.cells 26 (cFrm f)),(8,OB.cells 26 [iv 0,iv 0,nilv,nilv,nilv]),(72,OB.vec 65 2 (0 + f.strips.length) fun (i:Nat)=>cStrip (stp f i)),(104,OB.vec 46 3 (0 + f.pieces.length) fun (i:Nat)=>cPiece (pc f i))] 10144) (zE hE [] [(0,.same 0),(8,.same 8),(120,.same 120),(72,.same 72),(104,.same 104),(5000,.nil)] [] [0,8,72,104] (An (An (An (zr (some (Src.same 0))) (zr nilP)) (An (An (zr (some (Src.same 8))) (zr nilP)) (An (An (zr (some (Src.same 120))) (zr nilP)) (An (An (ci (o2 hpre)) (zr nilN)) tv)))) (An (An (An (zr (OB.cells 26 (cFrm f))) (zr true)) (An (An (zr (OB.cells 26 [iv 0,iv 0,nilv,nilv,nilv])) (zr true)) (An (An (zr (OB.vec 65 2 (0 + f.strips.length) fun (i:Nat)=>cStrip (stp f i))) (zr true)) (An (An (zr (OB.vec 46 3 (0 + f.pieces.length) fun (i:Nat)=>cPiece (pc f i))) (zr true)) (An (An (zr 26) (An (An (An (zr (iv f.length)) (zr nilN)) (An (An (zr (iv f.slack)) (zr nilN)) (An (zr (some (Src.same 72))) (An (zr (some (Src.same 104))) (An (zr (some Src.nil)) tv))))) (zr true))) (An (zr 0) tv)))))) (An (zr true) (zr true))))) (o3 hpre) (fun (x0:Nat) hx0 => ?_)
 refine swp_seq ?_
 refine swp_seq ?_
 refine zR [1,2,3,4,22] [0,8,120,72,104,5000] (Ak 5 tv) ?_
 refine zI (decide ((x0:Int) < (↑(f.columns.length):Int))) (fun y1 => ?_) (fun y1 => ?_)
 ·refine swp_skip ?_
  refine swp_seq ?_
  refine swp_block ?_
  refine zR [1,2,3,4] [0,8,120,72,104,10264] (Ak 6 (An (An (o4 hpre x0 hx0 y1) (o5 hpre x0 hx0 y1)) (Ak 1 (An (o6 hpre x0 hx0 y1) (Ak 1 (An (o7 hpre x0 hx0 y1) (Ak 2 tv))))))) ?_
  refine zR [1,2,3,4] [0,8,120,72,104,10264] (Ak 1 (An (o8 hpre x0 hx0 y1) (Ak 1 tv))) ?_
  exact zn (zE hE [] [(0,.same 0),(8,.same 8),(120,.same 120),(72,.same 72),(104,.same 104),(5000,.same 10264)] [] [0,8,72,104] (An (An (An (zr (some (Src.same 0))) (zr nilP)) (An (An (zr (some (Src.same 8))) (zr nilP)) (An (An (zr (some (Src.same 120))) (zr nilP)) (An (An (ci (o9 hpre x0 hx0 y1)) (zr nilN)) tv)))) (An (An (An (zr (OB.cells 26 (cFrm f))) (zr true)) (An (An (zr (OB.cells 26 [iv 0,iv 0,nilv,nilv,nilv])) (zr true)) (An (An (zr (OB.vec 65 2 (0 + f.strips.length) fun (i:Nat)=>cStrip (stp f i))) (zr true)) (An (An (zr (OB.vec 46 3 (0 + f.pieces.length) fun (i:Nat)=>cPiece (pc f i))) (zr true)) (An (An (zr 26) (An (An (An (zr (iv f.length)) (zr nilN)) (An (An (zr (iv f.slack)) (zr nilN)) (An (zr (some (Src.same 72))) (An (zr (some (Src.same 104))) (An (zr (some (Src.same 10264))) tv))))) (zr true))) (An (An (zr 27) (An (zr 1) (An (zr (x0 + 1)) (fun (i2:Nat)=>(fun (y3:i2 < x0 + 1)=>(o10 hpre x0 hx0 y1 i2 y3)))))) tv)))))) (An (zr true) (zr true))))) (o11 hpre x0 hx0 y1) (o12 hpre x0 hx0 y1)
 ·refine swp_exit ?_
  refine swp_seq ?_
  refine zR [2] [8,72,104,5000] (Ak 2 tv) ?_
  refine swp_ret ?_
  exact zO (ASt.mk [(2,AV.ptr 90 [])] [(90,OB.cells 26 [iv f.length,iv f.slack,AV.vec 0,AV.vec 1,AV.vec 2]),(0,OB.vec 65 2 f.strips.length fun (i:Nat)=>cStrip (stp f i)),(1,OB.vec 46 3 f.pieces.length fun (i:Nat)=>cPiece (pc f i)),(2,OB.vec 27 1 f.columns.length fun (i:Nat)=>[aInts (col f i)])] 100) (zE hE [] [(90,.same 8),(0,.same 72),(1,.same 104),(2,.same 5000)] [] [] (An (An (An (zr (some (Src.same 8))) (zr nilP)) tv) (An (An (An (zr 26) (An (An (An (zr (iv f.length)) (zr nilN)) (An (An (zr (iv f.slack)) (zr nilN)) (An (zr (some (Src.same 72))) (An (zr (some (Src.same 104))) (An (zr (some (Src.same 5000))) tv))))) (zr true))) (An (An (zr 65) (An (zr 2) (An (o13 hpre x0 hx0 y1) (fun (i4:Nat)=>(fun (y5:i4 < 0 + f.strips.length)=>(zr (cStrip (stp f i4)))))))) (An (An (zr 46) (An (zr 3) (An (o14 hpre x0 hx0 y1) (fun (i6:Nat)=>(fun (y7:i6 < 0 + f.pieces.length)=>(zr (cPiece (pc f i6)))))))) (An (An (zr 27) (An (zr 1) (An (o15 hpre x0 hx0 y1) (fun (i8:Nat)=>(fun (y9:i8 < x0)=>(zr ([aInts (col f i8)]))))))) tv)))) (An (zr true) (zr true))))) (An (Ak 1 tv) (An (zr (AV.agg [iv f.length,iv f.slack,AV.vec 0,AV.vec 1,AV.vec 2])) (An (zr (some (OB.vec 65 2 f.strips.length fun (i:Nat)=>cStrip (stp f i)))) (An (zr (some (OB.vec 46 3 f.pieces.length fun (i:Nat)=>cPiece (pc f i)))) (An (zr (some (OB.vec 27 1 f.columns.length fun (i:Nat)=>[aInts (col f i)]))) tv)))))
theorem to31 (f:Frm) (l:List (Nat × Nat)) (hl:l.map (·.1) = [0,1,2]) (hnd:(l.map (·.2)).Nodup):Triple Try.prog 31 ((ou31 f).at l):=by
 apply wo31 (l:=l) (hl:=hl) (hnd:=hnd)
 all_goals (intro hp; obtain ⟨a1,a2,a3,a4⟩:=hp)
 case o6=>intro x hx hl; have:=a4 x; show _<=_; omega
 case o10 =>
  intro x hx hl i hi
  refine catF_idx (fun k=>[aInts (col f k)]) ?_ hi
  show [AV.sl 1 (0 + (col f x).length) _] = [aInts (col f x)]
  rw [Nat.zero_add]; rfl
 all_goals (first | omega | rfl | skip)
 all_goals (intro x hx hl; simp only [decide_eq_true_eq,decide_eq_false_iff_not] at hl)
 all_goals (first | omega | (simp only [inI]; omega))
theorem t31o (f:Frm) (id:Nat):Triple Try.prog 31 (s31o f id):=to31 f _ rfl (by simp)
theorem w49 (f:Frm) (k:Int) (m:Int)
  (o0:smallF f/\0<=k/\k < (↑(f.strips.length):Int)->0<=k)
  (o1:smallF f/\0<=k/\k < (↑(f.strips.length):Int)->k < (↑(f.strips.length):Int))
  (o2:smallF f/\0<=k/\k < (↑(f.strips.length):Int)->k.toNat < f.strips.length)
  (o3:smallF f/\0<=k/\k < (↑(f.strips.length):Int)->0<=k)
  (o4:smallF f/\0<=k/\k < (↑(f.strips.length):Int)->k < (↑(f.strips.length):Int))
  (o5:smallF f/\0<=k/\k < (↑(f.strips.length):Int)->k.toNat < f.strips.length)
  (o6:smallF f/\0<=k/\k < (↑(f.strips.length):Int)->f.length=(stockedF f k.toNat m).length)
  (o7:smallF f/\0<=k/\k < (↑(f.strips.length):Int)->f.slack=(stockedF f k.toNat m).slack)
  (o8:smallF f/\0<=k/\k < (↑(f.strips.length):Int)->f.strips.length=(stockedF f k.toNat m).strips.length)
  (o9:smallF f/\0<=k/\k < (↑(f.strips.length):Int) -> ∀ (i1:Nat),i1 < (stockedF f k.toNat m).strips.length->Decidable.rec (fun (h:¬i1=k.toNat)=>cStrip (stp f i1)) (fun (h:i1=k.toNat)=>[iv (stp f k.toNat).thick,iv m] ++ []) (instDecidableEqNat i1 k.toNat)=cStrip (stp (stockedF f k.toNat m) i1))
  (o10:smallF f/\0<=k/\k < (↑(f.strips.length):Int)->f.pieces.length=(stockedF f k.toNat m).pieces.length)
  (o11:smallF f/\0<=k/\k < (↑(f.strips.length):Int) -> ∀ (i3:Nat),i3 < (stockedF f k.toNat m).pieces.length->cPiece (pc f i3)=cPiece (pc (stockedF f k.toNat m) i3))
  (o12:smallF f/\0<=k/\k < (↑(f.strips.length):Int)->f.columns.length=(stockedF f k.toNat m).columns.length)
  (o13:smallF f/\0<=k/\k < (↑(f.strips.length):Int) -> ∀ (i5:Nat),i5 < (stockedF f k.toNat m).columns.length -> [aInts (col f i5)] = [aInts (col (stockedF f k.toNat m) i5)]) :
  Triple Try.prog 49 (s49 f k m):=by
 refine triple_of Try.func49 rfl Try.call49 T0_ok _ rfl rfl rfl rfl (Nat.le_of_ble_eq_true (by kernel_rfl)) (fun _ _ _ _ h=>h) ?_
 intro hpre C hC _ hE
 obtain ⟨P,w0,E0,av,hA,ro,df⟩:=C
 obtain ⟨rfl,rfl,rfl⟩:=hC
 refine swp_seq ?_
 refine zR [1,2,3,6] [0,8] (Ak 2 tv) ?_
 refine swp_seq ?_
 refine zC ([(1,CallSpec.eq (c49 f k m 24) [true])]) [1,2,6,7] [8,32,24,25,26] (Ak 1 (An (An (An (zr (AV.agg (cFrm f))) tv) (An (t31o (f) (24)) (An hpre.1 (Ak 1 (fun (i0:Env)=>tv))))) (Ak 2 tv))) ?_
 refine swp_seq ?_
 refine zR [1,2,6,7,8] [8,32,88,24,25,26] (Ak 3 (An (An (o0 hpre) (o1 hpre)) (An (An (o2 hpre) tv) (Ak 2 tv)))) ?_
 refine swp_seq ?_
 refine zR [1,6,7,8] [8,32,88,24,25,26] (Ak 3 tv) ?_
 refine swp_seq ?_
 refine zR [6,7] [8,32,24,25,26] (Ak 4 (An (An (o3 hpre) (o4 hpre)) (An (An (o5 hpre) tv) tv))) ?_
 refine swp_seq ?_
 refine zR [6] [8,24,25,26] (Ak 2 tv) ?_
 refine swp_ret ?_
 exact zT [24,25,26] (An (Ak 1 tv) (An (An (An (ci (o6 hpre)) (zr nilN)) (An (An (ci (o7 hpre)) (zr nilN)) (An (An (zr 2) (An (o8 hpre) (fun (i1:Nat)=>(fun (y2:i1 < (stockedF f k.toNat m).strips.length)=>(o9 hpre i1 y2))))) (An (An (zr 3) (An (o10 hpre) (fun (i3:Nat)=>(fun (y4:i3 < (stockedF f k.toNat m).pieces.length)=>(o11 hpre i3 y4))))) (An (An (zr 1) (An (o12 hpre) (fun (i5:Nat)=>(fun (y6:i5 < (stockedF f k.toNat m).columns.length)=>(o13 hpre i5 y6))))) tv))))) (An (zr true) (An (zr true) (zr true)))))
theorem stp_stocked {f:Frm} {k:Nat} (hk:k < f.strips.length) (m:Int) (j:Nat):stp (stockedF f k m) j=if j=k then { stp f k with many:=m } else stp f j:=by
 show (f.strips.set k _).getD j default=_
 rw [List.getD_eq_getElem?_getD,List.getElem?_set]
 by_cases e:k=j
 ·subst e; rw [if_pos rfl,if_pos hk,if_pos rfl]; rfl
 ·rw [if_neg e,if_neg (fun h=>e h.symm),stp,List.getD_eq_getElem?_getD]
theorem t49 (f:Frm) (k m:Int):Triple Try.prog 49 (s49 f k m):=by
 apply w49
 all_goals (rintro ⟨hp,h1,h2⟩)
 case o8=>exact List.length_set.symm
 case o9 =>
  intro i hi
  rw [stp_stocked (by omega)]
  refine rec_ei (fun h => ?_) (fun h => ?_)
  ·rw [if_neg h]
  ·rw [if_pos h]; rfl
 all_goals (first | omega | rfl | (intro i hi; rfl))
theorem w82 
  (o0:60=Frm.length exP)
  (o1:2=Frm.slack exP)
  (o2:∀ (i0:Nat),i0 < exP.strips.length->List.getD [[iv 5,iv 2],[iv 3,iv 2],[iv 18,iv 1]] i0 (TI.za ti65)=cStrip (stp exP i0))
  (o3:∀ (i2:Nat),i2 < exP.pieces.length->List.getD [[iv 20,iv 21,iv 9],[iv 30,iv 30,iv 5],[iv 40,iv 41,iv 7],[iv 12,iv 13,iv 4]] i2 (TI.za ti46)=cPiece (pc exP i2))
  (o4:∀ (i4:Nat),i4 < exP.columns.length->List.getD [[AV.sl 1 2 fun (j:Nat)=>List.getD [[iv 0],[iv 1]] j (TI.za ti3)],[AV.sl 1 2 fun (j:Nat)=>List.getD [[iv 2],[iv 3]] j (TI.za ti3)]] i4 (TI.za ti27) = [aInts (col exP i4)])
  (o5:smallF exP)
  (o6:Frm.length (stockedF exP 1 3)=Frm.length exO)
  (o7:Frm.slack (stockedF exP 1 3)=Frm.slack exO)
  (o8:∀ (i13:Nat),i13 < exO.strips.length->cStrip (stp (stockedF exP 1 3) i13)=cStrip (stp exO i13))
  (o9:∀ (i15:Nat),i15 < exO.pieces.length->cPiece (pc (stockedF exP 1 3) i15)=cPiece (pc exO i15))
  (o10:∀ (i17:Nat),i17 < exO.columns.length -> [aInts (col (stockedF exP 1 3) i17)] = [aInts (col exO i17)]) :
  Triple Try.prog 82 (s82):=by
 refine triple_of Try.func82 rfl Try.call82 T0_ok _ rfl rfl rfl rfl (Nat.le_of_ble_eq_true (by kernel_rfl)) (fun _ _ _ _ h=>h) ?_
 intro _ C hC _ hE
 obtain ⟨P,w0,E0,av,hA,ro,df⟩:=C
 obtain ⟨rfl,rfl,rfl⟩:=hC
 refine swp_seq ?_
 refine zR [0,1] [0,8] (Ak 2 tv) ?_
 refine swp_seq ?_
 refine zR [0,1] [0,8,40,112,136] (Ak 18 tv) ?_
 refine swp_seq ?_
 refine swp_ent (zE (st2:=ASt.mk [(0,AV.ptr 0 []),(1,AV.ptr 8 [])] [(0,OB.cells 26 (cFrm exP)),(8,OB.cells 26 [iv 0,iv 0,nilv,nilv,nilv])] 160) hE [40,112,136] [(0,.same 0),(8,.same 8)] [] [8] (An (An (An (zr (some (Src.same 0))) (zr nilP)) (An (An (zr (some (Src.same 8))) (zr nilP)) tv)) (An (An (An (zr 26) (An (An (An (ci (o0)) (zr nilN)) (An (An (ci (o1)) (zr nilN)) (An (An (zr 2) (An (by decide:3=exP.strips.length) (fun (i0:Nat)=>(fun (y1:i0 < exP.strips.length)=>(o2 i0 y1))))) (An (An (zr 3) (An (by decide:4=exP.pieces.length) (fun (i2:Nat)=>(fun (y3:i2 < exP.pieces.length)=>(o3 i2 y3))))) (An (An (zr 1) (An (by decide:2=exP.columns.length) (fun (i4:Nat)=>(fun (y5:i4 < exP.columns.length)=>(o4 i4 y5))))) tv))))) (zr true))) (An (An (zr (OB.cells 26 [iv 0,iv 0,nilv,nilv,nilv])) (zr true)) tv)) (An (zr true) (zr true))))) ?_
 refine zC ([(2,CallSpec.eq c82 [true,true,true])]) [0,1] [0,8] (Ak 2 (An (An (An (zr (AV.agg (cFrm exP))) (An (zr (iv 1)) (An (zr (iv 3)) tv))) (An (t49 (exP) (1) (3)) (An (An (o5) (An (by decide:Int.ofNat 0<=Int.ofNat 1) (by decide:1 < (↑(exP.strips.length):Int)))) (Ak 1 (fun (i6:Env)=>tv))))) (Ak 2 tv))) ?_
 refine swp_ret ?_
 exact zT [] (An (Ak 2 tv) (An (An (An (An (zr (iv exP.length)) (zr nilN)) (An (An (zr (iv exP.slack)) (zr nilN)) (An (An (zr 2) (An (zr exP.strips.length) (fun (i7:Nat)=>(fun (y8:i7 < exP.strips.length)=>(zr (cStrip (stp exP i7))))))) (An (An (zr 3) (An (zr exP.pieces.length) (fun (i9:Nat)=>(fun (y10:i9 < exP.pieces.length)=>(zr (cPiece (pc exP i9))))))) (An (An (zr 1) (An (zr exP.columns.length) (fun (i11:Nat)=>(fun (y12:i11 < exP.columns.length)=>(zr ([aInts (col exP i11)])))))) tv))))) (An (An (An (ci (o6)) (zr nilN)) (An (An (ci (o7)) (zr nilN)) (An (An (zr 2) (An (by decide:(stockedF exP 1 3).strips.length=exO.strips.length) (fun (i13:Nat)=>(fun (y14:i13 < exO.strips.length)=>(o8 i13 y14))))) (An (An (zr 3) (An (by decide:(stockedF exP 1 3).pieces.length=exO.pieces.length) (fun (i15:Nat)=>(fun (y16:i15 < exO.pieces.length)=>(o9 i15 y16))))) (An (An (zr 1) (An (by decide:(stockedF exP 1 3).columns.length=exO.columns.length) (fun (i17:Nat)=>(fun (y18:i17 < exO.columns.length)=>(o10 i17 y18))))) tv))))) tv)) (An (zr true) (An (zr true) (zr true)))))
theorem small_frm {f:Frm} (h:decide (f.strips.length<=64) && decide (f.pieces.length<=64) && decide (f.columns.length<=64) && f.columns.all (fun c=>decide (c.length<=64))=true):smallF f:=by
 simp only [Bool.and_eq_true,decide_eq_true_eq] at h
 refine ⟨h.1.1.1,h.1.1.2,h.1.2,fun i => ?_⟩
 by_cases hi:i < f.columns.length
 ·have:=idx_all [] h.2 hi
  exact of_decide_eq_true this
 ·have:col f i = []:=getD_ge _ _ (by omega)
  rw [this]; exact Nat.zero_le _
theorem small_exP:smallF exP:=small_frm (by decide)
theorem small_exO:smallF exO:=small_frm (by decide)
theorem sl_ext {sz n:Nat} {f g:Nat->List AV} (h:∀ j,f j=g j):AV.sl sz n f = .sl sz n g:=by rw [funext h]
theorem t82:Triple Try.prog 82 s82:=by
 apply w82
 case o2 =>
  intro i hi
  have:i=0 ∨ i=1 ∨ i=2:=by simp [exP] at hi; omega
  rcases this with rfl | rfl | rfl <;> rfl
 case o3 =>
  intro i hi
  have:i=0 ∨ i=1 ∨ i=2 ∨ i=3:=by simp [exP] at hi; omega
  rcases this with rfl | rfl | rfl | rfl <;> rfl
 case o4 =>
  intro i hi
  have:i=0 ∨ i=1:=by simp [exP] at hi; omega
  rcases this with rfl | rfl
  ·exact congrArg (fun z=>[z]) (sl_ext fun j=>by rcases j with _ | _ | j <;> rfl)
  ·exact congrArg (fun z=>[z]) (sl_ext fun j=>by rcases j with _ | _ | j <;> rfl)
 case o5=>exact small_exP
 all_goals (first | rfl | (intro i hi; rfl) | decide)
theorem t82o (f o:Frm):Triple Try.prog 82 (s82o f o):=⟨t82.1,fun h=>by obtain ⟨rfl,rfl⟩:=h; exact t82.2 trivial⟩
theorem w20 (f:Frm) (o:Frm)
  (o0:f=exP/\o=exO->smallF f)
  (o1:f=exP/\o=exO->smallF o)
  (o2:f=exP/\o=exO->smallF f)
  (o3:f=exP/\o=exO -> ∀ (i4:Nat),i4 < List.length [2,0,0]->List.getD [[iv 2],[iv 0],[iv 0]] i4 (TI.za ti3) = [iv (List.getD [2,0,0] i4 0)])
  (o4:f=exP/\o=exO->smallF o)
  (o5:f=exP/\o=exO->smallF o)
  (o6:f=exP/\o=exO->smallF f)
  (o7:f=exP/\o=exO->(bif bif bif bif bif bif bif decide (roomE f 0=0) then decide (stripsE o=0) else false then decide (refuseE f=0) else false then decide (openF o (fitsG o 0 [2,0,0])=0) else false then decide (growE o 0=0) else false then decide (openF f (gapG f 1 3)=0) else false then decide ((roomR f 0).lo=8) && (decide ((roomR f 0).hi=9) && true) else false then decide (stripsN o=4) else false)=true -> ∀ (i53:Nat),i53 < List.length [3]->List.getD [[iv 3]] i53 (TI.za ti3) = [iv (List.getD [3] i53 0)])
  (o8:f=exP/\o=exO->(bif bif bif bif bif bif bif decide (roomE f 0=0) then decide (stripsE o=0) else false then decide (refuseE f=0) else false then decide (openF o (fitsG o 0 [2,0,0])=0) else false then decide (growE o 0=0) else false then decide (openF f (gapG f 1 3)=0) else false then decide ((roomR f 0).lo=8) && (decide ((roomR f 0).hi=9) && true) else false then decide (stripsN o=4) else false)=true->(refuseL f).length<=big)
  (o9:f=exP/\o=exO->(bif bif bif bif bif bif bif bif bif bif bif decide (roomE f 0=0) then decide (stripsE o=0) else false then decide (refuseE f=0) else false then decide (openF o (fitsG o 0 [2,0,0])=0) else false then decide (growE o 0=0) else false then decide (openF f (gapG f 1 3)=0) else false then decide ((roomR f 0).lo=8) && (decide ((roomR f 0).hi=9) && true) else false then decide (stripsN o=4) else false then sameInts (refuseL f) [3] else false then decide (fitsP o 0 [2,0,0]=3) else false then decide (growN o 0=22) else false then decide ((gapR f 1 3).lo=19) && (decide ((gapR f 1 3).hi=21) && true) else false)=true) :
  Triple Try.prog 20 (sw20 f o):=by
 refine triple_of Try.func20 rfl Try.call20 T0_ok _ rfl rfl rfl rfl (Nat.le_of_ble_eq_true (by kernel_rfl)) (fun _ _ _ _ h=>h) ?_
 intro hpre C hC _ hE
 obtain ⟨P,w0,E0,av,hA,ro,df⟩:=C
 obtain ⟨rfl,rfl,rfl⟩:=hC
 refine swp_seq ?_
 refine zR [] [] (Ak 1 tv) ?_
 refine swp_seq ?_
 refine zC ([(0,CallSpec.eq (c20a f o) [])]) [1,2] [40,48] (An (Ak 1 (An (t82o (f) (o)) (An (An hpre.1 hpre.2) (Ak 1 (fun (i0:Env)=>tv))))) (Ak 7 tv)) ?_
 refine swp_seq ?_
 refine zC ([(1,CallSpec.eq (s22 f 0) [true,true])]) [1,2,3,4] [40,48,112] (Ak 1 (An (An (An (zr (AV.agg (cFrm f))) (An (zr (iv 0)) tv)) (An (t22 (f) (0)) (An (o0 hpre) (Ak 1 (fun (i1:Env)=>tv))))) (Ak 6 tv))) ?_
 refine swp_seq ?_
 refine zC ([(1,CallSpec.eq (s59 o) [true])]) [1,2,3,4,5,6] [40,48,112] (Ak 1 (An (An (An (zr (AV.agg (cFrm o))) tv) (An (t59 (o)) (An (o1 hpre) (Ak 1 (fun (i2:Env)=>tv))))) (Ak 5 tv))) ?_
 refine swp_seq ?_
 refine zC ([(1,CallSpec.eq (s42 f) [true])]) [1,2,3,4,5,6,7,8] [40,48,112] (Ak 1 (An (An (An (zr (AV.agg (cFrm f))) tv) (An (t42 (f)) (An (o2 hpre) (Ak 1 (fun (i3:Env)=>tv))))) (Ak 5 tv))) ?_
 refine swp_seq ?_
 refine zC ([(2,CallSpec.eq (c20b f o) [true,true,false])]) [1,2,3,4,5,6,7,8,9,10] [40,48,112] (Ak 2 (An (An (An (zr (AV.agg (cFrm o))) (An (zr (iv 0)) (An (An (zr 1) (An (zr 3) (fun (i4:Nat)=>(fun (y5:i4 < List.length [2,0,0])=>(o3 hpre i4 y5))))) tv))) (An (t36 (o) (0) ([2,0,0])) (An (An (o4 hpre) (by decide:List.length [2,0,0]<=64)) (Ak 1 (fun (i6:Env)=>tv))))) (Ak 5 tv))) ?_
 refine swp_seq ?_
 refine zC ([(1,CallSpec.eq (s26 o 0) [true,true])]) [1,3,4,5,6,7,8,9,10,11,12] [40,112] (Ak 1 (An (An (An (zr (AV.agg (cFrm o))) (An (zr (iv 0)) tv)) (An (t26 (o) (0)) (An (o5 hpre) (Ak 1 (fun (i7:Env)=>tv))))) (Ak 5 tv))) ?_
 refine swp_seq ?_
 refine zC ([(1,CallSpec.eq (s48 f 1 3) [true,true,true])]) [3,4,5,6,7,8,9,10,11,12,13,14] [112,408] (Ak 1 (An (An (An (zr (AV.agg (cFrm f))) (An (zr (iv 1)) (An (zr (iv 3)) tv))) (An (t48 (f) (1) (3)) (An (o6 hpre) (Ak 1 (fun (i8:Env)=>tv))))) (Ak 6 tv))) ?_
 refine swp_seq ?_
 refine zC ([(34,CallSpec.eq (c20c f o) [false,false])]) [0] [] (Ak 3 (An (fun (y9:decide (roomE f 0=0)=true)=>(An (Ak 1 tv) tv)) (An (fun (y10:decide (roomE f 0=0)=true)=>(An (An (fun (y11:decide (roomE f 0=0)=true)=>y10) (Ak 1 tv)) tv)) (An (An (fun (y12:decide (roomE f 0=0)=true)=>y12) (fun (y13:decide (roomE f 0=0)=false)=>tv)) (Ak 1 (An (fun (y14:(bif decide (roomE f 0=0) then decide (stripsE o=0) else false)=true)=>(An (Ak 1 tv) tv)) (An (fun (y15:(bif decide (roomE f 0=0) then decide (stripsE o=0) else false)=true)=>(An (An (fun (y16:(bif decide (roomE f 0=0) then decide (stripsE o=0) else false)=true)=>y15) (Ak 1 tv)) tv)) (An (An (fun (y17:(bif decide (roomE f 0=0) then decide (stripsE o=0) else false)=true)=>y17) (fun (y18:(bif decide (roomE f 0=0) then decide (stripsE o=0) else false)=false)=>tv)) (Ak 1 (An (fun (y19:(bif bif decide (roomE f 0=0) then decide (stripsE o=0) else false then decide (refuseE f=0) else false)=true)=>(An (Ak 1 tv) tv)) (An (fun (y20:(bif bif decide (roomE f 0=0) then decide (stripsE o=0) else false then decide (refuseE f=0) else false)=true)=>(An (An (fun (y21:(bif bif decide (roomE f 0=0) then decide (stripsE o=0) else false then decide (refuseE f=0) else false)=true)=>y20) (Ak 1 tv)) tv)) (An (An (fun (y22:(bif bif decide (roomE f 0=0) then decide (stripsE o=0) else false then decide (refuseE f=0) else false)=true)=>y22) (fun (y23:(bif bif decide (roomE f 0=0) then decide (stripsE o=0) else false then decide (refuseE f=0) else false)=false)=>tv)) (Ak 1 (An (fun (y24:(bif bif bif decide (roomE f 0=0) then decide (stripsE o=0) else false then decide (refuseE f=0) else false then decide (openF o (fitsG o 0 [2,0,0])=0) else false)=true)=>(An (Ak 1 tv) tv)) (An (fun (y25:(bif bif bif decide (roomE f 0=0) then decide (stripsE o=0) else false then decide (refuseE f=0) else false then decide (openF o (fitsG o 0 [2,0,0])=0) else false)=true)=>(An (An (fun (y26:(bif bif bif decide (roomE f 0=0) then decide (stripsE o=0) else false then decide (refuseE f=0) else false then decide (openF o (fitsG o 0 [2,0,0])=0) else false)=true)=>y25) (Ak 1 tv)) tv)) (An (An (fun (y27:(bif bif bif decide (roomE f 0=0) then decide (stripsE o=0) else false then decide (refuseE f=0) else false then decide (openF o (fitsG o 0 [2,0,0])=0) else false)=true)=>y27) (fun (y28:(bif bif bif decide (roomE f 0=0) then decide (stripsE o=0) else false then decide (refuseE f=0) else false then decide (openF o (fitsG o 0 [2,0,0])=0) else false)=false)=>tv)) (Ak 1 (An (fun (y29:(bif bif bif bif decide (roomE f 0=0) then decide (stripsE o=0) else false then decide (refuseE f=0) else false then decide (openF o (fitsG o 0 [2,0,0])=0) else false then decide (growE o 0=0) else false)=true)=>(An (Ak 1 tv) tv)) (An (fun (y30:(bif bif bif bif decide (roomE f 0=0) then decide (stripsE o=0) else false then decide (refuseE f=0) else false then decide (openF o (fitsG o 0 [2,0,0])=0) else false then decide (growE o 0=0) else false)=true)=>(An (An (fun (y31:(bif bif bif bif decide (roomE f 0=0) then decide (stripsE o=0) else false then decide (refuseE f=0) else false then decide (openF o (fitsG o 0 [2,0,0])=0) else false then decide (growE o 0=0) else false)=true)=>y30) (Ak 1 tv)) tv)) (An (An (fun (y32:(bif bif bif bif decide (roomE f 0=0) then decide (stripsE o=0) else false then decide (refuseE f=0) else false then decide (openF o (fitsG o 0 [2,0,0])=0) else false then decide (growE o 0=0) else false)=true)=>y32) (fun (y33:(bif bif bif bif decide (roomE f 0=0) then decide (stripsE o=0) else false then decide (refuseE f=0) else false then decide (openF o (fitsG o 0 [2,0,0])=0) else false then decide (growE o 0=0) else false)=false)=>tv)) (Ak 1 (An (fun (y34:(bif bif bif bif bif decide (roomE f 0=0) then decide (stripsE o=0) else false then decide (refuseE f=0) else false then decide (openF o (fitsG o 0 [2,0,0])=0) else false then decide (growE o 0=0) else false then decide (openF f (gapG f 1 3)=0) else false)=true)=>(An (Ak 1 tv) tv)) (An (fun (y35:(bif bif bif bif bif decide (roomE f 0=0) then decide (stripsE o=0) else false then decide (refuseE f=0) else false then decide (openF o (fitsG o 0 [2,0,0])=0) else false then decide (growE o 0=0) else false then decide (openF f (gapG f 1 3)=0) else false)=true)=>(An (Ak 2 tv) tv)) (An (fun (y36:(bif bif bif bif bif decide (roomE f 0=0) then decide (stripsE o=0) else false then decide (refuseE f=0) else false then decide (openF o (fitsG o 0 [2,0,0])=0) else false then decide (growE o 0=0) else false then decide (openF f (gapG f 1 3)=0) else false)=true)=>(An (An (fun (y37:(bif bif bif bif bif decide (roomE f 0=0) then decide (stripsE o=0) else false then decide (refuseE f=0) else false then decide (openF o (fitsG o 0 [2,0,0])=0) else false then decide (growE o 0=0) else false then decide (openF f (gapG f 1 3)=0) else false)=true)=>y36) (An (fun (y38:(bif bif bif bif bif decide (roomE f 0=0) then decide (stripsE o=0) else false then decide (refuseE f=0) else false then decide (openF o (fitsG o 0 [2,0,0])=0) else false then decide (growE o 0=0) else false then decide (openF f (gapG f 1 3)=0) else false)=true)=>y36) tv)) tv)) (An (An (fun (y39:(bif bif bif bif bif decide (roomE f 0=0) then decide (stripsE o=0) else false then decide (refuseE f=0) else false then decide (openF o (fitsG o 0 [2,0,0])=0) else false then decide (growE o 0=0) else false then decide (openF f (gapG f 1 3)=0) else false)=true)=>y39) (fun (y40:(bif bif bif bif bif decide (roomE f 0=0) then decide (stripsE o=0) else false then decide (refuseE f=0) else false then decide (openF o (fitsG o 0 [2,0,0])=0) else false then decide (growE o 0=0) else false then decide (openF f (gapG f 1 3)=0) else false)=false)=>tv)) (Ak 1 (An (fun (y41:(bif bif bif bif bif bif decide (roomE f 0=0) then decide (stripsE o=0) else false then decide (refuseE f=0) else false then decide (openF o (fitsG o 0 [2,0,0])=0) else false then decide (growE o 0=0) else false then decide (openF f (gapG f 1 3)=0) else false then decide ((roomR f 0).lo=8) && (decide ((roomR f 0).hi=9) && true) else false)=true)=>(An (Ak 1 tv) tv)) (An (fun (y42:(bif bif bif bif bif bif decide (roomE f 0=0) then decide (stripsE o=0) else false then decide (refuseE f=0) else false then decide (openF o (fitsG o 0 [2,0,0])=0) else false then decide (growE o 0=0) else false then decide (openF f (gapG f 1 3)=0) else false then decide ((roomR f 0).lo=8) && (decide ((roomR f 0).hi=9) && true) else false)=true)=>(An (An (fun (y43:(bif bif bif bif bif bif decide (roomE f 0=0) then decide (stripsE o=0) else false then decide (refuseE f=0) else false then decide (openF o (fitsG o 0 [2,0,0])=0) else false then decide (growE o 0=0) else false then decide (openF f (gapG f 1 3)=0) else false then decide ((roomR f 0).lo=8) && (decide ((roomR f 0).hi=9) && true) else false)=true)=>y42) (Ak 1 tv)) tv)) (An (An (fun (y44:(bif bif bif bif bif bif decide (roomE f 0=0) then decide (stripsE o=0) else false then decide (refuseE f=0) else false then decide (openF o (fitsG o 0 [2,0,0])=0) else false then decide (growE o 0=0) else false then decide (openF f (gapG f 1 3)=0) else false then decide ((roomR f 0).lo=8) && (decide ((roomR f 0).hi=9) && true) else false)=true)=>y44) (fun (y45:(bif bif bif bif bif bif decide (roomE f 0=0) then decide (stripsE o=0) else false then decide (refuseE f=0) else false then decide (openF o (fitsG o 0 [2,0,0])=0) else false then decide (growE o 0=0) else false then decide (openF f (gapG f 1 3)=0) else false then decide ((roomR f 0).lo=8) && (decide ((roomR f 0).hi=9) && true) else false)=false)=>tv)) (Ak 1 (An (fun (y46:(bif bif bif bif bif bif bif decide (roomE f 0=0) then decide (stripsE o=0) else false then decide (refuseE f=0) else false then decide (openF o (fitsG o 0 [2,0,0])=0) else false then decide (growE o 0=0) else false then decide (openF f (gapG f 1 3)=0) else false then decide ((roomR f 0).lo=8) && (decide ((roomR f 0).hi=9) && true) else false then decide (stripsN o=4) else false)=true)=>(An (Ak 1 tv) tv)) (An (fun (y47:(bif bif bif bif bif bif bif decide (roomE f 0=0) then decide (stripsE o=0) else false then decide (refuseE f=0) else false then decide (openF o (fitsG o 0 [2,0,0])=0) else false then decide (growE o 0=0) else false then decide (openF f (gapG f 1 3)=0) else false then decide ((roomR f 0).lo=8) && (decide ((roomR f 0).hi=9) && true) else false then decide (stripsN o=4) else false)=true)=>(An (Ak 1 tv) tv)) (An (fun (y48:(bif bif bif bif bif bif bif decide (roomE f 0=0) then decide (stripsE o=0) else false then decide (refuseE f=0) else false then decide (openF o (fitsG o 0 [2,0,0])=0) else false then decide (growE o 0=0) else false then decide (openF f (gapG f 1 3)=0) else false then decide ((roomR f 0).lo=8) && (decide ((roomR f 0).hi=9) && true) else false then decide (stripsN o=4) else false)=true)=>(An (Ak 1 (An (fun (y49:(bif bif bif bif bif bif bif decide (roomE f 0=0) then decide (stripsE o=0) else false then decide (refuseE f=0) else false then decide (openF o (fitsG o 0 [2,0,0])=0) else false then decide (growE o 0=0) else false then decide (openF f (gapG f 1 3)=0) else false then decide ((roomR f 0).lo=8) && (decide ((roomR f 0).hi=9) && true) else false then decide (stripsN o=4) else false)=true)=>y48) (An (fun (y50:(bif bif bif bif bif bif bif decide (roomE f 0=0) then decide (stripsE o=0) else false then decide (refuseE f=0) else false then decide (openF o (fitsG o 0 [2,0,0])=0) else false then decide (growE o 0=0) else false then decide (openF f (gapG f 1 3)=0) else false then decide ((roomR f 0).lo=8) && (decide ((roomR f 0).hi=9) && true) else false then decide (stripsN o=4) else false)=true)=>y48) tv))) (An (An (An (zr 1) (An (zr (refuseL f).length) (fun (i51:Nat)=>(fun (y52:i51 < (refuseL f).length)=>(zr ([iv ((refuseL f).getD i51 0)])))))) (An (An (zr 1) (An (zr 1) (fun (i53:Nat)=>(fun (y54:i53 < List.length [3])=>(o7 hpre y48 i53 y54))))) tv)) (An (t40 (refuseL f) ([3])) (An (o8 hpre y48) (Ak 1 (fun (i55:Env)=>tv))))))) (An (An (fun (y56:(bif bif bif bif bif bif bif decide (roomE f 0=0) then decide (stripsE o=0) else false then decide (refuseE f=0) else false then decide (openF o (fitsG o 0 [2,0,0])=0) else false then decide (growE o 0=0) else false then decide (openF f (gapG f 1 3)=0) else false then decide ((roomR f 0).lo=8) && (decide ((roomR f 0).hi=9) && true) else false then decide (stripsN o=4) else false)=true)=>y56) (fun (y57:(bif bif bif bif bif bif bif decide (roomE f 0=0) then decide (stripsE o=0) else false then decide (refuseE f=0) else false then decide (openF o (fitsG o 0 [2,0,0])=0) else false then decide (growE o 0=0) else false then decide (openF f (gapG f 1 3)=0) else false then decide ((roomR f 0).lo=8) && (decide ((roomR f 0).hi=9) && true) else false then decide (stripsN o=4) else false)=false)=>tv)) (Ak 1 (An (fun (y58:(bif bif bif bif bif bif bif bif decide (roomE f 0=0) then decide (stripsE o=0) else false then decide (refuseE f=0) else false then decide (openF o (fitsG o 0 [2,0,0])=0) else false then decide (growE o 0=0) else false then decide (openF f (gapG f 1 3)=0) else false then decide ((roomR f 0).lo=8) && (decide ((roomR f 0).hi=9) && true) else false then decide (stripsN o=4) else false then sameInts (refuseL f) [3] else false)=true)=>(An (Ak 1 tv) tv)) (An (fun (y59:(bif bif bif bif bif bif bif bif decide (roomE f 0=0) then decide (stripsE o=0) else false then decide (refuseE f=0) else false then decide (openF o (fitsG o 0 [2,0,0])=0) else false then decide (growE o 0=0) else false then decide (openF f (gapG f 1 3)=0) else false then decide ((roomR f 0).lo=8) && (decide ((roomR f 0).hi=9) && true) else false then decide (stripsN o=4) else false then sameInts (refuseL f) [3] else false)=true)=>(An (An (fun (y60:(bif bif bif bif bif bif bif bif decide (roomE f 0=0) then decide (stripsE o=0) else false then decide (refuseE f=0) else false then decide (openF o (fitsG o 0 [2,0,0])=0) else false then decide (growE o 0=0) else false then decide (openF f (gapG f 1 3)=0) else false then decide ((roomR f 0).lo=8) && (decide ((roomR f 0).hi=9) && true) else false then decide (stripsN o=4) else false then sameInts (refuseL f) [3] else false)=true)=>y59) (Ak 1 tv)) tv)) (An (An (fun (y61:(bif bif bif bif bif bif bif bif decide (roomE f 0=0) then decide (stripsE o=0) else false then decide (refuseE f=0) else false then decide (openF o (fitsG o 0 [2,0,0])=0) else false then decide (growE o 0=0) else false then decide (openF f (gapG f 1 3)=0) else false then decide ((roomR f 0).lo=8) && (decide ((roomR f 0).hi=9) && true) else false then decide (stripsN o=4) else false then sameInts (refuseL f) [3] else false)=true)=>y61) (fun (y62:(bif bif bif bif bif bif bif bif decide (roomE f 0=0) then decide (stripsE o=0) else false then decide (refuseE f=0) else false then decide (openF o (fitsG o 0 [2,0,0])=0) else false then decide (growE o 0=0) else false then decide (openF f (gapG f 1 3)=0) else false then decide ((roomR f 0).lo=8) && (decide ((roomR f 0).hi=9) && true) else false then decide (stripsN o=4) else false then sameInts (refuseL f) [3] else false)=false)=>tv)) (Ak 1 (An (fun (y63:(bif bif bif bif bif bif bif bif bif decide (roomE f 0=0) then decide (stripsE o=0) else false then decide (refuseE f=0) else false then decide (openF o (fitsG o 0 [2,0,0])=0) else false then decide (growE o 0=0) else false then decide (openF f (gapG f 1 3)=0) else false then decide ((roomR f 0).lo=8) && (decide ((roomR f 0).hi=9) && true) else false then decide (stripsN o=4) else false then sameInts (refuseL f) [3] else false then decide (fitsP o 0 [2,0,0]=3) else false)=true)=>(An (Ak 1 tv) tv)) (An (fun (y64:(bif bif bif bif bif bif bif bif bif decide (roomE f 0=0) then decide (stripsE o=0) else false then decide (refuseE f=0) else false then decide (openF o (fitsG o 0 [2,0,0])=0) else false then decide (growE o 0=0) else false then decide (openF f (gapG f 1 3)=0) else false then decide ((roomR f 0).lo=8) && (decide ((roomR f 0).hi=9) && true) else false then decide (stripsN o=4) else false then sameInts (refuseL f) [3] else false then decide (fitsP o 0 [2,0,0]=3) else false)=true)=>(An (An (fun (y65:(bif bif bif bif bif bif bif bif bif decide (roomE f 0=0) then decide (stripsE o=0) else false then decide (refuseE f=0) else false then decide (openF o (fitsG o 0 [2,0,0])=0) else false then decide (growE o 0=0) else false then decide (openF f (gapG f 1 3)=0) else false then decide ((roomR f 0).lo=8) && (decide ((roomR f 0).hi=9) && true) else false then decide (stripsN o=4) else false then sameInts (refuseL f) [3] else false then decide (fitsP o 0 [2,0,0]=3) else false)=true)=>y64) (Ak 1 tv)) tv)) (An (An (fun (y66:(bif bif bif bif bif bif bif bif bif decide (roomE f 0=0) then decide (stripsE o=0) else false then decide (refuseE f=0) else false then decide (openF o (fitsG o 0 [2,0,0])=0) else false then decide (growE o 0=0) else false then decide (openF f (gapG f 1 3)=0) else false then decide ((roomR f 0).lo=8) && (decide ((roomR f 0).hi=9) && true) else false then decide (stripsN o=4) else false then sameInts (refuseL f) [3] else false then decide (fitsP o 0 [2,0,0]=3) else false)=true)=>y66) (fun (y67:(bif bif bif bif bif bif bif bif bif decide (roomE f 0=0) then decide (stripsE o=0) else false then decide (refuseE f=0) else false then decide (openF o (fitsG o 0 [2,0,0])=0) else false then decide (growE o 0=0) else false then decide (openF f (gapG f 1 3)=0) else false then decide ((roomR f 0).lo=8) && (decide ((roomR f 0).hi=9) && true) else false then decide (stripsN o=4) else false then sameInts (refuseL f) [3] else false then decide (fitsP o 0 [2,0,0]=3) else false)=false)=>tv)) (Ak 1 (An (fun (y68:(bif bif bif bif bif bif bif bif bif bif decide (roomE f 0=0) then decide (stripsE o=0) else false then decide (refuseE f=0) else false then decide (openF o (fitsG o 0 [2,0,0])=0) else false then decide (growE o 0=0) else false then decide (openF f (gapG f 1 3)=0) else false then decide ((roomR f 0).lo=8) && (decide ((roomR f 0).hi=9) && true) else false then decide (stripsN o=4) else false then sameInts (refuseL f) [3] else false then decide (fitsP o 0 [2,0,0]=3) else false then decide (growN o 0=22) else false)=true)=>(An (Ak 1 tv) tv)) (An (fun (y69:(bif bif bif bif bif bif bif bif bif bif decide (roomE f 0=0) then decide (stripsE o=0) else false then decide (refuseE f=0) else false then decide (openF o (fitsG o 0 [2,0,0])=0) else false then decide (growE o 0=0) else false then decide (openF f (gapG f 1 3)=0) else false then decide ((roomR f 0).lo=8) && (decide ((roomR f 0).hi=9) && true) else false then decide (stripsN o=4) else false then sameInts (refuseL f) [3] else false then decide (fitsP o 0 [2,0,0]=3) else false then decide (growN o 0=22) else false)=true)=>(An (Ak 2 tv) tv)) (An (fun (y70:(bif bif bif bif bif bif bif bif bif bif decide (roomE f 0=0) then decide (stripsE o=0) else false then decide (refuseE f=0) else false then decide (openF o (fitsG o 0 [2,0,0])=0) else false then decide (growE o 0=0) else false then decide (openF f (gapG f 1 3)=0) else false then decide ((roomR f 0).lo=8) && (decide ((roomR f 0).hi=9) && true) else false then decide (stripsN o=4) else false then sameInts (refuseL f) [3] else false then decide (fitsP o 0 [2,0,0]=3) else false then decide (growN o 0=22) else false)=true)=>(An (An (fun (y71:(bif bif bif bif bif bif bif bif bif bif decide (roomE f 0=0) then decide (stripsE o=0) else false then decide (refuseE f=0) else false then decide (openF o (fitsG o 0 [2,0,0])=0) else false then decide (growE o 0=0) else false then decide (openF f (gapG f 1 3)=0) else false then decide ((roomR f 0).lo=8) && (decide ((roomR f 0).hi=9) && true) else false then decide (stripsN o=4) else false then sameInts (refuseL f) [3] else false then decide (fitsP o 0 [2,0,0]=3) else false then decide (growN o 0=22) else false)=true)=>y70) (An (fun (y72:(bif bif bif bif bif bif bif bif bif bif decide (roomE f 0=0) then decide (stripsE o=0) else false then decide (refuseE f=0) else false then decide (openF o (fitsG o 0 [2,0,0])=0) else false then decide (growE o 0=0) else false then decide (openF f (gapG f 1 3)=0) else false then decide ((roomR f 0).lo=8) && (decide ((roomR f 0).hi=9) && true) else false then decide (stripsN o=4) else false then sameInts (refuseL f) [3] else false then decide (fitsP o 0 [2,0,0]=3) else false then decide (growN o 0=22) else false)=true)=>y70) tv)) tv)) (An (An (fun (y73:(bif bif bif bif bif bif bif bif bif bif decide (roomE f 0=0) then decide (stripsE o=0) else false then decide (refuseE f=0) else false then decide (openF o (fitsG o 0 [2,0,0])=0) else false then decide (growE o 0=0) else false then decide (openF f (gapG f 1 3)=0) else false then decide ((roomR f 0).lo=8) && (decide ((roomR f 0).hi=9) && true) else false then decide (stripsN o=4) else false then sameInts (refuseL f) [3] else false then decide (fitsP o 0 [2,0,0]=3) else false then decide (growN o 0=22) else false)=true)=>y73) (fun (y74:(bif bif bif bif bif bif bif bif bif bif decide (roomE f 0=0) then decide (stripsE o=0) else false then decide (refuseE f=0) else false then decide (openF o (fitsG o 0 [2,0,0])=0) else false then decide (growE o 0=0) else false then decide (openF f (gapG f 1 3)=0) else false then decide ((roomR f 0).lo=8) && (decide ((roomR f 0).hi=9) && true) else false then decide (stripsN o=4) else false then sameInts (refuseL f) [3] else false then decide (fitsP o 0 [2,0,0]=3) else false then decide (growN o 0=22) else false)=false)=>tv)) (Ak 1 tv)))))))))))))))))))))))))))))))))))))))))))))))) ?_
 refine swp_ret ?_
 exact zT [] (An (Ak 1 tv) (An (An (cb (o9 hpre)) (zr nilN)) (An (zr true) (An (zr true) (zr true)))))
set_option maxRecDepth 4000
theorem x_room:roomR exP 0=⟨8,9⟩/\roomE exP 0=0:=by decide +kernel
theorem x_strips:stripsN exO=4/\stripsE exO=0:=by decide +kernel
theorem x_ref:refuseL exP = [3]/\refuseE exP=0:=by decide +kernel
theorem x_fits:fitsP exO 0 [2,0,0]=3/\openF exO (fitsG exO 0 [2,0,0])=0:=by decide +kernel
theorem x_grow:growN exO 0=22/\growE exO 0=0:=by decide +kernel
theorem x_gap:gapR exP 1 3=⟨19,21⟩/\openF exP (gapG exP 1 3)=0:=by decide +kernel
theorem tw20 (f o:Frm):Triple Try.prog 20 (sw20 f o):=by
 apply w20
 all_goals (rintro ⟨rfl,rfl⟩)
 case o3 =>
  intro i hi
  have:i=0 ∨ i=1 ∨ i=2:=by simp at hi; omega
  rcases this with rfl | rfl | rfl <;> rfl
 case o7 =>
  intro _ i hi
  have:i=0:=by simpa using hi
  subst this; rfl
 case o8=>intro _; decide
 case o9 =>
  obtain ⟨a1,a2⟩:=x_room
  obtain ⟨b1,b2⟩:=x_strips
  obtain ⟨c1,c2⟩:=x_ref
  obtain ⟨d1,d2⟩:=x_fits
  obtain ⟨e1,e2⟩:=x_grow
  obtain ⟨g1,g2⟩:=x_gap
  rw [a1,a2,b1,b2,c1,c2,d1,d2,e1,e2,g1,g2]; (repeat intro _); rfl
 all_goals (first | exact small_exP | exact small_exO | skip)
theorem t20:Triple Try.prog 20 s20:=⟨(tw20 exP exO).1,fun _=>(tw20 exP exO).2 ⟨rfl,rfl⟩⟩
theorem sound_small {f:Frm} (h:Sound f):smallF f:=by
 have h1:=h.strips
 have h2:=h.pieces
 have h3:=h.columns
 exact ⟨by omega,by omega,by omega,fun i=>by have:=h.colLen i; omega⟩
theorem ready_ok {f:Frm} (h:readyF f=true):okFrm f=true/\Sound f/\smallF f:=by
 unfold readyF at h
 rw [Bool.and_eq_true] at h
 have:=sound_of h.2
 exact ⟨h.2,this,sound_small this⟩
theorem nbor {a b:Bool} (h:(bif !a then true else !b)=false):a=true/\b=true:=by cases a <;> cases b <;> first | exact ⟨rfl,rfl⟩ | cases h
end Go.Ab
namespace Go.Sh
open Go.Ab
variable {f:Frm}
end Go.Sh
namespace Go.Sh
open Go.Ab
variable {f:Frm}
theorem strips_lt (hs:Sound f):stripsV f < 100000 ↔ (wholeP f 0).isSome=true:=by
 unfold stripsV
 have h:=whole_in (w:=0) hs
 have h2:=hs.columns
 cases e:wholeP f 0 with
 | none=>simp
 | some x=>have:=(h x e).2.1; simp; omega
end Go.Sh
namespace Go.Sh
end Go.Sh
namespace Go.Ab
open Go Go.RowKit Go.Proofs Go.Sh Go.En
abbrev hC (f:Frm) (c:Int):Span:=highP f (col f c.toNat)
def s27 (f:Frm):CallSpec:={ args:=[vFrm f],res := .tup [iv (stripsV f),bv true],pre:=okFrm f=true }
end Go.Ab
namespace Go.Ab
open Go Go.RowKit Go.Proofs Go.Sh Go.En
theorem chk_bad {f:Frm} (h:(!decide (checkF f=0))=true):okFrm f=false:=by
 simp only [Bool.not_eq_true',decide_eq_false_iff_not] at h
 cases e:okFrm f with
 | false=>rfl
 | true=>exact absurd (check_good e) h
theorem chk_ok {f:Frm} (h:(!decide (checkF f=0))=false):okFrm f=true:=by
 simp only [Bool.not_eq_false',decide_eq_true_eq] at h
 exact check_zero.1 h
theorem w27 (f:Frm)
  (o0:okFrm f=true->smallF f)
  (o1:okFrm f=true->decide (stripsE f=3)=true->100000=stripsV f)
  (o2:okFrm f=true->decide (stripsE f=3)=false->stripsN f=stripsV f)
  (o3:okFrm f=true->decide (stripsE f=3)=false->(bif bif decide (stripsE f=0) then decide (0<=stripsN f) else false then decide (stripsN f < 100000) else false)=true) :
  Triple Try.prog 27 (s27 f):=by
 refine triple_of Try.func27 rfl Try.call27 T0_ok _ rfl rfl rfl rfl (Nat.le_of_ble_eq_true (by kernel_rfl)) (fun _ _ _ _ h=>h) ?_
 intro hpre C hC _ hE
 obtain ⟨P,w0,E0,av,hA,ro,df⟩:=C
 obtain ⟨rfl,rfl,rfl⟩:=hC
 refine swp_seq ?_
 refine zR [1] [0] (Ak 3 tv) ?_
 refine swp_seq ?_
 refine zC ([(1,CallSpec.eq (s59 f) [true])]) [4,5] [] (Ak 1 (An (An (An (zr (AV.agg (cFrm f))) tv) (An (t59 (f)) (An (o0 hpre) (Ak 1 (fun (i0:Env)=>tv))))) (Ak 5 tv))) ?_
 refine swp_seq ?_
 refine swp_seq ?_
 refine zR [4,5,12] [] (Ak 2 tv) ?_
 refine zI (decide (stripsE f=3)) (fun y1 => ?_) (fun y1 => ?_)
 ·refine swp_seq ?_
  refine zR [2,3] [] (Ak 2 tv) ?_
  refine swp_ret ?_
  exact zT [] (An (Ak 2 tv) (An (An (An (ci (o1 hpre y1)) (zr nilN)) (An (An (zr (bv true)) (zr nilN)) tv)) (An (zr true) (An (zr true) (zr true)))))
 ·refine swp_skip ?_
  refine swp_seq ?_
  refine zR [2,3] [] (Ak 4 (An (fun (y2:decide (stripsE f=0)=true)=>(An (Ak 1 tv) tv)) (An (fun (y3:decide (stripsE f=0)=true)=>(An (An (fun (y4:decide (stripsE f=0)=true)=>y3) (Ak 1 tv)) tv)) (An (An (fun (y5:decide (stripsE f=0)=true)=>y5) (fun (y6:decide (stripsE f=0)=false)=>tv)) (Ak 1 (An (fun (y7:(bif decide (stripsE f=0) then decide (0<=stripsN f) else false)=true)=>(An (Ak 1 tv) tv)) (An (fun (y8:(bif decide (stripsE f=0) then decide (0<=stripsN f) else false)=true)=>(An (An (fun (y9:(bif decide (stripsE f=0) then decide (0<=stripsN f) else false)=true)=>y8) (Ak 1 tv)) tv)) (An (An (fun (y10:(bif decide (stripsE f=0) then decide (0<=stripsN f) else false)=true)=>y10) (fun (y11:(bif decide (stripsE f=0) then decide (0<=stripsN f) else false)=false)=>tv)) (Ak 2 tv))))))))) ?_
  refine swp_ret ?_
  exact zT [] (An (Ak 2 tv) (An (An (An (ci (o2 hpre y1)) (zr nilN)) (An (An (cb (o3 hpre y1)) (zr nilN)) tv)) (An (zr true) (An (zr true) (zr true)))))
theorem t27 (f:Frm):Triple Try.prog 27 (s27 f):=by
 apply w27
 all_goals (intro h; have hs:=sound_of h; have hw:=whole_in (w:=0) hs; have hcl:=hs.columns)
 case o0=>exact sound_small hs
 all_goals (have ee:stripsE f=if (wholeP f 0).isSome then 0 else 3:=by unfold stripsE; rw [if_pos h])
 all_goals (have en:stripsN f=layM (wholeP f 0):=by unfold stripsN; rw [if_pos h])
 all_goals (rw [ee]; (try rw [en]))
 case o1 =>
  unfold stripsV
  cases e:wholeP f 0 with
  | none=>intro _; rfl
  | some x=>intro h; exact absurd h (by simp)
 case o2 =>
  unfold stripsV
  cases e:wholeP f 0 with
  | none=>intro h; exact absurd h (by simp)
  | some x=>intro _; rfl
 case o3 =>
  cases e:wholeP f 0 with
  | none=>intro h; exact absurd h (by simp)
  | some x =>
   intro _
   have:=hw x e
   show (bif bif true then decide (0<=x.2) else false then decide (x.2 < 100000) else false)=true
   rw [decide_eq_true (show 0<=x.2 by omega),decide_eq_true (show x.2 < 100000 by omega)]; rfl
end Go.Ab
namespace Go.Sh
open Go.Ab
variable {f:Frm} {left first:List Int}
end Go.Sh
namespace Go.En
open Go Go.Ab Go.Sh
end Go.En
namespace Go.Ab
open Go Go.RowKit Go.Proofs Go.Sh Go.En
end Go.Ab
namespace Go.Ab
open Go Go.RowKit Go.Proofs Go.Sh Go.En
end Go.Ab
namespace Go.Sh
open Go.Ab
def putF (f:Frm) (c:Nat) (q:Piece):Frm:={ f with columns:=f.columns.set c (col f c ++ [(f.pieces.length:Int)]),pieces:=f.pieces ++ [q] }
def takesG (f:Frm) (c:Int) (q:Piece):Bool:=(okFrm f && isCol f c) && okFrm (putF f c.toNat q)
def takesB (f:Frm) (c:Int) (q:Piece):Bool:=takesG f c q && (wholeP (putF f c.toNat q) 0).isSome
def takesE (f:Frm) (c:Int) (q:Piece):Int:=if okFrm f && isCol f c then (if okFrm (putF f c.toNat q) then 0 else 1) else openF f (isCol f c)
end Go.Sh
namespace Go.Ab
open Go Go.RowKit Go.Proofs Go.Sh Go.En
def s71 (f:Frm) (c:Int) (q:Piece):CallSpec:={ args:=[vFrm f,iv c,.agg (cPiece q)],res := .tup [bv (takesB f c q),iv (takesE f c q)],pre:=smallF f }
def c71c (f:Frm) (c:Int) (q:Piece):CallSpec:=s124o f.columns 152
def c71k (f:Frm) (c:Int) (q:Piece):CallSpec:=s34 (putF f c.toNat q)
def c71w (f:Frm) (c:Int) (q:Piece):CallSpec:=s90 (putF f c.toNat q) 0
end Go.Ab
namespace Go.Ab
open Go Go.RowKit Go.Proofs Go.Sh Go.En
theorem w71 (f:Frm) (c:Int) (q:Piece)
  (o0:smallF f->fitsF f)
  (o1:smallF f->(!decide (openF f (isCol f c)=0))=true->false=takesB f c q)
  (o2:smallF f->(!decide (openF f (isCol f c)=0))=true->openF f (isCol f c)=takesE f c q)
  (o3:smallF f->(!decide (openF f (isCol f c)=0))=false -> ∀ (i3:Nat),i3 < f.columns.length -> [aInts (col f i3)] = [aInts (f.columns.getD i3 [])])
  (o4:smallF f->(!decide (openF f (isCol f c)=0))=false->0 < f.columns.length)
  (o5:smallF f->(!decide (openF f (isCol f c)=0))=false->f.columns.length<=60000)
  (o6:smallF f->(!decide (openF f (isCol f c)=0))=false->0<=c)
  (o7:smallF f->(!decide (openF f (isCol f c)=0))=false->c < (↑(f.columns.length):Int))
  (o8:smallF f->(!decide (openF f (isCol f c)=0))=false->c.toNat < f.columns.length)
  (o9:smallF f->(!decide (openF f (isCol f c)=0))=false->(f.columns.getD c.toNat []).length + 1<=65536)
  (o10:smallF f->(!decide (openF f (isCol f c)=0))=false->0<=c)
  (o11:smallF f->(!decide (openF f (isCol f c)=0))=false->c < (↑(f.columns.length):Int))
  (o12:smallF f->(!decide (openF f (isCol f c)=0))=false->c.toNat < f.columns.length)
  (o13:smallF f->(!decide (openF f (isCol f c)=0))=false->f.pieces.length + 1<=65536)
  (o14:smallF f->(!decide (openF f (isCol f c)=0))=false->f.length=(putF f c.toNat q).length)
  (o15:smallF f->(!decide (openF f (isCol f c)=0))=false->f.slack=(putF f c.toNat q).slack)
  (o16:smallF f->(!decide (openF f (isCol f c)=0))=false->f.strips.length=(putF f c.toNat q).strips.length)
  (o17:smallF f->(!decide (openF f (isCol f c)=0))=false -> ∀ (i6:Nat),i6 < (putF f c.toNat q).strips.length->cStrip (stp f i6)=cStrip (stp (putF f c.toNat q) i6))
  (o18:smallF f->(!decide (openF f (isCol f c)=0))=false->f.pieces.length + 1=(putF f c.toNat q).pieces.length)
  (o19:smallF f->(!decide (openF f (isCol f c)=0))=false -> ∀ (i8:Nat),i8 < (putF f c.toNat q).pieces.length->catF f.pieces.length (fun (i:Nat)=>cPiece (pc f i)) (fun (j:Nat)=>List.getD [[iv q.lo,iv q.hi,iv q.pence]] j (TI.za ti46)) i8=cPiece (pc (putF f c.toNat q) i8))
  (o20:smallF f->(!decide (openF f (isCol f c)=0))=false->f.columns.length=(putF f c.toNat q).columns.length)
  (o21:smallF f->(!decide (openF f (isCol f c)=0))=false -> ∀ (i10:Nat),i10 < (putF f c.toNat q).columns.length->Decidable.rec (fun (h:¬i10=c.toNat)=>[aInts (f.columns.getD i10 [])]) (fun (h:i10=c.toNat)=>[AV.sl 1 ((f.columns.getD c.toNat []).length + 1) (catF (f.columns.getD c.toNat []).length (fun (i:Nat)=>[iv ((f.columns.getD c.toNat []).getD i 0)]) fun (j:Nat)=>List.getD [[iv (↑(f.pieces.length):Int)]] j [iv 0])] ++ []) (instDecidableEqNat i10 c.toNat) = [aInts (col (putF f c.toNat q) i10)])
  (o22:smallF f->(!decide (openF f (isCol f c)=0))=false->smallF (putF f c.toNat q))
  (o23:smallF f->(!decide (openF f (isCol f c)=0))=false->(!decide (checkF (putF f c.toNat q)=0))=true->false=takesB f c q)
  (o24:smallF f->(!decide (openF f (isCol f c)=0))=false->(!decide (checkF (putF f c.toNat q)=0))=true->1=takesE f c q)
  (o25:smallF f->(!decide (openF f (isCol f c)=0))=false->(!decide (checkF (putF f c.toNat q)=0))=false->Sound (putF f c.toNat q))
  (o26:smallF f->(!decide (openF f (isCol f c)=0))=false->(!decide (checkF (putF f c.toNat q)=0))=false->(!!Option.isSome (wholeP (putF f c.toNat q) 0))=takesB f c q)
  (o27:smallF f->(!decide (openF f (isCol f c)=0))=false->(!decide (checkF (putF f c.toNat q)=0))=false->0=takesE f c q) :
  Triple Try.prog 71 (s71 f c q):=by
 refine triple_of Try.func71 rfl Try.call71 T0_ok _ rfl rfl rfl rfl (Nat.le_of_ble_eq_true (by kernel_rfl)) (fun _ _ _ _ h=>h) ?_
 intro hpre C hC _ hE
 obtain ⟨P,w0,E0,av,hA,ro,df⟩:=C
 obtain ⟨rfl,rfl,rfl⟩:=hC
 refine swp_seq ?_
 refine zR [1,3,5] [0,8] (Ak 4 tv) ?_
 refine swp_seq ?_
 refine swp_seq ?_
 refine zC ([(3,CallSpec.eq (s84 f c) [true,true]),(4,CallSpec.eq (s83 f (isCol f c)) [true,true])]) [1,3,5,9] [0,8] (Ak 3 (An (An (An (zr (AV.agg (cFrm f))) (An (zr (iv c)) tv)) (An (t84 (f) (c)) (An (o0 hpre) (Ak 1 (fun (i0:Env)=>tv))))) (An (An (An (zr (AV.agg (cFrm f))) (An (zr (bv (isCol f c))) tv)) (An (t83 (f) (isCol f c)) (An hpre (Ak 1 (fun (i1:Env)=>tv))))) (Ak 6 tv)))) ?_
 refine swp_seq ?_
 refine zR [1,3,5,9,20] [0,8] (Ak 2 tv) ?_
 refine zI (!decide (openF f (isCol f c)=0)) (fun y2 => ?_) (fun y2 => ?_)
 ·refine swp_seq ?_
  refine zR [6,7] [] (Ak 3 tv) ?_
  refine swp_ret ?_
  exact zT [] (An (Ak 2 tv) (An (An (An (cb (o1 hpre y2)) (zr nilN)) (An (An (ci (o2 hpre y2)) (zr nilN)) tv)) (An (zr true) (An (zr true) (zr true)))))
 ·refine swp_skip ?_
  refine swp_seq ?_
  refine zC ([(2,CallSpec.eq (c71c f c q) [false])]) [1,3,5] [0,8,152] (Ak 2 (An (An (An (An (zr 1) (An (zr f.columns.length) (fun (i3:Nat)=>(fun (y4:i3 < f.columns.length)=>(o3 hpre y2 i3 y4))))) tv) (An (t124o f.columns (152)) (An (An (o4 hpre y2) (o5 hpre y2)) (Ak 1 (fun (i5:Env)=>tv))))) (Ak 2 tv))) ?_
  refine swp_seq ?_
  refine zR [1,3,5,10] [0,8,152] (Ak 3 (An (An (o6 hpre y2) (o7 hpre y2)) (An (An (o8 hpre y2) tv) (Ak 1 tv)))) ?_
  refine swp_seq ?_
  refine zR [3,5] [0,8,152] (Ak 8 (An (An (zr ((↑((f.columns.getD c.toNat []).length):Int))) (zr ((↑((f.columns.getD c.toNat []).length):Int)))) (Ak 4 (An (An (o9 hpre y2) (by decide:0 < 1)) (An (An (o10 hpre y2) (o11 hpre y2)) (An (An (o12 hpre y2) tv) tv)))))) ?_
  refine swp_seq ?_
  refine zR [3] [0,440,152] (Ak 8 (An (An (zr ((↑(f.pieces.length):Int))) (zr ((↑(f.pieces.length):Int)))) (Ak 2 (An (An (o13 hpre y2) (by decide:0 < 1)) (Ak 2 tv))))) ?_
  refine swp_seq ?_
  refine swp_seq ?_
  refine swp_ent (zE (st2:=ASt.mk [(3,AV.ptr 0 [])] [(0,OB.cells 26 (cFrm (putF f c.toNat q)))] 464) hE [440,152] [(0,.same 0)] [] [] (An (An (An (zr (some (Src.same 0))) (zr nilP)) tv) (An (An (An (zr 26) (An (An (An (ci (o14 hpre y2)) (zr nilN)) (An (An (ci (o15 hpre y2)) (zr nilN)) (An (An (zr 2) (An (o16 hpre y2) (fun (i6:Nat)=>(fun (y7:i6 < (putF f c.toNat q).strips.length)=>(o17 hpre y2 i6 y7))))) (An (An (zr 3) (An (o18 hpre y2) (fun (i8:Nat)=>(fun (y9:i8 < (putF f c.toNat q).pieces.length)=>(o19 hpre y2 i8 y9))))) (An (An (zr 1) (An (o20 hpre y2) (fun (i10:Nat)=>(fun (y11:i10 < (putF f c.toNat q).columns.length)=>(o21 hpre y2 i10 y11))))) tv))))) (zr true))) tv) (An (zr true) (zr true))))) ?_
  refine zC ([(1,CallSpec.eq (c71k f c q) [true])]) [3,61] [0] (Ak 1 (An (An (An (zr (AV.agg (cFrm (putF f c.toNat q)))) tv) (An (t34 (putF f c.toNat q)) (An (o22 hpre y2) (Ak 1 (fun (i12:Env)=>tv))))) (Ak 1 tv))) ?_
  refine zI (!decide (checkF (putF f c.toNat q)=0)) (fun y13 => ?_) (fun y13 => ?_)
  ·refine swp_seq ?_
   refine zR [6,7] [] (Ak 2 tv) ?_
   refine swp_ret ?_
   exact zT [] (An (Ak 2 tv) (An (An (An (cb (o23 hpre y2 y13)) (zr nilN)) (An (An (ci (o24 hpre y2 y13)) (zr nilN)) tv)) (An (zr true) (An (zr true) (zr true)))))
  ·refine swp_skip ?_
   refine swp_seq ?_
   refine zC ([(2,CallSpec.eq (c71w f c q) [true,true])]) [6,7] [] (Ak 2 (An (An (An (zr (AV.agg (cFrm (putF f c.toNat q)))) (An (zr (iv 0)) tv)) (An (t90 (putF f c.toNat q) (0)) (An (An (o25 hpre y2 y13) (An (by decide:Int.ofNat 0<=Int.ofNat 0) (by decide:Int.ofNat 0<=Int.ofNat 1000))) (Ak 1 (fun (i14:Env)=>tv))))) (Ak 3 tv))) ?_
   refine swp_ret ?_
   exact zT [] (An (Ak 2 tv) (An (An (An (cb (o26 hpre y2 y13)) (zr nilN)) (An (An (ci (o27 hpre y2 y13)) (zr nilN)) tv)) (An (zr true) (An (zr true) (zr true)))))
theorem put_col {f:Frm} {c:Nat} (hc:c < f.columns.length) (q:Piece) (i:Nat):col (putF f c q) i=if i=c then col f c ++ [(f.pieces.length:Int)] else col f i:=by
 show (f.columns.set c _).getD i []=_
 rw [List.getD_eq_getElem?_getD,List.getElem?_set]
 by_cases e:c=i
 ·subst e; rw [if_pos rfl,if_pos hc,if_pos rfl]; rfl
 ·rw [if_neg e,if_neg (fun h=>e h.symm),col,List.getD_eq_getElem?_getD]
theorem put_len (f:Frm) (c:Nat) (q:Piece):(putF f c q).columns.length=f.columns.length:=List.length_set
theorem put_pieces (f:Frm) (c:Nat) (q:Piece):(putF f c q).pieces.length=f.pieces.length + 1:=by
 show (f.pieces ++ [q]).length=_; rw [List.length_append]; rfl
theorem ints_cells (l:List Int) (x:Int):AV.sl 1 (l.length + 1) (catF l.length (fun i=>[iv (l.getD i 0)]) (fun j=>[[iv x]].getD j [iv 0]))=aInts (l ++ [x]):=by
 have:(catF l.length (fun i=>[iv (l.getD i 0)]) (fun j=>[[iv x]].getD j [iv 0]))=fun i=>[iv ((l ++ [x]).getD i 0)]:=by
  funext i
  unfold catF
  rw [Go.Ab.getD_append]
  split
  ·rfl
  ·generalize i - l.length=k
   cases k with
   | zero=>rfl
   | succ k=>rfl
 unfold aInts
 rw [this,List.length_append]; rfl
theorem put_small {f:Frm} (hs:Sound f) {c:Nat} (hc:c < f.columns.length) (q:Piece):smallF (putF f c q):=by
 have h1:=hs.strips
 have h2:=hs.pieces
 have h3:=hs.columns
 refine ⟨by show f.strips.length<=64; omega,by rw [put_pieces]; omega,by rw [put_len]; omega,fun i => ?_⟩
 have:=hs.colLen c
 have:=hs.colLen i
 rw [put_col hc]
 split
 ·rw [List.length_append,List.length_singleton]; omega
 ·omega
theorem t71 (f:Frm) (c:Int) (q:Piece):Triple Try.prog 71 (s71 f c q):=by
 apply w71
 case o0=>exact fun hp=>small_fits hp
 all_goals (intro hp h)
 case o1=>have e:=gate_bad h; simp [takesB,takesG,e]
 case o2=>have e:=gate_bad h; unfold takesE; rw [e]; rfl
 all_goals (obtain ⟨e1,e0,e2,e3,e4⟩:=gate_ok h; have hc:=isCol_get e0; have hn:c.toNat < f.columns.length:=by omega)
 all_goals (have h2:=e3.pieces; have h3:=e3.columns; have h6:=e3.colLen c.toNat)
 case o3=>intro i hi; rfl
 case o9=>show (col f c.toNat).length + 1<=_; omega
 case o18=>exact (put_pieces _ _ _).symm
 case o19=>intro i hi; rw [put_pieces] at hi; exact catF_one f.pieces q default cPiece rfl (fun _ _=>rfl) rfl hi
 case o20=>exact (put_len _ _ _).symm
 case o21 =>
  intro i hi
  rw [put_col hn]
  refine rec_ei (fun h => ?_) (fun h => ?_)
  ·rw [if_neg h]; rfl
  ·rw [if_pos h]; exact congrArg (fun v=>[v]) (ints_cells _ _)
 case o22=>exact put_small e3 hn q
 all_goals (try (first | omega | rfl | (intro i hi; rfl)))
 all_goals (intro hk)
 case o23=>have e:=chk_bad hk; unfold takesB takesG; rw [e,Bool.and_false,Bool.false_and]
 case o24=>have e:=chk_bad hk; unfold takesE; rw [if_pos (by rw [e1,e0]; rfl),e]; rfl
 all_goals (have e:=chk_ok hk)
 case o25=>exact sound_of e
 case o26=>unfold takesB takesG; rw [e1,e0,e,Bool.not_not]; rfl
 case o27=>unfold takesE; rw [if_pos (by rw [e1,e0]; rfl),e]; rfl
end Go.Ab
namespace Go.Sh
open Go.Ab
def eqN (i j:Nat):Bool:=decide (i=j)
theorem eqN_t {i j:Nat} (h:eqN i j=true):i=j:=of_decide_eq_true h
theorem eqN_f {i j:Nat} (h:eqN i j=false):i ≠ j:=of_decide_eq_false h
def cpLen (f:Frm) (j i:Nat):Nat:=if j < i then (col f j).length else 0
variable {f:Frm}
theorem cpLen_self (f:Frm) (j:Nat):cpLen f j (j + 1)=(col f j).length:=if_pos (Nat.lt_succ_self j)
theorem cpLen_other {j i:Nat} (h:i ≠ j):cpLen f j (i + 1)=cpLen f j i:=by
 unfold cpLen
 by_cases h1:j < i
 ·rw [if_pos h1,if_pos (by omega)]
 ·rw [if_neg h1,if_neg (by omega)]
end Go.Sh
namespace Go.Ab
open Go Go.RowKit Go.Proofs Go.Sh Go.En
def focS:CallSpec:={ args:=[],res := .any }
def ou31j (f:Frm) (j:Nat):OutSpec:={ args:=[vFrm f],pre:=smallF f,res := .agg [iv f.length,iv f.slack,.vec 0,.vec 1,.vec 2],hout:=[(0,.vec 65 2 f.strips.length (fun i=>cStrip (stp f i))),(1,.vec 46 3 f.pieces.length (fun i=>cPiece (pc f i))),(2,.vecx 27 1 f.columns.length (fun i=>[aInts (col f i)]) j [.vec 3]),(3,.vec 3 1 (cpLen f j f.columns.length) (fun p=>[iv ((col f j).getD p 0)]))] }
def h31j (f:Frm) (j:Nat):Hint:={ X:=Nat,M:=fun i=>[(4,iv i)],H:=fun i=>[(120,.cells 26 [iv f.length,iv f.slack,.vec 72,.vec 104,.vec 5000]),(5000,.vecx 27 1 i (fun k=>[aInts (col f k)]) j [.vec 5002]),(5002,.vec 3 1 (cpLen f j i) (fun p=>[iv ((col f j).getD p 0)]))],I:=fun i=>i<=f.columns.length,mu:=fun i=>f.columns.length - i,x0:=(0:Nat),nx:=fun i=>i + 1 }
def s31jo (f:Frm) (j:Nat) (id:Nat):CallSpec:=(ou31j f j).at [(0,id),(1,id + 1),(2,id + 2),(3,id + 3)]
def s70 (f:Frm) (c:Int) (q:Piece):CallSpec:={ args:=[vFrm f,iv c,.agg (cPiece q)],res:=vFrm (putF f c.toNat q),pre:=smallF f/\0<=c/\c < f.columns.length }
def c70 (f:Frm) (c:Int) (q:Piece) (id:Nat):CallSpec:=s31jo f c.toNat id
end Go.Ab
namespace Go.Ab
open Go Go.RowKit Go.Proofs Go.Sh Go.En
theorem wo31j (f:Frm) (j:Nat)
  (o0:smallF f->0 + List.length (Frm.strips f)<=65536)
  (o1:smallF f->0 + List.length (Frm.pieces f)<=65536)
  (o2:smallF f->0=(↑0:Int))
  (o3:smallF f->cpLen f j 0=0)
  (o4:smallF f->0<=List.length (Frm.columns f))
  (o5:smallF f -> ∀ (x0:Nat),x0<=List.length (Frm.columns f)->decide ((↑x0:Int) < (↑(List.length (Frm.columns f)):Int))=true->eqN x0 j=true->0<=(↑x0:Int))
  (o6:smallF f -> ∀ (x0:Nat),x0<=List.length (Frm.columns f)->decide ((↑x0:Int) < (↑(List.length (Frm.columns f)):Int))=true->eqN x0 j=true->(↑x0:Int) < (↑(List.length (Frm.columns f)):Int))
  (o7:smallF f -> ∀ (x0:Nat),x0<=List.length (Frm.columns f)->decide ((↑x0:Int) < (↑(List.length (Frm.columns f)):Int))=true->eqN x0 j=true->0 + List.length (col f x0)<=65536)
  (o8:smallF f -> ∀ (x0:Nat),x0<=List.length (Frm.columns f)->decide ((↑x0:Int) < (↑(List.length (Frm.columns f)):Int))=true->eqN x0 j=true->x0 + 1<=65536)
  (o9:smallF f -> ∀ (x0:Nat),x0<=List.length (Frm.columns f)->decide ((↑x0:Int) < (↑(List.length (Frm.columns f)):Int))=true->eqN x0 j=true->j=x0)
  (o10:smallF f -> ∀ (x0:Nat),x0<=List.length (Frm.columns f)->decide ((↑x0:Int) < (↑(List.length (Frm.columns f)):Int))=true->eqN x0 j=true->inI ((↑x0:Int) + 1))
  (o11:smallF f -> ∀ (x0:Nat),x0<=List.length (Frm.columns f)->decide ((↑x0:Int) < (↑(List.length (Frm.columns f)):Int))=true->eqN x0 j=true->(↑x0:Int) + 1=(↑(x0 + 1):Int))
  (o12:smallF f -> ∀ (x0:Nat),x0<=List.length (Frm.columns f)->decide ((↑x0:Int) < (↑(List.length (Frm.columns f)):Int))=true->eqN x0 j=true->0 + List.length (col f x0)=cpLen f j (x0 + 1))
  (o13:smallF f -> ∀ (x0:Nat),x0<=List.length (Frm.columns f)->decide ((↑x0:Int) < (↑(List.length (Frm.columns f)):Int))=true->eqN x0 j=true -> ∀ (i6:Nat),i6 < 0 + List.length (col f x0) -> [iv (List.getD (col f x0) i6 0)] = [iv (List.getD (col f j) i6 0)])
  (o14:smallF f -> ∀ (x0:Nat),x0<=List.length (Frm.columns f)->decide ((↑x0:Int) < (↑(List.length (Frm.columns f)):Int))=true->eqN x0 j=true->x0 + 1<=List.length (Frm.columns f))
  (o15:smallF f -> ∀ (x0:Nat),x0<=List.length (Frm.columns f)->decide ((↑x0:Int) < (↑(List.length (Frm.columns f)):Int))=true->eqN x0 j=true->List.length (Frm.columns f) - (x0 + 1) < List.length (Frm.columns f) - x0)
  (o16:smallF f -> ∀ (x0:Nat),x0<=List.length (Frm.columns f)->decide ((↑x0:Int) < (↑(List.length (Frm.columns f)):Int))=true->eqN x0 j=false->0<=(↑x0:Int))
  (o17:smallF f -> ∀ (x0:Nat),x0<=List.length (Frm.columns f)->decide ((↑x0:Int) < (↑(List.length (Frm.columns f)):Int))=true->eqN x0 j=false->(↑x0:Int) < (↑(List.length (Frm.columns f)):Int))
  (o18:smallF f -> ∀ (x0:Nat),x0<=List.length (Frm.columns f)->decide ((↑x0:Int) < (↑(List.length (Frm.columns f)):Int))=true->eqN x0 j=false->0 + List.length (col f x0)<=65536)
  (o19:smallF f -> ∀ (x0:Nat),x0<=List.length (Frm.columns f)->decide ((↑x0:Int) < (↑(List.length (Frm.columns f)):Int))=true->eqN x0 j=false->x0 + 1<=65536)
  (o20:smallF f -> ∀ (x0:Nat),x0<=List.length (Frm.columns f)->decide ((↑x0:Int) < (↑(List.length (Frm.columns f)):Int))=true->eqN x0 j=false->j < x0 ∨ x0 + 1<=j)
  (o21:smallF f -> ∀ (x0:Nat),x0<=List.length (Frm.columns f)->decide ((↑x0:Int) < (↑(List.length (Frm.columns f)):Int))=true->eqN x0 j=false->inI ((↑x0:Int) + 1))
  (o22:smallF f -> ∀ (x0:Nat),x0<=List.length (Frm.columns f)->decide ((↑x0:Int) < (↑(List.length (Frm.columns f)):Int))=true->eqN x0 j=false->(↑x0:Int) + 1=(↑(x0 + 1):Int))
  (o23:smallF f -> ∀ (x0:Nat),x0<=List.length (Frm.columns f)->decide ((↑x0:Int) < (↑(List.length (Frm.columns f)):Int))=true->eqN x0 j=false -> ∀ (i8:Nat),i8 < x0 + 1->i8 ≠ j->catF x0 (fun (k:Nat)=>[aInts (col f k)]) (fun (j:Nat)=>List.getD [[AV.sl 1 (0 + List.length (col f x0)) fun (i:Nat)=>[iv (List.getD (col f x0) i 0)]]] j (TI.za ti27)) i8 = [aInts (col f i8)])
  (o24:smallF f -> ∀ (x0:Nat),x0<=List.length (Frm.columns f)->decide ((↑x0:Int) < (↑(List.length (Frm.columns f)):Int))=true->eqN x0 j=false->cpLen f j x0=cpLen f j (x0 + 1))
  (o25:smallF f -> ∀ (x0:Nat),x0<=List.length (Frm.columns f)->decide ((↑x0:Int) < (↑(List.length (Frm.columns f)):Int))=true->eqN x0 j=false->x0 + 1<=List.length (Frm.columns f))
  (o26:smallF f -> ∀ (x0:Nat),x0<=List.length (Frm.columns f)->decide ((↑x0:Int) < (↑(List.length (Frm.columns f)):Int))=true->eqN x0 j=false->List.length (Frm.columns f) - (x0 + 1) < List.length (Frm.columns f) - x0)
  (o27:smallF f -> ∀ (x0:Nat),x0<=List.length (Frm.columns f)->decide ((↑x0:Int) < (↑(List.length (Frm.columns f)):Int))=false->0 + List.length (Frm.strips f)=List.length (Frm.strips f))
  (o28:smallF f -> ∀ (x0:Nat),x0<=List.length (Frm.columns f)->decide ((↑x0:Int) < (↑(List.length (Frm.columns f)):Int))=false->0 + List.length (Frm.pieces f)=List.length (Frm.pieces f))
  (o29:smallF f -> ∀ (x0:Nat),x0<=List.length (Frm.columns f)->decide ((↑x0:Int) < (↑(List.length (Frm.columns f)):Int))=false->x0=List.length (Frm.columns f))
  (o30:smallF f -> ∀ (x0:Nat),x0<=List.length (Frm.columns f)->decide ((↑x0:Int) < (↑(List.length (Frm.columns f)):Int))=false->cpLen f j x0=cpLen f j (List.length (Frm.columns f)))
  (l:List (Nat × Nat)) (hl:l.map (·.1)=(OutSpec.hout (ou31j f j)).map (·.1)) (hnd:(l.map (·.2)).Nodup) :
  Triple Try.prog 31 (OutSpec.at (ou31j f j) l):=by
 refine triple_out Try.func31 rfl Try.call31 T0_ok _ _ _ _ l rfl (Nat.le_of_ble_eq_true (by kernel_rfl)) hl hnd (by kernel_rfl) (by kernel_rfl) (by kernel_rfl) ?_
 intro hpre C hC hE
 obtain ⟨P,w0,E0,av,hA,ro,df⟩:=C
 obtain ⟨rfl,rfl,rfl⟩:=hC
 refine swp_seq ?_
 refine zR [1,2] [0,8] (Ak 2 tv) ?_
 refine swp_seq ?_
 refine zR [1,2,3] [0,8,120,72,104] (Ak 7 (An (o0 hpre) (Ak 3 (An (o1 hpre) (Ak 3 tv))))) ?_
 refine swp_seq ?_
 refine swp_seq ?_
 refine zR [1,2,3,4] [0,8,120,72,104] (Ak 1 tv) ?_
 refine swp_block ?_
 refine zL (Hint.ann (h31j f j) [(1,AV.ptr 0 []),(2,AV.ptr 8 []),(3,AV.ptr 120 [])] [(0,OB.cells 26 (cFrm f)),(8,OB.cells 26 [iv 0,iv 0,nilv,nilv,nilv]),(72,OB.vec 65 2 (0 + List.length (Frm.strips f)) fun (i:Nat)=>cStrip (stp f i)),(104,OB.vec 46 3 (0 + List.length (Frm.pieces f)) fun (i:Nat)=>cPiece (pc f i))] 10144) (zE hE [] [(0,.same 0),(8,.same 8),(120,.same 120),(72,.same 72),(104,.same 104),(5000,.nil),(5002,.nil)] [] [0,8,72,104] (An (An (An (zr (some (Src.same 0))) (zr nilP)) (An (An (zr (some (Src.same 8))) (zr nilP)) (An (An (zr (some (Src.same 120))) (zr nilP)) (An (An (ci (o2 hpre)) (zr nilN)) tv)))) (An (An (An (zr (OB.cells 26 (cFrm f))) (zr true)) (An (An (zr (OB.cells 26 [iv 0,iv 0,nilv,nilv,nilv])) (zr true)) (An (An (zr (OB.vec 65 2 (0 + List.length (Frm.strips f)) fun (i:Nat)=>cStrip (stp f i))) (zr true)) (An (An (zr (OB.vec 46 3 (0 + List.length (Frm.pieces f)) fun (i:Nat)=>cPiece (pc f i))) (zr true)) (An (An (zr 26) (An (An (An (zr (iv (Frm.length f))) (zr nilN)) (An (An (zr (iv (Frm.slack f))) (zr nilN)) (An (zr (some (Src.same 72))) (An (zr (some (Src.same 104))) (An (zr (some Src.nil)) tv))))) (zr true))) (An (zr 0) (An (o3 hpre) tv))))))) (An (zr true) (zr true))))) (o4 hpre) (fun (x0:Nat) hx0 => ?_)
 refine swp_seq ?_
 refine swp_seq ?_
 refine zR [1,2,3,4,22] [0,8,120,72,104,5000,5002] (Ak 5 tv) ?_
 refine zI (decide ((↑x0:Int) < (↑(List.length (Frm.columns f)):Int))) (fun y1 => ?_) (fun y1 => ?_)
 ·refine swp_skip ?_
  refine swp_seq ?_
  refine swp_block ?_
  refine swp_cases (eqN x0 j) (fun y2 => ?_) (fun y2 => ?_)
  ·refine zC ([(9,focS),(10,focS)]) [1,2,3,4] [0,8,120,72,104,10264,10248] (Ak 6 (An (An (o5 hpre x0 hx0 y1 y2) (o6 hpre x0 hx0 y1 y2)) (Ak 1 (An (o7 hpre x0 hx0 y1 y2) (Ak 1 (An (An (o8 hpre x0 hx0 y1 y2) (o9 hpre x0 hx0 y1 y2)) (Ak 2 tv))))))) ?_
   refine zR [1,2,3,4] [0,8,120,72,104,10264,10248] (Ak 1 (An (o10 hpre x0 hx0 y1 y2) (Ak 1 tv))) ?_
   exact zn (zE hE [] [(0,.same 0),(8,.same 8),(120,.same 120),(72,.same 72),(104,.same 104),(5000,.same 10264),(5002,.same 10248)] [] [0,8,72,104] (An (An (An (zr (some (Src.same 0))) (zr nilP)) (An (An (zr (some (Src.same 8))) (zr nilP)) (An (An (zr (some (Src.same 120))) (zr nilP)) (An (An (ci (o11 hpre x0 hx0 y1 y2)) (zr nilN)) tv)))) (An (An (An (zr (OB.cells 26 (cFrm f))) (zr true)) (An (An (zr (OB.cells 26 [iv 0,iv 0,nilv,nilv,nilv])) (zr true)) (An (An (zr (OB.vec 65 2 (0 + List.length (Frm.strips f)) fun (i:Nat)=>cStrip (stp f i))) (zr true)) (An (An (zr (OB.vec 46 3 (0 + List.length (Frm.pieces f)) fun (i:Nat)=>cPiece (pc f i))) (zr true)) (An (An (zr 26) (An (An (An (zr (iv (Frm.length f))) (zr nilN)) (An (An (zr (iv (Frm.slack f))) (zr nilN)) (An (zr (some (Src.same 72))) (An (zr (some (Src.same 104))) (An (zr (some (Src.same 10264))) tv))))) (zr true))) (An (An (zr 27) (An (zr 1) (An (zr (x0 + 1)) (An (zr j) (An (fun (i3:Nat)=>(fun (y4:i3 < x0 + 1)=>(fun (y5:i3 ≠ j)=>(zr ([aInts (col f i3)]))))) (An (An (zr (some (Src.same 10248))) tv) (zr true))))))) (An (An (zr 3) (An (zr 1) (An (o12 hpre x0 hx0 y1 y2) (fun (i6:Nat)=>(fun (y7:i6 < 0 + List.length (col f x0))=>(o13 hpre x0 hx0 y1 y2 i6 y7)))))) tv))))))) (An (zr true) (zr true))))) (o14 hpre x0 hx0 y1 y2) (o15 hpre x0 hx0 y1 y2)
  ·refine zR [1,2,3,4] [0,8,120,72,104,10264,5002] (Ak 6 (An (An (o16 hpre x0 hx0 y1 y2) (o17 hpre x0 hx0 y1 y2)) (Ak 1 (An (o18 hpre x0 hx0 y1 y2) (Ak 1 (An (An (o19 hpre x0 hx0 y1 y2) (o20 hpre x0 hx0 y1 y2)) (Ak 2 tv))))))) ?_
   refine zR [1,2,3,4] [0,8,120,72,104,10264,5002] (Ak 1 (An (o21 hpre x0 hx0 y1 y2) (Ak 1 tv))) ?_
   exact zn (zE hE [] [(0,.same 0),(8,.same 8),(120,.same 120),(72,.same 72),(104,.same 104),(5000,.same 10264),(5002,.same 5002)] [] [0,8,72,104] (An (An (An (zr (some (Src.same 0))) (zr nilP)) (An (An (zr (some (Src.same 8))) (zr nilP)) (An (An (zr (some (Src.same 120))) (zr nilP)) (An (An (ci (o22 hpre x0 hx0 y1 y2)) (zr nilN)) tv)))) (An (An (An (zr (OB.cells 26 (cFrm f))) (zr true)) (An (An (zr (OB.cells 26 [iv 0,iv 0,nilv,nilv,nilv])) (zr true)) (An (An (zr (OB.vec 65 2 (0 + List.length (Frm.strips f)) fun (i:Nat)=>cStrip (stp f i))) (zr true)) (An (An (zr (OB.vec 46 3 (0 + List.length (Frm.pieces f)) fun (i:Nat)=>cPiece (pc f i))) (zr true)) (An (An (zr 26) (An (An (An (zr (iv (Frm.length f))) (zr nilN)) (An (An (zr (iv (Frm.slack f))) (zr nilN)) (An (zr (some (Src.same 72))) (An (zr (some (Src.same 104))) (An (zr (some (Src.same 10264))) tv))))) (zr true))) (An (An (zr 27) (An (zr 1) (An (zr (x0 + 1)) (An (zr j) (An (fun (i8:Nat)=>(fun (y9:i8 < x0 + 1)=>(fun (y10:i8 ≠ j)=>(o23 hpre x0 hx0 y1 y2 i8 y9 y10)))) (An (An (zr (some (Src.same 5002))) tv) (zr true))))))) (An (An (zr 3) (An (zr 1) (An (o24 hpre x0 hx0 y1 y2) (fun (i11:Nat)=>(fun (y12:i11 < cpLen f j x0)=>(zr ([iv (List.getD (col f j) i11 0)]))))))) tv))))))) (An (zr true) (zr true))))) (o25 hpre x0 hx0 y1 y2) (o26 hpre x0 hx0 y1 y2)
 ·refine swp_exit ?_
  refine swp_seq ?_
  refine zR [2] [8,72,104,5000,5002] (Ak 2 tv) ?_
  refine swp_ret ?_
  exact zO (ASt.mk [(2,AV.ptr 90 [])] [(90,OB.cells 26 [iv (Frm.length f),iv (Frm.slack f),AV.vec 0,AV.vec 1,AV.vec 2]),(0,OB.vec 65 2 (List.length (Frm.strips f)) fun (i:Nat)=>cStrip (stp f i)),(1,OB.vec 46 3 (List.length (Frm.pieces f)) fun (i:Nat)=>cPiece (pc f i)),(2,OB.vecx 27 1 (List.length (Frm.columns f)) (fun (i:Nat)=>[aInts (col f i)]) j [AV.vec 3]),(3,OB.vec 3 1 (cpLen f j (List.length (Frm.columns f))) fun (p:Nat)=>[iv (List.getD (col f j) p 0)])] 100) (zE hE [] [(90,.same 8),(0,.same 72),(1,.same 104),(2,.same 5000),(3,.same 5002)] [] [] (An (An (An (zr (some (Src.same 8))) (zr nilP)) tv) (An (An (An (zr 26) (An (An (An (zr (iv (Frm.length f))) (zr nilN)) (An (An (zr (iv (Frm.slack f))) (zr nilN)) (An (zr (some (Src.same 72))) (An (zr (some (Src.same 104))) (An (zr (some (Src.same 5000))) tv))))) (zr true))) (An (An (zr 65) (An (zr 2) (An (o27 hpre x0 hx0 y1) (fun (i13:Nat)=>(fun (y14:i13 < 0 + List.length (Frm.strips f))=>(zr (cStrip (stp f i13)))))))) (An (An (zr 46) (An (zr 3) (An (o28 hpre x0 hx0 y1) (fun (i15:Nat)=>(fun (y16:i15 < 0 + List.length (Frm.pieces f))=>(zr (cPiece (pc f i15)))))))) (An (An (zr 27) (An (zr 1) (An (o29 hpre x0 hx0 y1) (An (zr j) (An (fun (i17:Nat)=>(fun (y18:i17 < x0)=>(fun (y19:i17 ≠ j)=>(zr ([aInts (col f i17)]))))) (An (An (zr (some (Src.same 5002))) tv) (zr true))))))) (An (An (zr 3) (An (zr 1) (An (o30 hpre x0 hx0 y1) (fun (i20:Nat)=>(fun (y21:i20 < cpLen f j x0)=>(zr ([iv (List.getD (col f j) i20 0)]))))))) tv))))) (An (zr true) (zr true))))) (An (Ak 1 tv) (An (zr (AV.agg [iv (Frm.length f),iv (Frm.slack f),AV.vec 0,AV.vec 1,AV.vec 2])) (An (zr (some (OB.vec 65 2 (List.length (Frm.strips f)) fun (i:Nat)=>cStrip (stp f i)))) (An (zr (some (OB.vec 46 3 (List.length (Frm.pieces f)) fun (i:Nat)=>cPiece (pc f i)))) (An (zr (some (OB.vecx 27 1 (List.length (Frm.columns f)) (fun (i:Nat)=>[aInts (col f i)]) j [AV.vec 3]))) (An (zr (some (OB.vec 3 1 (cpLen f j (List.length (Frm.columns f))) fun (p:Nat)=>[iv (List.getD (col f j) p 0)]))) tv))))))
theorem to31j (f:Frm) (j:Nat) (l:List (Nat × Nat)) (hl:l.map (·.1) = [0,1,2,3]) (hnd:(l.map (·.2)).Nodup):Triple Try.prog 31 ((ou31j f j).at l):=by
 apply wo31j (l:=l) (hl:=hl) (hnd:=hnd)
 all_goals (intro hp; obtain ⟨a1,a2,a3,a4⟩:=hp)
 case o0 | o1 | o4=>omega
 case o2=>rfl
 case o3=>unfold cpLen; rw [if_neg (Nat.not_lt_zero _)]
 all_goals (intro x hx h; simp only [decide_eq_true_eq,decide_eq_false_iff_not] at h)
 case o27 | o28 | o29=>omega
 case o30=>rw [show x=f.columns.length by omega]
 all_goals (have h4:=a4 x; intro he)
 case o5 | o6 | o7 | o8 | o10 | o11 | o14 | o15 | o16 | o17 | o18 | o19 | o21 | o22 | o25 | o26=>first | omega | (simp only [inI]; omega)
 case o9=>exact (eqN_t he).symm
 case o12=>have e:=eqN_t he; subst e; rw [cpLen_self]; omega
 case o13=>intro i hi; have e:=eqN_t he; subst e; rfl
 case o20=>have:=eqN_f he; omega
 case o23 =>
  intro i hi hij
  refine catF_idx (fun k=>[aInts (col f k)]) ?_ hi
  show [AV.sl 1 (0 + (col f x).length) _] = [aInts (col f x)]
  rw [Nat.zero_add]; rfl
 case o24=>exact (cpLen_other (eqN_f he)).symm
theorem t31jo (f:Frm) (j id:Nat):Triple Try.prog 31 (s31jo f j id):=to31j f j _ rfl (by simp)
theorem w70 (f:Frm) (c:Int) (q:Piece)
  (o0:smallF f/\0<=c/\c < (↑(f.columns.length):Int)->0<=c)
  (o1:smallF f/\0<=c/\c < (↑(f.columns.length):Int)->c < (↑(f.columns.length):Int))
  (o2:smallF f/\0<=c/\c < (↑(f.columns.length):Int)->c.toNat < f.columns.length)
  (o3:smallF f/\0<=c/\c < (↑(f.columns.length):Int)->cpLen f c.toNat f.columns.length + 1<=65536)
  (o4:smallF f/\0<=c/\c < (↑(f.columns.length):Int)->0<=c)
  (o5:smallF f/\0<=c/\c < (↑(f.columns.length):Int)->c < (↑(f.columns.length):Int))
  (o6:smallF f/\0<=c/\c < (↑(f.columns.length):Int)->c.toNat < f.columns.length)
  (o7:smallF f/\0<=c/\c < (↑(f.columns.length):Int) -> ∀ (i1:Nat),i1 < f.columns.length->i1 ≠ c.toNat -> [aInts (col f i1)] = [aInts (col (putF f c.toNat q) i1)])
  (o8:smallF f/\0<=c/\c < (↑(f.columns.length):Int)->cpLen f c.toNat f.columns.length + 1=(col (putF f c.toNat q) c.toNat).length)
  (o9:smallF f/\0<=c/\c < (↑(f.columns.length):Int) -> ∀ (i4:Nat),i4 < (col (putF f c.toNat q) c.toNat).length->catF (cpLen f c.toNat f.columns.length) (fun (p:Nat)=>[iv ((col f c.toNat).getD p 0)]) (fun (j:Nat)=>List.getD [[iv (↑(f.pieces.length):Int)]] j (TI.za ti3)) i4 = [iv ((col (putF f c.toNat q) c.toNat).getD i4 0)])
  (o10:smallF f/\0<=c/\c < (↑(f.columns.length):Int)->f.pieces.length + 1<=65536)
  (o11:smallF f/\0<=c/\c < (↑(f.columns.length):Int)->f.length=(putF f c.toNat q).length)
  (o12:smallF f/\0<=c/\c < (↑(f.columns.length):Int)->f.slack=(putF f c.toNat q).slack)
  (o13:smallF f/\0<=c/\c < (↑(f.columns.length):Int)->f.strips.length=(putF f c.toNat q).strips.length)
  (o14:smallF f/\0<=c/\c < (↑(f.columns.length):Int) -> ∀ (i6:Nat),i6 < (putF f c.toNat q).strips.length->cStrip (stp f i6)=cStrip (stp (putF f c.toNat q) i6))
  (o15:smallF f/\0<=c/\c < (↑(f.columns.length):Int)->f.pieces.length + 1=(putF f c.toNat q).pieces.length)
  (o16:smallF f/\0<=c/\c < (↑(f.columns.length):Int) -> ∀ (i8:Nat),i8 < (putF f c.toNat q).pieces.length->catF f.pieces.length (fun (i:Nat)=>cPiece (pc f i)) (fun (j:Nat)=>List.getD [[iv q.lo,iv q.hi,iv q.pence]] j (TI.za ti46)) i8=cPiece (pc (putF f c.toNat q) i8))
  (o17:smallF f/\0<=c/\c < (↑(f.columns.length):Int)->f.columns.length=(putF f c.toNat q).columns.length) :
  Triple Try.prog 70 (s70 f c q):=by
 refine triple_of Try.func70 rfl Try.call70 T0_ok _ rfl rfl rfl rfl (Nat.le_of_ble_eq_true (by kernel_rfl)) (fun _ _ _ _ h=>h) ?_
 intro hpre C hC _ hE
 obtain ⟨P,w0,E0,av,hA,ro,df⟩:=C
 obtain ⟨rfl,rfl,rfl⟩:=hC
 refine swp_seq ?_
 refine zR [1,3,5,6] [0,8,16] (Ak 3 tv) ?_
 refine swp_seq ?_
 refine zC ([(1,CallSpec.eq (c70 f c q 32) [true])]) [1,3,5,6,7] [0,8,16,40,32,33,34,35] (Ak 1 (An (An (An (zr (AV.agg (cFrm f))) tv) (An (t31jo (f) c.toNat (32)) (An hpre.1 (Ak 1 (fun (i0:Env)=>tv))))) (Ak 2 tv))) ?_
 refine swp_seq ?_
 refine zR [5,6,7] [8,16,40,32,33,34,152] (Ak 6 (An (An (o0 hpre) (o1 hpre)) (An (An (zr c.toNat) (An (o2 hpre) tv)) (Ak 4 (An (o3 hpre) (An (An (o4 hpre) (o5 hpre)) (An (An (zr c.toNat) (An (o6 hpre) tv)) tv))))))) ?_
 refine swp_seq ?_
 refine swp_ent (zE (st2:=ASt.mk [(5,AV.ptr 8 []),(6,AV.ptr 16 []),(7,AV.ptr 40 [])] [(34,OB.vec 27 1 f.columns.length fun (i:Nat)=>[aInts (col (putF f c.toNat q) i)]),(8,OB.cells 46 (cPiece q)),(16,OB.cells 26 [iv 0,iv 0,nilv,nilv,nilv]),(40,OB.cells 26 [iv f.length,iv f.slack,AV.vec 32,AV.vec 33,AV.vec 34]),(32,OB.vec 65 2 f.strips.length fun (i:Nat)=>cStrip (stp f i)),(33,OB.vec 46 3 f.pieces.length fun (i:Nat)=>cPiece (pc f i))] 176) hE [152] [(8,.same 8),(16,.same 16),(40,.same 40),(32,.same 32),(33,.same 33),(34,.same 34)] [] [8,16,32,33] (An (An (An (zr (some (Src.same 8))) (zr nilP)) (An (An (zr (some (Src.same 16))) (zr nilP)) (An (An (zr (some (Src.same 40))) (zr nilP)) tv))) (An (An (An (zr 27) (An (zr 1) (An (zr f.columns.length) (An (fun (i1:Nat)=>(fun (y2:i1 < f.columns.length)=>(fun (y3:i1 ≠ c.toNat)=>(o7 hpre i1 y2 y3)))) (An (An (An (zr 1) (An (o8 hpre) (fun (i4:Nat)=>(fun (y5:i4 < (col (putF f c.toNat q) c.toNat).length)=>(o9 hpre i4 y5))))) tv) (An (zr true) (zr true))))))) (An (An (zr (OB.cells 46 (cPiece q))) (zr true)) (An (An (zr (OB.cells 26 [iv 0,iv 0,nilv,nilv,nilv])) (zr true)) (An (An (zr 26) (An (An (An (zr (iv f.length)) (zr nilN)) (An (An (zr (iv f.slack)) (zr nilN)) (An (zr (some (Src.same 32))) (An (zr (some (Src.same 33))) (An (zr (some (Src.same 34))) tv))))) (zr true))) (An (An (zr (OB.vec 65 2 f.strips.length fun (i:Nat)=>cStrip (stp f i))) (zr true)) (An (An (zr (OB.vec 46 3 f.pieces.length fun (i:Nat)=>cPiece (pc f i))) (zr true)) tv)))))) (An (zr true) (zr true))))) ?_
 refine zR [6,7] [16,40,32,208,34] (Ak 4 (An (o10 hpre) (Ak 2 tv))) ?_
 refine swp_seq ?_
 refine zR [6] [16,32,208,34] (Ak 2 tv) ?_
 refine swp_ret ?_
 exact zT [32,208,34] (An (Ak 1 tv) (An (An (An (ci (o11 hpre)) (zr nilN)) (An (An (ci (o12 hpre)) (zr nilN)) (An (An (zr 2) (An (o13 hpre) (fun (i6:Nat)=>(fun (y7:i6 < (putF f c.toNat q).strips.length)=>(o14 hpre i6 y7))))) (An (An (zr 3) (An (o15 hpre) (fun (i8:Nat)=>(fun (y9:i8 < (putF f c.toNat q).pieces.length)=>(o16 hpre i8 y9))))) (An (An (zr 1) (An (o17 hpre) (fun (i10:Nat)=>(fun (y11:i10 < (putF f c.toNat q).columns.length)=>(zr ([aInts (col (putF f c.toNat q) i10)])))))) tv))))) (An (zr true) (An (zr true) (zr true)))))
theorem t70 (f:Frm) (c:Int) (q:Piece):Triple Try.prog 70 (s70 f c q):=by
 apply w70
 all_goals (rintro ⟨hp,h1,h2⟩; have hn:c.toNat < f.columns.length:=by omega)
 all_goals (have hcl:cpLen f c.toNat f.columns.length=(col f c.toNat).length:=if_pos hn)
 all_goals (have h4:=hp.2.2.2 c.toNat; have h5:=hp.2.1)
 case o3=>omega
 case o7=>intro i hi hij; rw [put_col hn,if_neg hij]
 case o8=>rw [put_col hn,if_pos rfl,List.length_append,hcl]; rfl
 case o9 =>
  intro i hi
  rw [put_col hn,if_pos rfl] at hi ⊢
  rw [List.length_append,List.length_singleton] at hi
  exact catF_one (col f c.toNat) _ 0 (fun z=>[iv z]) hcl (fun _ _=>rfl) rfl hi
 case o10=>omega
 case o15=>exact (put_pieces _ _ _).symm
 case o16=>intro i hi; rw [put_pieces] at hi; exact catF_one f.pieces q default cPiece rfl (fun _ _=>rfl) rfl hi
 case o17=>exact (put_len _ _ _).symm
 all_goals (first | omega | rfl | (intro i hi; rfl))
end Go.Ab
namespace Go.Sh
structure Nar where
 piece:Int
 lo:Int
 hi:Int
 one:Int
 other:Int
end Go.Sh
namespace Go.En
open Go Go.Ab Go.Sh
end Go.En
namespace Go.Ab
open Go Go.RowKit Go.Proofs Go.Sh Go.En
def e5 (f:Frm) (c:Int) (set:List Int):List (Nat × OB):=[(112,.cells 26 (cFrm f))]
end Go.Ab
namespace Go.Ab
open Go Go.RowKit Go.Proofs Go.Sh Go.En
end Go.Ab
namespace Go.Sh
open Go.Ab
variable {f:Frm}
def putP (f:Frm) (c:Nat) (q:Piece):Frm:={ f with columns:=f.columns.set c (col f c ++ [(f.pieces.length:Int)]),pieces:=f.pieces ++ [q] }
theorem put_high (c:Nat) (q:Piece) {l:List Int} (h:∀ x,x ∈ l->0<=x/\x < f.pieces.length):highP (putP f c q) l=highP f l:=by
 induction l using snoc_ind with
 | h0=>rfl
 | h1 l p ih =>
  rw [high_snoc,high_snoc,ih (fun x hx=>h x (by simp [hx]))]
  have hp:=h p (by simp)
  have:pc (putP f c q) p.toNat=pc f p.toNat:=by
   show (f.pieces ++ [q]).getD p.toNat default=_
   rw [getD_append,if_pos (by omega)]; rfl
  unfold hiStep
  rw [this]
theorem put_high_last {c:Nat} {q:Piece} (h1:q.lo=0) (h2:q.hi=0) {l:List Int} (h:∀ x,x ∈ l->0<=x/\x < f.pieces.length):highP (putP f c q) (l ++ [(f.pieces.length:Int)])=highP f l:=by
 rw [high_snoc,put_high c q h]
 have:pc (putP f c q) (f.pieces.length:Int).toNat=q:=by
  show (f.pieces ++ [q]).getD _ default=_
  rw [Int.toNat_natCast,getD_append,if_neg (Nat.lt_irrefl _),Nat.sub_self]; rfl
 unfold hiStep
 rw [this,h1,h2,Int.add_zero,Int.add_zero]
theorem put_lay (hs:Sound f) {c:Nat} (hc:c < f.columns.length) {q:Piece} (ho:Sound (putP f c q)) (h1:q.lo=0) (h2:q.hi=0) (l:List (List Int)):LayF (putP f c q) 0 l ↔ LayF f 0 l:=by
 rw [layF_iff hs,layF_iff ho]
 have hl:(putP f c q).columns.length=f.columns.length:=List.length_set
 have hh:∀ i,i < f.columns.length->highP (putP f c q) (delW (col (putP f c q) i) (bitP 0))=highP f (delW (col f i) (bitP 0)):=by
  intro i hi
  rw [del_zero,del_zero]
  have hcol:col (putP f c q) i=if i=c then col f c ++ [(f.pieces.length:Int)] else col f i:=by
   show (f.columns.set c _).getD i []=_
   rw [List.getD_eq_getElem?_getD,List.getElem?_set]
   by_cases e:c=i
   ·subst e; rw [if_pos rfl,if_pos hc,if_pos rfl]; rfl
   ·rw [if_neg e,if_neg (fun h=>e h.symm),col,List.getD_eq_getElem?_getD]
  rw [hcol]
  split
  ·rename_i e
   rw [e]
   exact put_high_last h1 h2 (fun x hx=>mem_goodL (col_good hs c) x hx)
  ·exact put_high c q (fun x hx=>mem_goodL (col_good hs i) x hx)
 rw [hl]
 constructor
 ·rintro ⟨a,b,c'⟩
  refine ⟨a,fun i hi => ?_,c'⟩
  obtain ⟨b1,b2,b3⟩:=b i hi
  rw [hh i hi] at b3
  exact ⟨b1,b2,b3⟩
 ·rintro ⟨a,b,c'⟩
  refine ⟨a,fun i hi => ?_,c'⟩
  obtain ⟨b1,b2,b3⟩:=b i hi
  rw [← hh i hi] at b3
  exact ⟨b1,b2,b3⟩
theorem put_strips (h:okFrm f=true) {c:Nat} (hc:c < f.columns.length) {q:Piece} (ho:okFrm (putP f c q)=true) (h2:¬ 0 < q.hi):stripsV (putP f c q)=stripsV f:=by
 have hs:=sound_of h
 have hos:=sound_of ho
 have hq:=hos.piece f.pieces.length (by show _ < (f.pieces ++ [q]).length; rw [List.length_append]; exact Nat.lt_succ_self _)
 have e:pc (putP f c q) f.pieces.length=q:=by
  show (f.pieces ++ [q]).getD _ default=_
  rw [getD_append,if_neg (Nat.lt_irrefl _),Nat.sub_self]; rfl
 rw [e] at hq
 have hl:=put_lay hs hc hos (show q.lo=0 by omega) (show q.hi=0 by omega)
 refine Int.le_antisymm ?_ ?_
 ·exact stripsV_le hs hos fun l hl'=>⟨l,(hl l).2 hl',Int.le_refl _⟩
 ·exact stripsV_le hos hs fun l hl'=>⟨l,(hl l).1 hl',Int.le_refl _⟩
end Go.Sh
namespace Go.Ab
open Go Go.RowKit Go.Proofs Go.Sh Go.En
def e6 (f:Frm):List (Nat × OB):=[(48,.cells 26 (cFrm f))]
def s14 (f:Frm) (c:Int) (q:Piece):CallSpec:={ args:=[vFrm f,iv c,.agg (cPiece q)],res:=bv true,pre:=fitsF f }
end Go.Ab
namespace Go.Ab
open Go Go.RowKit Go.Proofs Go.Sh Go.En
theorem w14 (f:Frm) (c:Int) (q:Piece)
  (o0:fitsF f->(!readyF f)=false->(!!readyF f)=true)
  (o1:fitsF f->(bif !readyF f then true else !isCol f c)=false->smallF f)
  (o2:fitsF f->(bif !readyF f then true else !isCol f c)=false->0<=c)
  (o3:fitsF f->(bif !readyF f then true else !isCol f c)=false->c < (↑(f.columns.length):Int))
  (o4:fitsF f->(bif !readyF f then true else !isCol f c)=false->smallF f)
  (o5:fitsF f->(bif !readyF f then true else !isCol f c)=false->fitsF (putF f c.toNat q))
  (o6:fitsF f->(bif !readyF f then true else !isCol f c)=false->(!decide (checkF (putF f c.toNat q)=0))=true->(bif bif decide (takesE f c q=1) then !takesB f c q else false then true else false)=true)
  (o7:fitsF f->(bif !readyF f then true else !isCol f c)=false->(!decide (checkF (putF f c.toNat q)=0))=false->okFrm (putF f c.toNat q)=true)
  (o8:fitsF f->(bif !readyF f then true else !isCol f c)=false->(!decide (checkF (putF f c.toNat q)=0))=false->okFrm f=true)
  (o9:fitsF f->(bif !readyF f then true else !isCol f c)=false->(!decide (checkF (putF f c.toNat q)=0))=false->(!decide (takesE f c q=0))=false->(!!decide (takesE f c q=0))=true)
  (o10:fitsF f->(bif !readyF f then true else !isCol f c)=false->(!decide (checkF (putF f c.toNat q)=0))=false->(bif !decide (takesE f c q=0) then true else false)=false->(!bif !decide (takesE f c q=0) then true else false)=true)
  (o11:fitsF f->(bif !readyF f then true else !isCol f c)=false->(!decide (checkF (putF f c.toNat q)=0))=false->(bif bif !decide (takesE f c q=0) then true else false then true else false)=false->(!bif bif !decide (takesE f c q=0) then true else false then true else false)=true)
  (o12:fitsF f->(bif !readyF f then true else !isCol f c)=false->(!decide (checkF (putF f c.toNat q)=0))=false->(bif bif bif !decide (takesE f c q=0) then true else false then true else false then true else !takesB f c q == decide (stripsV (putF f c.toNat q) < 100000))=true->false=true)
  (o13:fitsF f->(bif !readyF f then true else !isCol f c)=false->(!decide (checkF (putF f c.toNat q)=0))=false->(bif bif bif !decide (takesE f c q=0) then true else false then true else false then true else !takesB f c q == decide (stripsV (putF f c.toNat q) < 100000))=false->decide (0 < q.hi)=false->(!decide (0 < q.hi))=true)
  (o14:fitsF f->(bif !readyF f then true else !isCol f c)=false->(!decide (checkF (putF f c.toNat q)=0))=false->(bif bif bif !decide (takesE f c q=0) then true else false then true else false then true else !takesB f c q == decide (stripsV (putF f c.toNat q) < 100000))=false->(bif bif decide (0 < q.hi) then true else decide (stripsV (putF f c.toNat q)=stripsV f) then true else false)=true) :
  Triple Try.prog 14 (s14 f c q):=by
 refine triple_of Try.func14 rfl Try.call14 T0_ok _ rfl rfl rfl rfl (Nat.le_of_ble_eq_true (by kernel_rfl)) (fun _ _ _ _ h=>h) ?_
 intro hpre C hC _ hE
 obtain ⟨P,w0,E0,av,hA,ro,df⟩:=C
 obtain ⟨rfl,rfl,rfl⟩:=hC
 refine swp_seq ?_
 refine zR [1,3,5] [0,8] (Ak 3 tv) ?_
 refine swp_seq ?_
 refine swp_seq ?_
 refine zC ([(1,CallSpec.eq (s18 f) [true]),(6,CallSpec.eq (s69 f c) [true,true])]) [1,3,5,22] [0,8] (Ak 1 (An (An (An (zr (AV.agg (cFrm f))) tv) (An (t18 (f)) (An hpre (Ak 1 (fun (i0:Env)=>tv))))) (Ak 2 (An (fun (y1:(!!readyF f)=true)=>(An (Ak 1 tv) tv)) (An (fun (y2:(!!readyF f)=true)=>(An (Ak 1 tv) tv)) (An (fun (y3:(!!readyF f)=true)=>(An (Ak 1 (An (fun (y4:(!!readyF f)=true)=>y3) (An (fun (y5:(!!readyF f)=true)=>y3) tv))) (An (An (zr (AV.agg (cFrm f))) (An (zr (iv c)) tv)) (An (t69 (f) (c)) (An hpre (Ak 1 (fun (i6:Env)=>tv))))))) (An (fun (y7:(!!readyF f)=true)=>(An (An (fun (y8:(!!readyF f)=true)=>y7) tv) tv)) (An (An (fun (y9:(!readyF f)=true)=>tv) (fun (y10:(!readyF f)=false)=>(o0 hpre y10))) tv)))))))) ?_
 refine zI (bif !readyF f then true else !isCol f c) (fun y11 => ?_) (fun y11 => ?_)
 ·refine swp_seq ?_
  refine zC ([(0,CallSpec.eq s20 [])]) [6] [] (An (Ak 1 (An (t20) (Ak 2 (fun (i12:Env)=>tv)))) (Ak 1 tv)) ?_
  refine swp_ret ?_
  exact zT [] (An (Ak 1 tv) (An (An (zr (bv true)) (zr nilN)) (An (zr true) (An (zr true) (zr true)))))
 ·refine swp_skip ?_
  refine swp_seq ?_
  refine zC ([(3,CallSpec.eq (s70 f c q) [true,true,true])]) [1,3,5,7] [0,8,128] (Ak 3 (An (An (An (zr (AV.agg (cFrm f))) (An (zr (iv c)) (An (zr (AV.agg (cPiece q))) tv))) (An (t70 (f) (c) (q)) (An (An (o1 hpre y11) (An (o2 hpre y11) (o3 hpre y11))) (Ak 1 (fun (i13:Env)=>tv))))) (Ak 2 tv))) ?_
  refine swp_seq ?_
  refine zC ([(3,CallSpec.eq (s71 f c q) [true,true,true])]) [3,5,7,8,9] [0,8,128] (Ak 3 (An (An (An (zr (AV.agg (cFrm f))) (An (zr (iv c)) (An (zr (AV.agg (cPiece q))) tv))) (An (t71 (f) (c) (q)) (An (o4 hpre y11) (Ak 1 (fun (i14:Env)=>tv))))) (Ak 5 tv))) ?_
  refine swp_seq ?_
  refine swp_seq ?_
  refine zC ([(1,CallSpec.eq (s35 (putF f c.toNat q)) [true])]) [3,5,7,8,9,37] [0,8,128] (Ak 1 (An (An (An (zr (AV.agg (cFrm (putF f c.toNat q)))) tv) (An (t35 (putF f c.toNat q)) (An (o5 hpre y11) (Ak 1 (fun (i15:Env)=>tv))))) (Ak 1 tv))) ?_
  refine zI (!decide (checkF (putF f c.toNat q)=0)) (fun y16 => ?_) (fun y16 => ?_)
  ·refine swp_seq ?_
   refine zC ([(7,CallSpec.eq s20 [])]) [6] [] (Ak 3 (An (fun (y17:decide (takesE f c q=1)=true)=>(An (Ak 1 tv) tv)) (An (fun (y18:decide (takesE f c q=1)=true)=>(An (An (fun (y19:decide (takesE f c q=1)=true)=>y18) tv) tv)) (An (An (fun (y20:decide (takesE f c q=1)=true)=>y20) (fun (y21:decide (takesE f c q=1)=false)=>tv)) (Ak 1 (An (fun (y22:(bif decide (takesE f c q=1) then !takesB f c q else false)=true)=>(An (Ak 1 tv) (Ak 1 (An (t20) (Ak 2 (fun (i23:Env)=>tv)))))) (An (An (fun (y24:(bif decide (takesE f c q=1) then !takesB f c q else false)=true)=>y24) (fun (y25:(bif decide (takesE f c q=1) then !takesB f c q else false)=false)=>tv)) (Ak 1 tv)))))))) ?_
   refine swp_ret ?_
   exact zT [] (An (Ak 1 tv) (An (An (cb (o6 hpre y11 y16)) (zr nilN)) (An (zr true) (An (zr true) (zr true)))))
  ·refine swp_skip ?_
   refine swp_seq ?_
   refine zC ([(1,CallSpec.eq (s27 (putF f c.toNat q)) [true])]) [3,5,8,9,10,11] [0,8] (Ak 1 (An (An (An (zr (AV.agg (cFrm (putF f c.toNat q)))) tv) (An (t27 (putF f c.toNat q)) (An (o7 hpre y11 y16) (Ak 1 (fun (i26:Env)=>tv))))) (Ak 5 tv))) ?_
   refine swp_seq ?_
   refine zC ([(1,CallSpec.eq (s27 f) [true])]) [5,8,9,10,11,12,13] [8] (Ak 1 (An (An (An (zr (AV.agg (cFrm f))) tv) (An (t27 (f)) (An (o8 hpre y11 y16) (Ak 1 (fun (i27:Env)=>tv))))) (Ak 5 tv))) ?_
   refine swp_seq ?_
   refine swp_seq ?_
   refine zR [5,10,12,72] [8] (Ak 3 (An (fun (y28:(!!decide (takesE f c q=0))=true)=>(An (Ak 1 tv) tv)) (An (fun (y29:(!!decide (takesE f c q=0))=true)=>(An (An (fun (y30:(!!decide (takesE f c q=0))=true)=>y29) tv) tv)) (An (An (fun (y31:(!decide (takesE f c q=0))=true)=>tv) (fun (y32:(!decide (takesE f c q=0))=false)=>(o9 hpre y11 y16 y32))) (Ak 1 (An (fun (y33:(!bif !decide (takesE f c q=0) then true else false)=true)=>(An (Ak 1 tv) tv)) (An (fun (y34:(!bif !decide (takesE f c q=0) then true else false)=true)=>(An (An (fun (y35:(!bif !decide (takesE f c q=0) then true else false)=true)=>y34) tv) tv)) (An (An (fun (y36:(bif !decide (takesE f c q=0) then true else false)=true)=>tv) (fun (y37:(bif !decide (takesE f c q=0) then true else false)=false)=>(o10 hpre y11 y16 y37))) (Ak 1 (An (fun (y38:(!bif bif !decide (takesE f c q=0) then true else false then true else false)=true)=>(An (Ak 1 tv) tv)) (An (fun (y39:(!bif bif !decide (takesE f c q=0) then true else false then true else false)=true)=>(An (Ak 1 tv) tv)) (An (fun (y40:(!bif bif !decide (takesE f c q=0) then true else false then true else false)=true)=>(An (An (fun (y41:(!bif bif !decide (takesE f c q=0) then true else false then true else false)=true)=>y40) (Ak 1 tv)) tv)) (An (fun (y42:(!bif bif !decide (takesE f c q=0) then true else false then true else false)=true)=>(An (An (fun (y43:(!bif bif !decide (takesE f c q=0) then true else false then true else false)=true)=>y42) (An (fun (y44:(!bif bif !decide (takesE f c q=0) then true else false then true else false)=true)=>y42) tv)) tv)) (An (An (fun (y45:(bif bif !decide (takesE f c q=0) then true else false then true else false)=true)=>tv) (fun (y46:(bif bif !decide (takesE f c q=0) then true else false then true else false)=false)=>(o11 hpre y11 y16 y46))) tv)))))))))))))) ?_
   refine zI (bif bif bif !decide (takesE f c q=0) then true else false then true else false then true else !takesB f c q == decide (stripsV (putF f c.toNat q) < 100000)) (fun y47 => ?_) (fun y47 => ?_)
   ·refine swp_seq ?_
    refine zR [6] [] (Ak 1 tv) ?_
    refine swp_ret ?_
    exact zT [] (An (Ak 1 tv) (An (An (cb (o12 hpre y11 y16 y47)) (zr nilN)) (An (zr true) (An (zr true) (zr true)))))
   ·refine swp_skip ?_
    refine swp_seq ?_
    refine zC ([(10,CallSpec.eq s20 [])]) [6] [] (Ak 5 (An (fun (y48:(!decide (0 < q.hi))=true)=>(An (Ak 1 tv) tv)) (An (fun (y49:(!decide (0 < q.hi))=true)=>(An (Ak 1 tv) tv)) (An (fun (y50:(!decide (0 < q.hi))=true)=>(An (An (fun (y51:(!decide (0 < q.hi))=true)=>y50) (An (fun (y52:(!decide (0 < q.hi))=true)=>y50) tv)) tv)) (An (An (fun (y53:decide (0 < q.hi)=true)=>tv) (fun (y54:decide (0 < q.hi)=false)=>(o13 hpre y11 y16 y47 y54))) (Ak 1 (An (fun (y55:(bif decide (0 < q.hi) then true else decide (stripsV (putF f c.toNat q)=stripsV f))=true)=>(An (Ak 1 tv) (Ak 1 (An (t20) (Ak 2 (fun (i56:Env)=>tv)))))) (An (An (fun (y57:(bif decide (0 < q.hi) then true else decide (stripsV (putF f c.toNat q)=stripsV f))=true)=>y57) (fun (y58:(bif decide (0 < q.hi) then true else decide (stripsV (putF f c.toNat q)=stripsV f))=false)=>tv)) (Ak 1 tv))))))))) ?_
    refine swp_ret ?_
    exact zT [] (An (Ak 1 tv) (An (An (cb (o14 hpre y11 y16 y47)) (zr nilN)) (An (zr true) (An (zr true) (zr true)))))
theorem takes_is {f:Frm} {c:Int} {q:Piece} (g1:okFrm f=true) (h2:isCol f c=true) (e:okFrm (putF f c.toNat q)=true):takesB f c q=decide (stripsV (putF f c.toNat q) < 100000):=by
 have e3:takesB f c q=(wholeP (putF f c.toNat q) 0).isSome:=by unfold takesB takesG; rw [g1,h2,e]; rfl
 rw [e3,Bool.eq_iff_iff,decide_eq_true_eq]; exact (strips_lt (sound_of e)).symm
theorem t14 (f:Frm) (c:Int) (q:Piece):Triple Try.prog 14 (s14 f c q):=by
 apply w14
 all_goals (intro hp)
 all_goals (first | ((repeat intro _); rename_i h; rw [h]; rfl) | skip)
 all_goals (intro h; obtain ⟨h1,h2⟩:=nbor h; obtain ⟨g1,g2,g3⟩:=ready_ok h1; have hc:=isCol_get h2; have hn:c.toNat < f.columns.length:=by omega)
 case o1 | o4=>exact g3
 case o2=>exact hc.1
 case o3=>exact hc.2
 case o5=>exact small_fits (put_small g2 hn q)
 all_goals (intro hk)
 case o6 =>
  have e:=chk_bad hk
  have e1:takesE f c q=1:=by unfold takesE; rw [if_pos (by rw [g1,h2]; rfl),e]; rfl
  have e2:takesB f c q=false:=by unfold takesB takesG; rw [e,Bool.and_false,Bool.false_and]
  rw [e1,e2]; rfl
 all_goals (have e:=chk_ok hk)
 case o7=>exact e
 case o8=>exact g1
 all_goals (have e1:takesE f c q=0:=by (unfold takesE; rw [if_pos (by rw [g1,h2]; rfl),e]; rfl))
 all_goals (have e2:=takes_is g1 h2 e)
 all_goals (rw [e1,e2])
 case o12=>intro hh; simp at hh
 case o14 =>
  intro _
  by_cases hq:0 < q.hi
  ·rw [decide_eq_true hq]; rfl
  ·have:=put_strips g1 hn (q:=q) e hq
   have e5:stripsV (putF f c.toNat q)=stripsV f:=this
   rw [decide_eq_false hq,e5,decide_eq_true (show stripsV f=stripsV f from rfl)]; rfl
end Go.Ab
namespace Go.Ab
open Go Go.RowKit
def Dec (P:Program) (t:TypeId) {α:Type} (c:α->List AV) (ok:α->Prop):Prop :=
 ∀ {H:Type} (enc:TypeId × Value->H) (w:World) (E:Env) (fuel:Nat) (cs:List Value) (d:DataW H) (ps:List MemPlace),
  (∀ b,E.M b=w.heap[b]?)->DataW.trod enc P w 0 (fun _=>true) true fuel t cs=some (d,ps)->(∀ n ∈ d.weights P t,n<=reachBytes) -> ∃ a,ok a /\ ∀ o,RelL E o (c a) cs
theorem mcell_of {E:Env} {w:World} (h:∀ b,E.M b=w.heap[b]?) {a:Addr} {v:Value} (hc:w.cell? a=some v):a.spot=none/\mcell E.M a.block a.off=some v:=by
 refine ⟨World.cell?_spot hc,?_⟩
 have hs:=World.cell?_spot hc
 unfold World.cell? at hc
 unfold mcell
 rw [h]
 split at hc
 ·rename_i c t fr e
  rw [hs] at hc
  rw [e]
  simpa using hc
 ·cases hc
theorem lit_wf {n:Int} (h:(Lit.int .i64 n).wf=true) : -9223372036854775808<=n/\n<=9223372036854775807:=by
 simpa [Lit.wf,IntKind.min,IntKind.max,IntKind.signed,IntKind.bits] using h
theorem dec_int {P:Program} {t:TypeId} (ht:P.underlying t=some (.int .i64)):Dec P t (fun n=>[iv n]) (fun n => -9223372036854775808<=n/\n<=9223372036854775807):=by
 intro H enc w E fuel cs d ps _ h _
 obtain ⟨n,rfl,_,hw⟩:=DataW.trod_int ht h
 exact ⟨n,lit_wf hw,fun o => .cons (.lit _) rfl .nil⟩
theorem weightsAll_mem {H:Type} {P:Program} {e:TypeId}:∀ {l:List (DataW H)} {d:DataW H},d ∈ l -> ∀ n ∈ d.weights P e,n ∈ DataW.weightsAll P e l:=by
 intro l
 induction l with
 | nil=>intro d h; cases h
 | cons x l ih =>
  intro d h n hn
  rw [DataW.weightsAll,List.mem_append]
  rcases List.mem_cons.1 h with rfl | h
  ·exact .inl hn
  ·exact .inr (ih h n hn)
theorem dec_slice {P:Program} {t e:TypeId} {α:Type} [Inhabited α] {c:α->List AV} {ok:α->Prop} (ht:P.underlying t=some (.slice e)) {sz:Nat} (hsz:P.cellsOf e=sz) (hpos:0 < sz) (hby:0 < P.bytesOf e) (he:Dec P e c ok) :
  Dec P t (fun l:List α=>[.sl sz l.length (fun i=>c (l.getD i default))]) (fun l=>l.length<=140737488355328 /\ ∀ a,a ∈ l->ok a):=by
 intro H enc w E fuel cs d ps hE h hw
 rcases Deep.open_slice ht h with ⟨rfl,hx⟩ | ⟨a,len,cap,m,n,D,Pl,rfl,hb,hl,hm,hmm,hx,hall⟩
 ·refine ⟨[],⟨Nat.zero_le _,fun a ha=>by cases ha⟩,fun o => ?_⟩
  exact .cons (.slN _ _) rfl .nil
 ·simp only [if_true] at hmm
  subst hmm
  rw [hsz] at hall
  obtain ⟨rfl,rfl⟩:=Prod.mk.inj hx
  have hwt:∀ i,i < len -> ∀ k ∈ (D i).weights P e,k<=reachBytes:=by
   intro i hi k hk
   refine hw k ?_
   rw [DataW.weights,ht]
   refine List.mem_cons_of_mem _ (List.mem_append_left _ (weightsAll_mem (d:=D i) ?_ k hk))
   exact List.mem_map.2 ⟨i,List.mem_range.2 hi,rfl⟩
  have hlen:len<=140737488355328:=by
   have h1:(((List.range len).map D).length + ((List.range (m - len)).map fun j=>D (len + j)).length) * P.bytesOf e<=reachBytes:=by
    refine hw _ ?_
    rw [DataW.weights,ht]
    exact List.mem_cons_self ..
   simp only [List.length_map,List.length_range] at h1
   have h2:len<=(len + (m - len)) * P.bytesOf e:=Nat.le_trans (Nat.le_add_right _ _) (Nat.le_mul_of_pos_right _ hby)
   have h3:=reachBytes_lt
   omega
  obtain ⟨g,hg⟩:=Deep.choose_lt (α:=List Value) (p:=fun i cs'=>w.cells? 0 (a.add (i * sz)) sz=some cs'/\DataW.trod enc P w 0 (fun _=>true) true n e cs'=some (D i,Pl i)) hall
  have hdec:∀ i,i < len -> ∃ x,ok x /\ ∀ o,RelL E o (c x) (g i):=fun i hi=>he enc w E n (g i) (D i) (Pl i) hE (hg i (by omega)).2 (hwt i hi)
  obtain ⟨A,hA⟩:=Deep.choose_lt (α:=α) (p:=fun i x=>ok x /\ ∀ o,RelL E o (c x) (g i)) hdec
  refine ⟨(List.range len).map A,⟨by simpa using hlen,fun x hx => ?_⟩,fun o => .cons ?_ rfl .nil⟩
  ·obtain ⟨i,hi,rfl⟩:=List.mem_map.1 hx
   exact (hA i (List.mem_range.1 hi)).1
  ·rw [List.length_map,List.length_range]
   have hcell:∀ i k,i < m->k < sz -> ∃ v,(g i)[k]? = some v/\w.cell? ((a.add (i * sz)).add k)=some v:=by
    intro i k hi hk
    obtain ⟨_,hl1,hl2⟩:=World.cells?_some (hg i hi).1
    have:=hl2 k hk
    obtain ⟨v,hv⟩:∃ v,(g i)[k]? = some v:=⟨_,List.getElem?_eq_getElem (by omega)⟩
    exact ⟨v,hv,by rw [this,hv]⟩
   by_cases h0:m=0
   ·subst h0
    obtain rfl:len=0:=by omega
    exact .slZ _ _ _
   ·obtain ⟨v,_,hv⟩:=hcell 0 0 (by omega) hpos
    have hsp:=(mcell_of hE hv).1
    obtain ⟨b,off,spot⟩:=a
    obtain rfl:spot=none:=by simpa [Addr.add] using hsp
    refine .slA sz len _ b off m g hl hm (fun i hi => ?_) (fun i k hi hk => ?_) (fun i hi => ?_)
    ·exact (World.cells?_some (hg i (by omega)).1).2.1
    ·obtain ⟨v,hv1,hv2⟩:=hcell i k (by omega) hk
     rw [hv1]
     have:=(mcell_of hE hv2).2
     rw [addr_add,addr_add] at this
     exact this
    ·have:((List.range len).map A).getD i default=A i:=by
      rw [List.getD_eq_getElem?_getD,List.getElem?_map,List.getElem?_range hi]; rfl
     rw [this]
     exact (hA i hi).2 false
def DecFs (P:Program) (off fin:Nat) (fs:List Field) {α:Type} (c:α->List AV) (ok:α->Prop):Prop :=
 ∀ {H:Type} (enc:TypeId × Value->H) (w:World) (E:Env) (n:Nat) (cs:List Value) (xs:List (DataW H × List MemPlace)),
  (∀ b,E.M b=w.heap[b]?)->cs.length=fin->xs.length=fs.length->(∀ (i:Nat) (f:Field),fs[i]? = some f->DataW.trod enc P w 0 (fun _=>true) true n f.type ((cs.drop f.offset).take (P.cellsOf f.type))=xs[i]?) →
  (∀ k ∈ DataW.weightsEach P (fs.map (·.type)) (xs.map (·.1)),k<=reachBytes) -> ∃ a,ok a /\ ∀ o,RelL E o (c a) (cs.drop off)
theorem decFs_nil {P:Program} {fin:Nat}:DecFs P fin fin [] (fun _:Unit=>[]) (fun _=>True):=by
 intro H enc w E n cs xs _ hl _ _ _
 refine ⟨(),trivial,fun o => ?_⟩
 rw [List.drop_of_length_le (by omega)]
 exact .nil
theorem decFs_cons {P:Program} {off mid fin:Nat} {f:Field} {fs:List Field} {α β:Type} {c1:α->List AV} {ok1:α->Prop} {c2:β->List AV} {ok2:β->Prop} {t:TypeId} (hft:f.type=t) (ho:f.offset=off) (hm:off + P.cellsOf t=mid)
  (h1:Dec P t c1 ok1) (h2:DecFs P mid fin fs c2 ok2):DecFs P off fin (f :: fs) (fun p:α × β=>c1 p.1 ++ c2 p.2) (fun p=>ok1 p.1/\ok2 p.2):=by
 intro H enc w E n cs xs hE hl hx hall hw
 subst hft; subst ho; subst hm
 cases xs with
 | nil=>simp at hx
 | cons x xs =>
  have h0:=hall 0 f rfl
  simp only [List.getElem?_cons_zero] at h0
  obtain ⟨a,ha,hra⟩:=h1 enc w E n _ x.1 x.2 hE h0 (fun k hk=>hw k (by
   simp only [List.map_cons,DataW.weightsEach]
   exact List.mem_append_left _ hk))
  obtain ⟨b,hb,hrb⟩:=h2 enc w E n cs xs hE hl (by simpa using hx) (fun i g hg=>by
   have:=hall (i + 1) g (by simpa using hg)
   simpa using this) (fun k hk=>hw k (by
   simp only [List.map_cons,DataW.weightsEach]
   exact List.mem_append_right _ hk))
  refine ⟨(a,b),⟨ha,hb⟩,fun o => ?_⟩
  have:=(hra o).append (hrb o)
  rw [← List.drop_drop,List.take_append_drop] at this
  exact this
theorem dec_struct {P:Program} {t:TypeId} {fs:Array Field} {sz:Nat} {α:Type} {c:α->List AV} {ok:α->Prop} (ht:P.underlying t=some (.struct fs)) (hsz:P.cellsOf t=sz) (h:DecFs P 0 sz fs.toList c ok):Dec P t c ok:=by
 intro H enc w E fuel cs d ps hE hd hw
 obtain ⟨xs,n,_,hx,hl,hxl,hall⟩:=DataW.trod_struct ht hd
 obtain ⟨rfl,rfl⟩:=Prod.mk.inj hx
 obtain ⟨a,ha,hr⟩:=h enc w E n cs xs hE (by omega) (by simpa using hxl) (fun i f hf=>hall i f (by simpa using hf)) (fun k hk=>hw k (by rw [DataW.weights,ht]; exact hk))
 exact ⟨a,ha,fun o=>by simpa using hr o⟩
theorem Dec.map {P:Program} {t:TypeId} {α β:Type} {c:α->List AV} {ok:α->Prop} {c':β->List AV} {ok':β->Prop} (h:Dec P t c ok) (g:α->β) (hc:∀ a,ok a->c' (g a)=c a) (hok:∀ a,ok a->ok' (g a)):Dec P t c' ok':=by
 intro H enc w E fuel cs d ps hE hd hw
 obtain ⟨a,ha,hr⟩:=h enc w E fuel cs d ps hE hd hw
 exact ⟨g a,hok a ha,fun o=>by rw [hc a ha]; exact hr o⟩
theorem Dec.arg {P:Program} {t:TypeId} {α:Type} {c:α->List AV} {ok:α->Prop} (h:Dec P t c ok) {H:Type} {enc:TypeId × Value->H} {w:World} {E:Env} (hE:∀ b,E.M b=w.heap[b]?) {v:Value} {d:DataW H} {ps:List MemPlace}
  (hd:DataW.Trod enc P w 0 (fun _=>true) true t v d ps) (hw:∀ n ∈ d.weights P t,n<=reachBytes):∃ a,ok a /\ ∀ o,RelL E o (c a) v.cells.toList:=by
 obtain ⟨fuel,hf⟩:=hd
 exact h enc w E fuel _ d ps hE hf hw
def envOf (w:World):Env:={ M:=fun b=>w.heap[b]?,blk:=fun _=>none,hdr:=fun _=>none,fns:=fun _ _=>False }
theorem heapOK_of (P:Program) (w:World):HeapOK (calleeCtx P (envOf w) w []) (envOf w) (Heap.of []) w where
 os:=rfl
 tape:=rfl
 output:=rfl
 size:=Nat.le_refl _
 pres:=fun _ _=>rfl
 mem:=fun _ _ h=>h
 le:=Env.le.refl _
 ext:=fun _ _ h => .inl h
 own:=fun id ob h=>by cases h
 sep:=fun i j k _ h=>absurd rfl h
theorem trodAll_below {H:Type} {enc:TypeId × Value->H} {P:Program} (hl:laidOutB P=true) {W W':World} (hb:Below W.heap.size W W'):∀ {ts:List TypeId} {vs:List Value} {ds:List (DataW H)} {ps:List MemPlace},
  (∀ t ∈ ts,P.readableRec t=true/\t < P.types.size)->DataW.TrodAll enc P W 0 (fun _=>true) true ts vs ds ps->(∀ x ∈ ps,x.block < W.heap.size) →
  DataW.TrodAll enc P W' 0 (fun b=>decide (b < W.heap.size)) true ts vs ds ps:=by
 intro ts
 induction ts with
 | nil =>
  intro vs ds ps _ h _
  obtain ⟨rfl,rfl,rfl⟩:=ChangeShapes.trodAll_nil h
  exact ChangeShapes.trodAll_mk0
 | cons t ts ih =>
  intro vs ds ps hr h hlt
  obtain ⟨v,vs',d,ds',p,q,rfl,rfl,rfl,hd,hrest⟩:=ChangeShapes.trodAll_cons h
  obtain ⟨h1,h2⟩:=hr t (List.mem_cons_self ..)
  exact ⟨p,q,Below.trod hl h1 h2 hd hb (fun x hx=>hlt x (List.mem_append_left _ hx)),ih (fun t ht=>hr t (List.mem_cons_of_mem _ ht)) hrest (fun x hx=>hlt x (List.mem_append_right _ hx)),rfl⟩
theorem law_contract {P:Program} (hl:laidOutB P=true) {f:FuncId} {fn:Func} {s:ChangeSpec} (hvars:s.vars = []) {tb:TypeId} (hres:fn.resultTypes = #[tb]) (htb:P.underlying tb=some .bool)
  (hread:∀ t ∈ fn.params.toList,P.readableRec t=true/\t < P.types.size)
  {H:Type} {enc:TypeId × Value->H} {W:World} {args:Array Value} {ds gs:List (DataW H)} {before:List MemPlace}
  (hfn:ds.length=fn.params.size->s.fn H ds = { results:=[.lit (.bool true)],args:=ds })
  (hW:DataW.Whole enc P fn.params.toList s.vars false W args.toList ds gs before) {sp:CallSpec} (ht:Triple P f sp) (hp:sp.pre) (hfo:∀ E,sp.fnok E) (hin:sp.hin = []) (hout:sp.hout = []) (hr:sp.res=bv true)
  (hla:args.toList.length=sp.args.length) (hra:∀ k,Rel (envOf W) true (sp.args.getD k .any) (args.toList.getD k undef)) :
  Calls P f args W fun e W' => ∃ v,e = .returned v/\s.post enc P fn false true false false W args v W':=by
 have hok:=heapOK_of P W
 have h:=ht.2 hp (envOf W) W args.toList (hfo _) (by rw [hin]; exact hok) hla hra
 refine (h (by rw [hout]; intro p hp; cases hp)).mono fun e W' hpost => ?_
 obtain ⟨v,E',he,hh,hv,_⟩:=hpost
 rw [hr] at hv
 have hvt:v = .bool true:=by cases hv; rfl
 subst hvt
 have hb:Below W.heap.size W W':=⟨hh.os,hh.tape,hh.output,hh.size,fun k hk=>hh.pres k (by
  rintro (hc | ⟨q,hq,_⟩)
  ·exact absurd hk (Nat.not_lt.2 hc)
  ·rw [hin] at hq; cases hq)⟩
 refine ⟨_,he,?_⟩
 have hW':=hW
 obtain ⟨p,q,hA,hV,rfl,hz,hnd⟩:=hW
 rw [hvars] at hV
 obtain ⟨rfl,rfl⟩:=ChangeShapes.trodVars_none hV
 have hlen:ds.length=fn.params.size:=by
  have:∀ {ts:List TypeId} {vs:List Value} {ds:List (DataW H)} {ps:List MemPlace},DataW.TrodAll enc P W 0 (fun _=>true) true ts vs ds ps->ds.length=ts.length:=by
   intro ts
   induction ts with
   | nil=>intro vs ds ps h; obtain ⟨_,rfl,_⟩:=ChangeShapes.trodAll_nil h; rfl
   | cons t ts ih=>intro vs ds ps h; obtain ⟨_,_,_,_,_,_,rfl,rfl,rfl,_,hr⟩:=ChangeShapes.trodAll_cons h; simp [ih hr]
  simpa using this hA
 refine ⟨ds,[],p ++ [],[],p,[],hW',?_,?_,?_,hb.frame _,fun h=>by cases h⟩
 ·rw [List.append_nil,hfn hlen,hres]
  exact ChangeShapes.trodAll_mk1 (shut_bool htb true)
 ·rw [List.append_nil,hfn hlen]
  exact trodAll_below hl hb hread hA (fun x hx=>hW'.lt x (List.mem_append_left _ hx))
 ·rw [List.append_nil,hfn hlen,hvars]
  rfl
end Go.Ab
namespace Go.Ab
open Go Go.RowKit Go.Proofs Go.Sh Go.En
theorem dInt:Dec Try.prog 3 (fun n=>[iv n]) (fun n => -9223372036854775808<=n/\n<=9223372036854775807):=dec_int Try.underlying3
theorem dInts:Dec Try.prog 27 (fun l:List Int=>[aInts l]) (fun l=>l.length<=140737488355328) :=
 Dec.map (dec_slice (α:=Int) Try.underlying27 (by kernel_rfl) (by decide) (Nat.lt_of_lt_of_eq (by decide:0 < 8) (by kernel_rfl)) dInt) id (fun _ _=>rfl) (fun _ h=>h.1)
set_option maxRecDepth 100000
theorem laidOut:laidOutB Try.prog=true:=by kernel_rfl
section
variable {H:Type} {enc:TypeId × Value->H} {W:World} {base:Nat} {v:Value} {d:DataW H} {ps:List MemPlace}
theorem arg_struct {t:TypeId} {fs:Array Field} {α:Type} {c:α->List AV} {ok:α->Prop} (ht:Try.prog.underlying t=some (.struct fs)) (hD:Dec Try.prog t c ok) (hval:Value.okWide Try.prog W .any base t v) (hd:DataW.Trod enc Try.prog W 0 (fun _=>true) true t v d ps) (hw:∀ n ∈ d.weights Try.prog t,n<=reachBytes) :
  ∃ a,ok a/\Rel (envOf W) true (.agg (c a)) v:=by
 unfold Value.okWide at hval
 rw [ht] at hval
 obtain ⟨cs,rfl,_⟩:=hval
 obtain ⟨a,ha,hr⟩:=hD.arg (E:=envOf W) (fun _=>rfl) hd hw
 refine ⟨a,ha,?_⟩
 have h:=Rel.agg (hr true)
 simpa [Value.cells] using h
theorem arg_int (hval:Value.okWide Try.prog W .any base 3 v) (hd:DataW.Trod enc Try.prog W 0 (fun _=>true) true 3 v d ps):∃ n:Int,(-9223372036854775808<=n/\n<=9223372036854775807)/\Rel (envOf W) true (iv n) v:=by
 obtain ⟨n,rfl,_,_,hw⟩:=ChangeShapes.open_int Try.underlying3 hval hd
 exact ⟨n,lit_wf hw,.lit _⟩
end
theorem weights_part {H:Type} {ts:List TypeId} {ds:List (DataW H)} (h:(DataW.weightsEach Try.prog ts ds).all (· <= reachBytes)=true) {j:Nat} {t:TypeId} {d:DataW H} (ht:ts[j]? = some t) (hd:ds[j]? = some d):∀ n ∈ d.weights Try.prog t,n<=reachBytes:=by
 intro n hn
 have:=List.all_eq_true.1 h _ (DataW.weights_mem_each ht hd n hn)
 simpa using this
def ArgD (t:TypeId) (α:Type) (c:α->AV) (ok:α->Prop):Prop :=
 (Try.prog.readableRec t=true/\t < Try.prog.types.size) /\ ∀ {H:Type} {enc:TypeId × Value->H} {W:World} {base:Nat} {v:Value} {d:DataW H} {ps:List MemPlace},Value.okWide Try.prog W .any base t v->DataW.Trod enc Try.prog W 0 (fun _=>true) true t v d ps->(∀ n ∈ d.weights Try.prog t,n<=reachBytes) -> ∃ a,ok a/\Rel (envOf W) true (c a) v
abbrev i64 (n:Int):Prop := -9223372036854775808<=n/\n<=9223372036854775807
theorem argInt:ArgD 3 Int iv i64:=⟨⟨by kernel_rfl,of_decide_eq_true (by kernel_rfl)⟩,fun hv hd _=>arg_int hv hd⟩
theorem argStruct {t:TypeId} {fs:Array Field} {α:Type} {c:α->List AV} {ok:α->Prop} (ht:Try.prog.underlying t=some (.struct fs)) (hr:Try.prog.readableRec t=true/\t < Try.prog.types.size) (hD:Dec Try.prog t c ok):ArgD t α (fun a => .agg (c a)) ok:=⟨hr,fun hv hd hw=>arg_struct ht hD hv hd hw⟩
theorem law_three {f:FuncId} {fn:Func} {s:ChangeSpec} {t1 t2 t3:TypeId} {α β γ:Type} {c1:α->AV} {c2:β->AV} {c3:γ->AV} {ok1:α->Prop} {ok2:β->Prop} {ok3:γ->Prop} (h1:ArgD t1 α c1 ok1) (h2:ArgD t2 β c2 ok2) (h3:ArgD t3 γ c3 ok3)
  (hps:fn.params = #[t1,t2,t3]) (hres:fn.resultTypes = #[4]) (hvars:s.vars = []) (hfn:∀ (H:Type) (d1 d2 d3:DataW H),s.fn H [d1,d2,d3] = { results:=[.lit (.bool true)],args:=[d1,d2,d3] })
  (sp:α->β->γ->CallSpec) (ht:∀ r a b,Triple Try.prog f (sp r a b)) (hargs:∀ r a b,(sp r a b).args = [c1 r,c2 a,c3 b]) (hpre:∀ r a b,ok1 r->ok2 a->ok3 b->(sp r a b).pre)
  (hfo:∀ r a b E,(sp r a b).fnok E) (hin:∀ r a b,(sp r a b).hin = []) (hout:∀ r a b,(sp r a b).hout = []) (hr:∀ r a b,(sp r a b).res=bv true)
  {H:Type} {enc:TypeId × Value->H} {W:World} {base:Nat} {args:Array Value} {ds gs:List (DataW H)} {before:List MemPlace}
  (hval:∀ (j:Nat) t v,fn.params[j]? = some t->args[j]? = some v->Value.okWide Try.prog W .any base t v) (hW:DataW.Whole enc Try.prog fn.params.toList s.vars false W args.toList ds gs before)
  (hsz:(DataW.weightsEach Try.prog (fn.params.toList ++ s.plain.varTypes Try.prog) (ds ++ gs)).all (· <= reachBytes)=true) :
  Calls Try.prog f args W fun e W' => ∃ v,e = .returned v/\s.post enc Try.prog fn false true false false W args v W':=by
 have hW':=hW
 obtain ⟨p,q,hA,_,_,_,_⟩:=hW
 rw [hps] at hA hval hsz
 obtain ⟨v0,v1,v2,d0,d1,d2,p0,p1,p2,rfl,rfl,rfl,g0,g1,g2⟩:=ChangeShapes.trodAll_three hA
 obtain ⟨r,hr0,r0⟩:=h1.2 (hval 0 t1 v0 rfl rfl) g0 (weights_part hsz (j:=0) rfl rfl)
 obtain ⟨a,ha,r1⟩:=h2.2 (hval 1 t2 v1 rfl rfl) g1 (weights_part hsz (j:=1) rfl rfl)
 obtain ⟨b,hb,r2⟩:=h3.2 (hval 2 t3 v2 rfl rfl) g2 (weights_part hsz (j:=2) rfl rfl)
 refine law_contract laidOut hvars hres Try.underlying4 (fun t htt => ?_) (fun _=>hfn H d0 d1 d2) hW' (ht r a b) (hpre r a b hr0 ha hb) (hfo r a b) (hin r a b) (hout r a b) (hr r a b) (by rw [hargs]; rfl) (fun k => ?_)
 ·rw [hps] at htt
  have:t=t1 ∨ t=t2 ∨ t=t3:=by simpa using htt
  rcases this with rfl | rfl | rfl
  ·exact h1.1
  ·exact h2.1
  ·exact h3.1
 ·rw [hargs]
  rcases k with _ | _ | _ | k
  ·exact r0
  ·exact r1
  ·exact r2
  ·exact .any _
end Go.Ab
namespace Go.Ab
open Go Go.RowKit Go.Proofs Go.Sh Go.En
set_option maxRecDepth 100000
theorem dSpan:Dec Try.prog 36 cSpan (fun _=>True) :=
 Dec.map (dec_struct Try.underlying36 (sz:=2) (by kernel_rfl) (decFs_cons (mid:=1) rfl rfl (by kernel_rfl) dInt (decFs_cons (mid:=2) rfl rfl (by kernel_rfl) dInt decFs_nil))) (fun p=>(⟨p.1,p.2.1⟩:Span)) (fun _ _=>rfl) (fun _ _=>trivial)
theorem dStrip:Dec Try.prog 65 cStrip (fun _=>True) :=
 Dec.map (dec_struct Try.underlying65 (sz:=2) (by kernel_rfl) (decFs_cons (mid:=1) rfl rfl (by kernel_rfl) dInt (decFs_cons (mid:=2) rfl rfl (by kernel_rfl) dInt decFs_nil))) (fun p=>(⟨p.1,p.2.1⟩:Strip)) (fun _ _=>rfl) (fun _ _=>trivial)
theorem dPiece:Dec Try.prog 46 cPiece (fun _=>True) :=
 Dec.map (dec_struct Try.underlying46 (sz:=3) (by kernel_rfl) (decFs_cons (mid:=2) rfl rfl (by kernel_rfl) dSpan (decFs_cons (mid:=3) rfl rfl (by kernel_rfl) dInt decFs_nil))) (fun p=>(⟨p.1.lo,p.1.hi,p.2.1⟩:Piece)) (fun _ _=>rfl) (fun _ _=>trivial)
theorem dStrips:Dec Try.prog 22 (fun l:List Strip=>[.sl 2 l.length (fun i=>cStrip (l.getD i default))]) (fun l=>l.length<=140737488355328 /\ ∀ m,m ∈ l->True) :=
 dec_slice (α:=Strip) Try.underlying22 (by kernel_rfl) (by decide) (Nat.lt_of_lt_of_eq (by decide:0 < 16) (by kernel_rfl)) dStrip
theorem dPieces:Dec Try.prog 23 (fun l:List Piece=>[.sl 3 l.length (fun i=>cPiece (l.getD i default))]) (fun l=>l.length<=140737488355328 /\ ∀ m,m ∈ l->True) :=
 dec_slice (α:=Piece) Try.underlying23 (by kernel_rfl) (by decide) (Nat.lt_of_lt_of_eq (by decide:0 < 24) (by kernel_rfl)) dPiece
theorem dIntss:Dec Try.prog 24 (fun l:List (List Int)=>[aIntss l]) (fun l=>l.length<=140737488355328 /\ ∀ m,m ∈ l->m.length<=140737488355328) :=
 dec_slice (α:=List Int) Try.underlying24 (by kernel_rfl) (by decide) (Nat.lt_of_lt_of_eq (by decide:0 < 24) (by kernel_rfl)) dInts
theorem dFrm:Dec Try.prog 26 cFrm fitsF:=by
 refine Dec.map (dec_struct Try.underlying26 (sz:=5) (by kernel_rfl) (decFs_cons (mid:=1) rfl rfl (by kernel_rfl) dInt (decFs_cons (mid:=2) rfl rfl (by kernel_rfl) dInt (decFs_cons (mid:=3) rfl rfl (by kernel_rfl) dStrips (decFs_cons (mid:=4) rfl rfl (by kernel_rfl) dPieces (decFs_cons (mid:=5) rfl rfl (by kernel_rfl) dIntss decFs_nil)))))) (fun p=>(⟨p.1,p.2.1,p.2.2.1,p.2.2.2.1,p.2.2.2.2.1⟩:Frm)) (fun _ _=>rfl) (fun p h => ?_)
 obtain ⟨_,_,⟨h1,_⟩,⟨h2,_⟩,⟨h3,h4⟩,_⟩:=h
 refine ⟨Nat.le_trans h1 (by decide),Nat.le_trans h2 (by decide),Nat.le_trans h3 (by decide),fun i => ?_⟩
 show (p.2.2.2.2.1.getD i []).length<=_
 by_cases hi:i < p.2.2.2.2.1.length
 ·exact Nat.le_trans (h4 _ (getD_mem _ [] hi)) (by decide)
 ·rw [getD_ge _ _ (by omega)]; exact Nat.zero_le _
theorem argFrm:ArgD 26 Frm (fun f=>vFrm f) fitsF:=argStruct Try.underlying26 ⟨by kernel_rfl,of_decide_eq_true (by kernel_rfl)⟩ dFrm
theorem argPiece:ArgD 46 Piece (fun q => .agg (cPiece q)) (fun _=>True):=argStruct Try.underlying46 ⟨by kernel_rfl,of_decide_eq_true (by kernel_rfl)⟩ dPiece
end Go.Ab
namespace Go.Proofs.Ytpnmalddfpjcoaa
open Go Go.Ab Go.Sh Go.En Go.RowKit
set_option maxRecDepth 100000
theorem own:ownKnob Try.prog.godebug=none:=by kernel_rfl
def nilArgs:Array Value := #[.agg #[.int .i64 0,.int .i64 0,.slice none 0 0,.slice none 0 0,.slice none 0 0],.int .i64 0,.agg #[.int .i64 0,.int .i64 0,.int .i64 0]]
theorem lifted (os:Os) (started:os.Started) (H:Type) (enc:TypeId × Value->H) :
  ReturnsInHanded {} Try.checked os 14 .any (Rows.pagesTakenSpec.pre6 enc Try.prog Try.f14 Rows.pagesTakenRow.domain false) (Rows.pagesTakenSpec.post enc Try.prog Try.f14 false true false false):=by
 refine returnsInHanded_of_change_sized (C:=Try.checked) own started (by kernel_rfl) Try.func14
  (ChangeSpec.witness6 (enc:=enc) (C:=Try.checked) false ⟨#[],nilArgs,[]⟩ 8 (by kernel_rfl) (by kernel_rfl) (by kernel_rfl) (by kernel_rfl)) ?_
 intro W base args ds gs before hval hW _ hsz _
 exact law_three argFrm argInt argPiece rfl rfl rfl (fun _ _ _ _=>rfl) s14 t14 (fun _ _ _=>rfl) (fun _ _ _ h0 h1 h2=>h0) (fun _ _ _ _=>trivial) (fun _ _ _=>rfl) (fun _ _ _=>rfl) (fun _ _ _=>rfl) hval hW hsz
theorem proved:Rows.PagesTakenSaid :=
 OpenClaim.holds_of_wide 14 Try.f14 rfl rfl rfl rfl rfl rfl rfl ⟨rfl,rfl,rfl,rfl,rfl⟩ rfl rfl rfl rfl rfl (by kernel_rfl) Try.func14 (by kernel_rfl)
  (of_decide_eq_true (by kernel_rfl)) (by unfold Func.isWrapper; first | (rw [if_pos (by decide +kernel)]; kernel_rfl) | (rw [if_neg (by decide +kernel)]; exact ⟨rfl,rfl⟩))
  (fun os started H enc _=>lifted os started H enc)
end Go.Proofs.Ytpnmalddfpjcoaa
