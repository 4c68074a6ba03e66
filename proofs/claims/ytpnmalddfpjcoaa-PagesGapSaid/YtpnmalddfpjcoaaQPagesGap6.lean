/- PagesGap returns true for every input, and leaves what it was handed as it was. No condition. -/
import Derived.Test.YtpnmalddfpjcoaaQPagesGap5
import Derived.Deep.Slices
import Derived.ChangeShapes
import Derived.Carry
import Derived.OpenShut
import Derived.SizedLaws
import Derived.Test.YtpnmalddfpjcoaaRows
import Derived.ProofKit
import Derived.JoinedOf
set_option linter.all false
set_option linter.deprecated false
namespace Go.Ab
open Go Go.RowKit Go.Proofs Go.Sh Go.En
theorem w134 (left:List Int) (first:List Int)
  (o0:(List.length first<=List.length left/\List.length left<=3 /\ ∀ (q:Nat),q < List.length left->0<=List.getD left q 0/\List.getD left q 0<=4)->decide ((↑(List.length first):Int)=(↑(List.length left):Int))=true->1=List.length (setsFrom left first))
  (o1:(List.length first<=List.length left/\List.length left<=3 /\ ∀ (q:Nat),q < List.length left->0<=List.getD left q 0/\List.getD left q 0<=4)->decide ((↑(List.length first):Int)=(↑(List.length left):Int))=true -> ∀ (i1:Nat),i1 < List.length (setsFrom left first)->List.getD [[AV.sl 1 (List.length first) fun (i:Nat)=>[iv (List.getD first i 0)]]] i1 (TI.za ti27) = [aInts (List.getD (setsFrom left first) i1 [])])
  (o2:(List.length first<=List.length left/\List.length left<=3 /\ ∀ (q:Nat),q < List.length left->0<=List.getD left q 0/\List.getD left q 0<=4)->decide ((↑(List.length first):Int)=(↑(List.length left):Int))=false->0=(↑0:Int))
  (o3:(List.length first<=List.length left/\List.length left<=3 /\ ∀ (q:Nat),q < List.length left->0<=List.getD left q 0/\List.getD left q 0<=4)->decide ((↑(List.length first):Int)=(↑(List.length left):Int))=false->List.length (setsTo left first 0)=0)
  (o4:(List.length first<=List.length left/\List.length left<=3 /\ ∀ (q:Nat),q < List.length left->0<=List.getD left q 0/\List.getD left q 0<=4)->decide ((↑(List.length first):Int)=(↑(List.length left):Int))=false->0<=Int.toNat (List.getD left (List.length first) 0) + 1)
  (o5:(List.length first<=List.length left/\List.length left<=3 /\ ∀ (q:Nat),q < List.length left->0<=List.getD left q 0/\List.getD left q 0<=4)->decide ((↑(List.length first):Int)=(↑(List.length left):Int))=false -> ∀ (x3:Nat),x3<=Int.toNat (List.getD left (List.length first) 0) + 1->0<=(↑(List.length first):Int))
  (o6:(List.length first<=List.length left/\List.length left<=3 /\ ∀ (q:Nat),q < List.length left->0<=List.getD left q 0/\List.getD left q 0<=4)->decide ((↑(List.length first):Int)=(↑(List.length left):Int))=false -> ∀ (x3:Nat),x3<=Int.toNat (List.getD left (List.length first) 0) + 1->(↑(List.length first):Int) < (↑(List.length left):Int))
  (o7:(List.length first<=List.length left/\List.length left<=3 /\ ∀ (q:Nat),q < List.length left->0<=List.getD left q 0/\List.getD left q 0<=4)->decide ((↑(List.length first):Int)=(↑(List.length left):Int))=false -> ∀ (x3:Nat),x3<=Int.toNat (List.getD left (List.length first) 0) + 1->decide ((↑x3:Int)<=List.getD left (List.length first) 0)=true->0 + List.length first<=65536)
  (o8:(List.length first<=List.length left/\List.length left<=3 /\ ∀ (q:Nat),q < List.length left->0<=List.getD left q 0/\List.getD left q 0<=4)->decide ((↑(List.length first):Int)=(↑(List.length left):Int))=false -> ∀ (x3:Nat),x3<=Int.toNat (List.getD left (List.length first) 0) + 1->decide ((↑x3:Int)<=List.getD left (List.length first) 0)=true->0 + List.length first + 1<=65536)
  (o9:(List.length first<=List.length left/\List.length left<=3 /\ ∀ (q:Nat),q < List.length left->0<=List.getD left q 0/\List.getD left q 0<=4)->decide ((↑(List.length first):Int)=(↑(List.length left):Int))=false -> ∀ (x3:Nat),x3<=Int.toNat (List.getD left (List.length first) 0) + 1->decide ((↑x3:Int)<=List.getD left (List.length first) 0)=true->0 + List.length first + 1=List.length (first ++ [(↑x3:Int)]))
  (o10:(List.length first<=List.length left/\List.length left<=3 /\ ∀ (q:Nat),q < List.length left->0<=List.getD left q 0/\List.getD left q 0<=4)->decide ((↑(List.length first):Int)=(↑(List.length left):Int))=false -> ∀ (x3:Nat),x3<=Int.toNat (List.getD left (List.length first) 0) + 1->decide ((↑x3:Int)<=List.getD left (List.length first) 0)=true -> ∀ (i5:Nat),i5 < List.length (first ++ [(↑x3:Int)])->catF (0 + List.length first) (fun (i:Nat)=>[iv (List.getD first i 0)]) (fun (j:Nat)=>List.getD [[iv (↑x3:Int)]] j (TI.za ti3)) i5 = [iv (List.getD (first ++ [(↑x3:Int)]) i5 0)])
  (o11:(List.length first<=List.length left/\List.length left<=3 /\ ∀ (q:Nat),q < List.length left->0<=List.getD left q 0/\List.getD left q 0<=4)->decide ((↑(List.length first):Int)=(↑(List.length left):Int))=false -> ∀ (x3:Nat),x3<=Int.toNat (List.getD left (List.length first) 0) + 1->decide ((↑x3:Int)<=List.getD left (List.length first) 0)=true->Triple Try.prog 134 (c134 left first x3))
  (o12:(List.length first<=List.length left/\List.length left<=3 /\ ∀ (q:Nat),q < List.length left->0<=List.getD left q 0/\List.getD left q 0<=4)->decide ((↑(List.length first):Int)=(↑(List.length left):Int))=false -> ∀ (x3:Nat),x3<=Int.toNat (List.getD left (List.length first) 0) + 1->decide ((↑x3:Int)<=List.getD left (List.length first) 0)=true->List.length (first ++ [(↑x3:Int)])<=List.length left)
  (o13:(List.length first<=List.length left/\List.length left<=3 /\ ∀ (q:Nat),q < List.length left->0<=List.getD left q 0/\List.getD left q 0<=4)->decide ((↑(List.length first):Int)=(↑(List.length left):Int))=false -> ∀ (x3:Nat),x3<=Int.toNat (List.getD left (List.length first) 0) + 1->decide ((↑x3:Int)<=List.getD left (List.length first) 0)=true->List.length left<=3)
  (o14:(List.length first<=List.length left/\List.length left<=3 /\ ∀ (q:Nat),q < List.length left->0<=List.getD left q 0/\List.getD left q 0<=4)->decide ((↑(List.length first):Int)=(↑(List.length left):Int))=false -> ∀ (x3:Nat),x3<=Int.toNat (List.getD left (List.length first) 0) + 1->decide ((↑x3:Int)<=List.getD left (List.length first) 0)=true -> ∀ (i7:Nat),i7 < List.length left->0<=List.getD left i7 0)
  (o15:(List.length first<=List.length left/\List.length left<=3 /\ ∀ (q:Nat),q < List.length left->0<=List.getD left q 0/\List.getD left q 0<=4)->decide ((↑(List.length first):Int)=(↑(List.length left):Int))=false -> ∀ (x3:Nat),x3<=Int.toNat (List.getD left (List.length first) 0) + 1->decide ((↑x3:Int)<=List.getD left (List.length first) 0)=true -> ∀ (i7:Nat),i7 < List.length left->List.getD left i7 0<=4)
  (o16:(List.length first<=List.length left/\List.length left<=3 /\ ∀ (q:Nat),q < List.length left->0<=List.getD left q 0/\List.getD left q 0<=4)->decide ((↑(List.length first):Int)=(↑(List.length left):Int))=false -> ∀ (x3:Nat),x3<=Int.toNat (List.getD left (List.length first) 0) + 1->decide ((↑x3:Int)<=List.getD left (List.length first) 0)=true->List.length (setsTo left first x3) + List.length (setsFrom left (first ++ [(↑x3:Int)]))<=65536)
  (o17:(List.length first<=List.length left/\List.length left<=3 /\ ∀ (q:Nat),q < List.length left->0<=List.getD left q 0/\List.getD left q 0<=4)->decide ((↑(List.length first):Int)=(↑(List.length left):Int))=false -> ∀ (x3:Nat),x3<=Int.toNat (List.getD left (List.length first) 0) + 1->decide ((↑x3:Int)<=List.getD left (List.length first) 0)=true->inI ((↑x3:Int) + 1))
  (o18:(List.length first<=List.length left/\List.length left<=3 /\ ∀ (q:Nat),q < List.length left->0<=List.getD left q 0/\List.getD left q 0<=4)->decide ((↑(List.length first):Int)=(↑(List.length left):Int))=false -> ∀ (x3:Nat),x3<=Int.toNat (List.getD left (List.length first) 0) + 1->decide ((↑x3:Int)<=List.getD left (List.length first) 0)=true->(↑x3:Int) + 1=(↑(x3 + 1):Int))
  (o19:(List.length first<=List.length left/\List.length left<=3 /\ ∀ (q:Nat),q < List.length left->0<=List.getD left q 0/\List.getD left q 0<=4)->decide ((↑(List.length first):Int)=(↑(List.length left):Int))=false -> ∀ (x3:Nat),x3<=Int.toNat (List.getD left (List.length first) 0) + 1->decide ((↑x3:Int)<=List.getD left (List.length first) 0)=true->List.length (setsTo left first x3) + List.length (setsFrom left (first ++ [(↑x3:Int)]))=List.length (setsTo left first (x3 + 1)))
  (o20:(List.length first<=List.length left/\List.length left<=3 /\ ∀ (q:Nat),q < List.length left->0<=List.getD left q 0/\List.getD left q 0<=4)->decide ((↑(List.length first):Int)=(↑(List.length left):Int))=false -> ∀ (x3:Nat),x3<=Int.toNat (List.getD left (List.length first) 0) + 1->decide ((↑x3:Int)<=List.getD left (List.length first) 0)=true -> ∀ (i10:Nat),i10 < List.length (setsTo left first x3) + List.length (setsFrom left (first ++ [(↑x3:Int)]))->catF (List.length (setsTo left first x3)) (fun (i:Nat)=>[aInts (List.getD (setsTo left first x3) i [])]) (fun (i:Nat)=>[aInts (List.getD (setsFrom left (first ++ [(↑x3:Int)])) i [])]) i10 = [aInts (List.getD (setsTo left first (x3 + 1)) i10 [])])
  (o21:(List.length first<=List.length left/\List.length left<=3 /\ ∀ (q:Nat),q < List.length left->0<=List.getD left q 0/\List.getD left q 0<=4)->decide ((↑(List.length first):Int)=(↑(List.length left):Int))=false -> ∀ (x3:Nat),x3<=Int.toNat (List.getD left (List.length first) 0) + 1->decide ((↑x3:Int)<=List.getD left (List.length first) 0)=true->x3 + 1<=Int.toNat (List.getD left (List.length first) 0) + 1)
  (o22:(List.length first<=List.length left/\List.length left<=3 /\ ∀ (q:Nat),q < List.length left->0<=List.getD left q 0/\List.getD left q 0<=4)->decide ((↑(List.length first):Int)=(↑(List.length left):Int))=false -> ∀ (x3:Nat),x3<=Int.toNat (List.getD left (List.length first) 0) + 1->decide ((↑x3:Int)<=List.getD left (List.length first) 0)=true->Int.toNat (List.getD left (List.length first) 0) + 1 - (x3 + 1) < Int.toNat (List.getD left (List.length first) 0) + 1 - x3)
  (o23:(List.length first<=List.length left/\List.length left<=3 /\ ∀ (q:Nat),q < List.length left->0<=List.getD left q 0/\List.getD left q 0<=4)->decide ((↑(List.length first):Int)=(↑(List.length left):Int))=false -> ∀ (x3:Nat),x3<=Int.toNat (List.getD left (List.length first) 0) + 1->decide ((↑x3:Int)<=List.getD left (List.length first) 0)=false->List.length (setsTo left first x3)=List.length (setsFrom left first))
  (o24:(List.length first<=List.length left/\List.length left<=3 /\ ∀ (q:Nat),q < List.length left->0<=List.getD left q 0/\List.getD left q 0<=4)->decide ((↑(List.length first):Int)=(↑(List.length left):Int))=false -> ∀ (x3:Nat),x3<=Int.toNat (List.getD left (List.length first) 0) + 1->decide ((↑x3:Int)<=List.getD left (List.length first) 0)=false -> ∀ (i12:Nat),i12 < List.length (setsFrom left first) -> [aInts (List.getD (setsTo left first x3) i12 [])] = [aInts (List.getD (setsFrom left first) i12 [])]) :
  Triple Try.prog 134 (s134 left first):=by
 refine triple_of Try.func134 rfl Try.call134 T0_ok _ rfl rfl rfl rfl (Nat.le_of_ble_eq_true (by kernel_rfl)) (fun _ _ _ _ h=>h) ?_
 intro hpre C hC _ hE
 obtain ⟨P,w0,E0,av,hA,ro,df⟩:=C
 obtain ⟨rfl,rfl,rfl⟩:=hC
 refine swp_seq ?_
 refine zR [0,1] [] (Ak 1 tv) ?_
 refine swp_seq ?_
 refine swp_seq ?_
 refine zR [0,1,11] [] (Ak 5 tv) ?_
 refine zI (decide ((↑(List.length first):Int)=(↑(List.length left):Int))) (fun y0 => ?_) (fun y0 => ?_)
 ·refine swp_seq ?_
  refine zR [4] [56] (Ak 3 tv) ?_
  refine swp_ret ?_
  exact zT [56] (An (Ak 1 tv) (An (An (zr 1) (An (o0 hpre y0) (fun (i1:Nat)=>(fun (y2:i1 < List.length (setsFrom left first))=>(o1 hpre y0 i1 y2))))) (An (zr true) (An (zr true) (zr true)))))
 ·refine swp_skip ?_
  refine swp_seq ?_
  refine zR [0,1,5] [] (Ak 1 tv) ?_
  refine swp_seq ?_
  refine swp_seq ?_
  refine zR [0,1,5,6] [] (Ak 1 tv) ?_
  refine swp_block ?_
  refine zL (Hint.ann (h134 left first) [(0,aInts left),(1,aInts first)] [] 10064) (zE hE [] [(5000,.nil)] [0,1] [] (An (An (An (zr (aInts left)) (zr true)) (An (An (zr (aInts first)) (zr true)) (An (zr (some Src.nil)) (An (An (ci (o2 hpre y0)) (zr nilN)) tv)))) (An (An (o3 hpre y0) tv) (An (zr true) (zr true))))) (o4 hpre y0) (fun (x3:Nat) hx3 => ?_)
  refine swp_seq ?_
  refine swp_seq ?_
  refine zR [0,1,5,6,20] [5000] (Ak 4 (An (An (o5 hpre y0 x3 hx3) (o6 hpre y0 x3 hx3)) (Ak 2 tv))) ?_
  refine zI (decide ((↑x3:Int)<=List.getD left (List.length first) 0)) (fun y4 => ?_) (fun y4 => ?_)
  ·refine swp_skip ?_
   refine swp_seq ?_
   refine swp_block ?_
   refine zC ([(8,CallSpec.eq (c134 left first x3) [true,false])]) [0,1,5,6] [10192] (Ak 4 (An (o7 hpre y0 x3 hx3 y4) (Ak 2 (An (o8 hpre y0 x3 hx3 y4) (An (An (An (zr (aInts left)) (An (An (zr 1) (An (o9 hpre y0 x3 hx3 y4) (fun (i5:Nat)=>(fun (y6:i5 < List.length (first ++ [(↑x3:Int)]))=>(o10 hpre y0 x3 hx3 y4 i5 y6))))) tv)) (An (o11 hpre y0 x3 hx3 y4) (An (An (o12 hpre y0 x3 hx3 y4) (An (o13 hpre y0 x3 hx3 y4) (fun (i7:Nat)=>(fun (y8:i7 < List.length left)=>(An (o14 hpre y0 x3 hx3 y4 i7 y8) (o15 hpre y0 x3 hx3 y4 i7 y8)))))) (Ak 1 (fun (i9:Env)=>tv))))) (An (o16 hpre y0 x3 hx3 y4) (Ak 1 tv))))))) ?_
   refine zR [0,1,5,6] [10192] (Ak 1 (An (o17 hpre y0 x3 hx3 y4) (Ak 1 tv))) ?_
   exact zn (zE hE [] [(5000,.same 10192)] [0,1] [] (An (An (An (zr (aInts left)) (zr true)) (An (An (zr (aInts first)) (zr true)) (An (zr (some (Src.same 10192))) (An (An (ci (o18 hpre y0 x3 hx3 y4)) (zr nilN)) tv)))) (An (An (An (zr 27) (An (zr 1) (An (o19 hpre y0 x3 hx3 y4) (fun (i10:Nat)=>(fun (y11:i10 < List.length (setsTo left first x3) + List.length (setsFrom left (first ++ [(↑x3:Int)])))=>(o20 hpre y0 x3 hx3 y4 i10 y11)))))) tv) (An (zr true) (zr true))))) (o21 hpre y0 x3 hx3 y4) (o22 hpre y0 x3 hx3 y4)
  ·refine swp_exit ?_
   refine swp_seq ?_
   refine zR [4] [5000] (Ak 2 tv) ?_
   refine swp_ret ?_
   exact zT [5000] (An (Ak 1 tv) (An (An (zr 1) (An (o23 hpre y0 x3 hx3 y4) (fun (i12:Nat)=>(fun (y13:i12 < List.length (setsFrom left first))=>(o24 hpre y0 x3 hx3 y4 i12 y13))))) (An (zr true) (An (zr true) (zr true)))))
theorem t134 (left first:List Int):Triple Try.prog 134 (s134 left first):=by
 have key:∀ (k:Nat) (first:List Int),left.length - first.length<=k->Triple Try.prog 134 (s134 left first):=by
  intro k
  induction k with
  | zero =>
   intro first hk
   apply w134
   all_goals (rintro ⟨h1,h2,h3⟩; have he:first.length=left.length:=by omega)
   case o0=>intro _; rw [setsFrom_base he]; rfl
   case o1 =>
    intro _ i hi
    rw [setsFrom_base he] at hi ⊢
    have:i=0:=by simpa using hi
    subst this; rfl
   all_goals (intro h; exact absurd (by omega) (of_decide_eq_false h))
  | succ k ih =>
   intro first hk
   apply w134
   all_goals (rintro ⟨h1,h2,h3⟩)
   case o0=>intro h; rw [setsFrom_base (by have:=of_decide_eq_true h; omega)]; rfl
   case o1 =>
    intro h i hi
    rw [setsFrom_base (by have:=of_decide_eq_true h; omega)] at hi ⊢
    have:i=0:=by simpa using hi
    subst this; rfl
   all_goals (intro h; have he:first.length < left.length:=(by have:=of_decide_eq_false h; omega))
   case o2 | o3=>rfl
   case o4=>omega
   all_goals (have hb:=fun q hq=>(h3 q hq).2; have hlk:=h3 _ he)
   all_goals (intro x hx)
   case o5 | o6=>omega
   all_goals (intro hl; simp only [decide_eq_true_eq,decide_eq_false_iff_not] at hl)
   case o9=>rw [List.length_append,List.length_singleton]; omega
   case o10=>intro i hi; rw [List.length_append,List.length_singleton] at hi; exact catF_one first _ 0 (fun z=>[iv z]) (Nat.zero_add _) (fun _ _=>rfl) rfl hi
   case o11=>exact ih _ (by rw [List.length_append,List.length_singleton]; omega)
   case o12=>rw [List.length_append,List.length_singleton]; omega
   case o14=>intro q hq; exact (h3 q hq).1
   case o15=>intro q hq; exact hb q hq
   case o16=>have a:=setsTo_len h2 hb first x; have b:=setsFrom_len h2 hb (first ++ [(x:Int)]); omega
   case o19=>rw [setsTo_succ,List.length_append]
   case o20=>intro i hi; rw [setsTo_succ]; exact catF_eq _ _ [] (fun z=>[aInts z]) rfl (fun _ _=>rfl) (fun _ _=>rfl) hi
   case o23=>rw [show x=(left.getD first.length 0).toNat + 1 by omega,setsTo_end he]
   case o24=>intro i hi; rw [show x=(left.getD first.length 0).toNat + 1 by omega,setsTo_end he]
   all_goals (first | omega | (simp only [inI]; omega))
 exact key _ first (Nat.le_refl _)
theorem w105 (f:Frm) (c:Nat) (left:List Int)
  (o0:Sound f/\c<=List.length (Frm.columns f)/\GoodLeft f left/\prodL left<=30->decide ((↑c:Int)=(↑(List.length (Frm.columns f)):Int))=true -> ∀ (i1:Env) (i2:Bool) (i3:Value),Rel i1 i2 nilv i3->Rel i1 i2 (aIntss []) i3)
  (o1:Sound f/\c<=List.length (Frm.columns f)/\GoodLeft f left/\prodL left<=30->decide ((↑c:Int)=(↑(List.length (Frm.columns f)):Int))=true->1=List.length (laysC f (List.length (Frm.columns f) - c) left))
  (o2:Sound f/\c<=List.length (Frm.columns f)/\GoodLeft f left/\prodL left<=30->decide ((↑c:Int)=(↑(List.length (Frm.columns f)):Int))=true -> ∀ (i5:Nat),i5 < List.length (laysC f (List.length (Frm.columns f) - c) left)->List.getD [[AV.sl 1 0 fun (i:Nat)=>[aInts (List.getD [] i [])]]] i5 (TI.za ti24) = [aIntss (List.getD (laysC f (List.length (Frm.columns f) - c) left) i5 [])])
  (o3:Sound f/\c<=List.length (Frm.columns f)/\GoodLeft f left/\prodL left<=30->decide ((↑c:Int)=(↑(List.length (Frm.columns f)):Int))=false->0<=List.length left)
  (o4:Sound f/\c<=List.length (Frm.columns f)/\GoodLeft f left/\prodL left<=30->decide ((↑c:Int)=(↑(List.length (Frm.columns f)):Int))=false->List.length left<=3)
  (o5:Sound f/\c<=List.length (Frm.columns f)/\GoodLeft f left/\prodL left<=30->decide ((↑c:Int)=(↑(List.length (Frm.columns f)):Int))=false -> ∀ (i7:Nat),i7 < List.length left->0<=List.getD left i7 0)
  (o6:Sound f/\c<=List.length (Frm.columns f)/\GoodLeft f left/\prodL left<=30->decide ((↑c:Int)=(↑(List.length (Frm.columns f)):Int))=false -> ∀ (i7:Nat),i7 < List.length left->List.getD left i7 0<=4)
  (o7:Sound f/\c<=List.length (Frm.columns f)/\GoodLeft f left/\prodL left<=30->decide ((↑c:Int)=(↑(List.length (Frm.columns f)):Int))=false->0=(↑0:Int))
  (o8:Sound f/\c<=List.length (Frm.columns f)/\GoodLeft f left/\prodL left<=30->decide ((↑c:Int)=(↑(List.length (Frm.columns f)):Int))=false->List.length (laysTo f c left 0)=0)
  (o9:Sound f/\c<=List.length (Frm.columns f)/\GoodLeft f left/\prodL left<=30->decide ((↑c:Int)=(↑(List.length (Frm.columns f)):Int))=false->0<=List.length (setsP left))
  (o10:Sound f/\c<=List.length (Frm.columns f)/\GoodLeft f left/\prodL left<=30->decide ((↑c:Int)=(↑(List.length (Frm.columns f)):Int))=false -> ∀ (x10:Nat),x10<=List.length (setsP left)->decide ((↑x10:Int) < (↑(List.length (setsFrom left [])):Int))=true->0<=(↑x10:Int))
  (o11:Sound f/\c<=List.length (Frm.columns f)/\GoodLeft f left/\prodL left<=30->decide ((↑c:Int)=(↑(List.length (Frm.columns f)):Int))=false -> ∀ (x10:Nat),x10<=List.length (setsP left)->decide ((↑x10:Int) < (↑(List.length (setsFrom left [])):Int))=true->(↑x10:Int) < (↑(List.length (setsFrom left [])):Int))
  (o12:Sound f/\c<=List.length (Frm.columns f)/\GoodLeft f left/\prodL left<=30->decide ((↑c:Int)=(↑(List.length (Frm.columns f)):Int))=false -> ∀ (x10:Nat),x10<=List.length (setsP left)->decide ((↑x10:Int) < (↑(List.length (setsFrom left [])):Int))=true->List.length (List.getD (setsFrom left []) x10 [])=List.length (setI left x10))
  (o13:Sound f/\c<=List.length (Frm.columns f)/\GoodLeft f left/\prodL left<=30->decide ((↑c:Int)=(↑(List.length (Frm.columns f)):Int))=false -> ∀ (x10:Nat),x10<=List.length (setsP left)->decide ((↑x10:Int) < (↑(List.length (setsFrom left [])):Int))=true -> ∀ (i12:Nat),i12 < List.length (setI left x10) -> [iv (List.getD (List.getD (setsFrom left []) x10 []) i12 0)] = [iv (List.getD (setI left x10) i12 0)])
  (o14:Sound f/\c<=List.length (Frm.columns f)/\GoodLeft f left/\prodL left<=30->decide ((↑c:Int)=(↑(List.length (Frm.columns f)):Int))=false -> ∀ (x10:Nat),x10<=List.length (setsP left)->decide ((↑x10:Int) < (↑(List.length (setsFrom left [])):Int))=true->isSet f (setI left x10)=true)
  (o15:Sound f/\c<=List.length (Frm.columns f)/\GoodLeft f left/\prodL left<=30->decide ((↑c:Int)=(↑(List.length (Frm.columns f)):Int))=false -> ∀ (x10:Nat),x10<=List.length (setsP left)->decide ((↑x10:Int) < (↑(List.length (setsFrom left [])):Int))=true->c < List.length (Frm.columns f))
  (o16:Sound f/\c<=List.length (Frm.columns f)/\GoodLeft f left/\prodL left<=30->decide ((↑c:Int)=(↑(List.length (Frm.columns f)):Int))=false -> ∀ (x10:Nat),x10<=List.length (setsP left)->decide ((↑x10:Int) < (↑(List.length (setsFrom left [])):Int))=true -> -1000<=pointsP f (setI left x10))
  (o17:Sound f/\c<=List.length (Frm.columns f)/\GoodLeft f left/\prodL left<=30->decide ((↑c:Int)=(↑(List.length (Frm.columns f)):Int))=false -> ∀ (x10:Nat),x10<=List.length (setsP left)->decide ((↑x10:Int) < (↑(List.length (setsFrom left [])):Int))=true->pointsP f (setI left x10)<=1000)
  (o18:Sound f/\c<=List.length (Frm.columns f)/\GoodLeft f left/\prodL left<=30->decide ((↑c:Int)=(↑(List.length (Frm.columns f)):Int))=false -> ∀ (x10:Nat),x10<=List.length (setsP left)->decide ((↑x10:Int) < (↑(List.length (setsFrom left [])):Int))=true->(!sureP f c (pointsP f (setI left x10)))=true->inI ((↑x10:Int) + 1))
  (o19:Sound f/\c<=List.length (Frm.columns f)/\GoodLeft f left/\prodL left<=30->decide ((↑c:Int)=(↑(List.length (Frm.columns f)):Int))=false -> ∀ (x10:Nat),x10<=List.length (setsP left)->decide ((↑x10:Int) < (↑(List.length (setsFrom left [])):Int))=true->(!sureP f c (pointsP f (setI left x10)))=true->(↑x10:Int) + 1=(↑(x10 + 1):Int))
  (o20:Sound f/\c<=List.length (Frm.columns f)/\GoodLeft f left/\prodL left<=30->decide ((↑c:Int)=(↑(List.length (Frm.columns f)):Int))=false -> ∀ (x10:Nat),x10<=List.length (setsP left)->decide ((↑x10:Int) < (↑(List.length (setsFrom left [])):Int))=true->(!sureP f c (pointsP f (setI left x10)))=true->List.length (laysTo f c left x10)=List.length (laysTo f c left (x10 + 1)))
  (o21:Sound f/\c<=List.length (Frm.columns f)/\GoodLeft f left/\prodL left<=30->decide ((↑c:Int)=(↑(List.length (Frm.columns f)):Int))=false -> ∀ (x10:Nat),x10<=List.length (setsP left)->decide ((↑x10:Int) < (↑(List.length (setsFrom left [])):Int))=true->(!sureP f c (pointsP f (setI left x10)))=true -> ∀ (i17:Nat),i17 < List.length (laysTo f c left x10) -> [aIntss (List.getD (laysTo f c left x10) i17 [])] = [aIntss (List.getD (laysTo f c left (x10 + 1)) i17 [])])
  (o22:Sound f/\c<=List.length (Frm.columns f)/\GoodLeft f left/\prodL left<=30->decide ((↑c:Int)=(↑(List.length (Frm.columns f)):Int))=false -> ∀ (x10:Nat),x10<=List.length (setsP left)->decide ((↑x10:Int) < (↑(List.length (setsFrom left [])):Int))=true->(!sureP f c (pointsP f (setI left x10)))=true->x10 + 1<=List.length (setsP left))
  (o23:Sound f/\c<=List.length (Frm.columns f)/\GoodLeft f left/\prodL left<=30->decide ((↑c:Int)=(↑(List.length (Frm.columns f)):Int))=false -> ∀ (x10:Nat),x10<=List.length (setsP left)->decide ((↑x10:Int) < (↑(List.length (setsFrom left [])):Int))=true->(!sureP f c (pointsP f (setI left x10)))=true->List.length (setsP left) - (x10 + 1) < List.length (setsP left) - x10)
  (o24:Sound f/\c<=List.length (Frm.columns f)/\GoodLeft f left/\prodL left<=30->decide ((↑c:Int)=(↑(List.length (Frm.columns f)):Int))=false -> ∀ (x10:Nat),x10<=List.length (setsP left)->decide ((↑x10:Int) < (↑(List.length (setsFrom left [])):Int))=true->(!sureP f c (pointsP f (setI left x10)))=false->0 + List.length left<=65536)
  (o25:Sound f/\c<=List.length (Frm.columns f)/\GoodLeft f left/\prodL left<=30->decide ((↑c:Int)=(↑(List.length (Frm.columns f)):Int))=false -> ∀ (x10:Nat),x10<=List.length (setsP left)->decide ((↑x10:Int) < (↑(List.length (setsFrom left [])):Int))=true->(!sureP f c (pointsP f (setI left x10)))=false->0=(↑0:Int))
  (o26:Sound f/\c<=List.length (Frm.columns f)/\GoodLeft f left/\prodL left<=30->decide ((↑c:Int)=(↑(List.length (Frm.columns f)):Int))=false -> ∀ (x10:Nat),x10<=List.length (setsP left)->decide ((↑x10:Int) < (↑(List.length (setsFrom left [])):Int))=true->(!sureP f c (pointsP f (setI left x10)))=false->0 + List.length left=List.length left)
  (o27:Sound f/\c<=List.length (Frm.columns f)/\GoodLeft f left/\prodL left<=30->decide ((↑c:Int)=(↑(List.length (Frm.columns f)):Int))=false -> ∀ (x10:Nat),x10<=List.length (setsP left)->decide ((↑x10:Int) < (↑(List.length (setsFrom left [])):Int))=true->(!sureP f c (pointsP f (setI left x10)))=false -> ∀ (i20:Nat),i20 < 0 + List.length left -> [iv (List.getD left i20 0)] = [iv (restQ left (setI left x10) 0 i20)])
  (o28:Sound f/\c<=List.length (Frm.columns f)/\GoodLeft f left/\prodL left<=30->decide ((↑c:Int)=(↑(List.length (Frm.columns f)):Int))=false -> ∀ (x10:Nat),x10<=List.length (setsP left)->decide ((↑x10:Int) < (↑(List.length (setsFrom left [])):Int))=true->(!sureP f c (pointsP f (setI left x10)))=false->0<=List.length left)
  (o29:Sound f/\c<=List.length (Frm.columns f)/\GoodLeft f left/\prodL left<=30->decide ((↑c:Int)=(↑(List.length (Frm.columns f)):Int))=false -> ∀ (x10:Nat),x10<=List.length (setsP left)->decide ((↑x10:Int) < (↑(List.length (setsFrom left [])):Int))=true->(!sureP f c (pointsP f (setI left x10)))=false -> ∀ (x19:Nat),x19<=List.length left->decide ((↑x19:Int) < (↑(List.length left):Int))=true->0<=(↑x19:Int))
  (o30:Sound f/\c<=List.length (Frm.columns f)/\GoodLeft f left/\prodL left<=30->decide ((↑c:Int)=(↑(List.length (Frm.columns f)):Int))=false -> ∀ (x10:Nat),x10<=List.length (setsP left)->decide ((↑x10:Int) < (↑(List.length (setsFrom left [])):Int))=true->(!sureP f c (pointsP f (setI left x10)))=false -> ∀ (x19:Nat),x19<=List.length left->decide ((↑x19:Int) < (↑(List.length left):Int))=true->(↑x19:Int) < (↑(List.length left):Int))
  (o31:Sound f/\c<=List.length (Frm.columns f)/\GoodLeft f left/\prodL left<=30->decide ((↑c:Int)=(↑(List.length (Frm.columns f)):Int))=false -> ∀ (x10:Nat),x10<=List.length (setsP left)->decide ((↑x10:Int) < (↑(List.length (setsFrom left [])):Int))=true->(!sureP f c (pointsP f (setI left x10)))=false -> ∀ (x19:Nat),x19<=List.length left->decide ((↑x19:Int) < (↑(List.length left):Int))=true->x19 < List.length left)
  (o32:Sound f/\c<=List.length (Frm.columns f)/\GoodLeft f left/\prodL left<=30->decide ((↑c:Int)=(↑(List.length (Frm.columns f)):Int))=false -> ∀ (x10:Nat),x10<=List.length (setsP left)->decide ((↑x10:Int) < (↑(List.length (setsFrom left [])):Int))=true->(!sureP f c (pointsP f (setI left x10)))=false -> ∀ (x19:Nat),x19<=List.length left->decide ((↑x19:Int) < (↑(List.length left):Int))=true->0<=(↑x10:Int))
  (o33:Sound f/\c<=List.length (Frm.columns f)/\GoodLeft f left/\prodL left<=30->decide ((↑c:Int)=(↑(List.length (Frm.columns f)):Int))=false -> ∀ (x10:Nat),x10<=List.length (setsP left)->decide ((↑x10:Int) < (↑(List.length (setsFrom left [])):Int))=true->(!sureP f c (pointsP f (setI left x10)))=false -> ∀ (x19:Nat),x19<=List.length left->decide ((↑x19:Int) < (↑(List.length left):Int))=true->(↑x10:Int) < (↑(List.length (setsFrom left [])):Int))
  (o34:Sound f/\c<=List.length (Frm.columns f)/\GoodLeft f left/\prodL left<=30->decide ((↑c:Int)=(↑(List.length (Frm.columns f)):Int))=false -> ∀ (x10:Nat),x10<=List.length (setsP left)->decide ((↑x10:Int) < (↑(List.length (setsFrom left [])):Int))=true->(!sureP f c (pointsP f (setI left x10)))=false -> ∀ (x19:Nat),x19<=List.length left->decide ((↑x19:Int) < (↑(List.length left):Int))=true->0<=(↑x19:Int))
  (o35:Sound f/\c<=List.length (Frm.columns f)/\GoodLeft f left/\prodL left<=30->decide ((↑c:Int)=(↑(List.length (Frm.columns f)):Int))=false -> ∀ (x10:Nat),x10<=List.length (setsP left)->decide ((↑x10:Int) < (↑(List.length (setsFrom left [])):Int))=true->(!sureP f c (pointsP f (setI left x10)))=false -> ∀ (x19:Nat),x19<=List.length left->decide ((↑x19:Int) < (↑(List.length left):Int))=true->(↑x19:Int) < (↑(List.length (List.getD (setsFrom left []) x10 [])):Int))
  (o36:Sound f/\c<=List.length (Frm.columns f)/\GoodLeft f left/\prodL left<=30->decide ((↑c:Int)=(↑(List.length (Frm.columns f)):Int))=false -> ∀ (x10:Nat),x10<=List.length (setsP left)->decide ((↑x10:Int) < (↑(List.length (setsFrom left [])):Int))=true->(!sureP f c (pointsP f (setI left x10)))=false -> ∀ (x19:Nat),x19<=List.length left->decide ((↑x19:Int) < (↑(List.length left):Int))=true->inI (restQ left (setI left x10) x19 x19 - List.getD (List.getD (setsFrom left []) x10 []) x19 0))
  (o37:Sound f/\c<=List.length (Frm.columns f)/\GoodLeft f left/\prodL left<=30->decide ((↑c:Int)=(↑(List.length (Frm.columns f)):Int))=false -> ∀ (x10:Nat),x10<=List.length (setsP left)->decide ((↑x10:Int) < (↑(List.length (setsFrom left [])):Int))=true->(!sureP f c (pointsP f (setI left x10)))=false -> ∀ (x19:Nat),x19<=List.length left->decide ((↑x19:Int) < (↑(List.length left):Int))=true->0<=(↑x19:Int))
  (o38:Sound f/\c<=List.length (Frm.columns f)/\GoodLeft f left/\prodL left<=30->decide ((↑c:Int)=(↑(List.length (Frm.columns f)):Int))=false -> ∀ (x10:Nat),x10<=List.length (setsP left)->decide ((↑x10:Int) < (↑(List.length (setsFrom left [])):Int))=true->(!sureP f c (pointsP f (setI left x10)))=false -> ∀ (x19:Nat),x19<=List.length left->decide ((↑x19:Int) < (↑(List.length left):Int))=true->(↑x19:Int) < (↑(List.length left):Int))
  (o39:Sound f/\c<=List.length (Frm.columns f)/\GoodLeft f left/\prodL left<=30->decide ((↑c:Int)=(↑(List.length (Frm.columns f)):Int))=false -> ∀ (x10:Nat),x10<=List.length (setsP left)->decide ((↑x10:Int) < (↑(List.length (setsFrom left [])):Int))=true->(!sureP f c (pointsP f (setI left x10)))=false -> ∀ (x19:Nat),x19<=List.length left->decide ((↑x19:Int) < (↑(List.length left):Int))=true->x19 < List.length left)
  (o40:Sound f/\c<=List.length (Frm.columns f)/\GoodLeft f left/\prodL left<=30->decide ((↑c:Int)=(↑(List.length (Frm.columns f)):Int))=false -> ∀ (x10:Nat),x10<=List.length (setsP left)->decide ((↑x10:Int) < (↑(List.length (setsFrom left [])):Int))=true->(!sureP f c (pointsP f (setI left x10)))=false -> ∀ (x19:Nat),x19<=List.length left->decide ((↑x19:Int) < (↑(List.length left):Int))=true->inI ((↑x19:Int) + 1))
  (o41:Sound f/\c<=List.length (Frm.columns f)/\GoodLeft f left/\prodL left<=30->decide ((↑c:Int)=(↑(List.length (Frm.columns f)):Int))=false -> ∀ (x10:Nat),x10<=List.length (setsP left)->decide ((↑x10:Int) < (↑(List.length (setsFrom left [])):Int))=true->(!sureP f c (pointsP f (setI left x10)))=false -> ∀ (x19:Nat),x19<=List.length left->decide ((↑x19:Int) < (↑(List.length left):Int))=true->(↑x19:Int) + 1=(↑(x19 + 1):Int))
  (o42:Sound f/\c<=List.length (Frm.columns f)/\GoodLeft f left/\prodL left<=30->decide ((↑c:Int)=(↑(List.length (Frm.columns f)):Int))=false -> ∀ (x10:Nat),x10<=List.length (setsP left)->decide ((↑x10:Int) < (↑(List.length (setsFrom left [])):Int))=true->(!sureP f c (pointsP f (setI left x10)))=false -> ∀ (x19:Nat),x19<=List.length left->decide ((↑x19:Int) < (↑(List.length left):Int))=true -> ∀ (i23:Nat),i23 < List.length left->Decidable.rec (fun (h:¬i23=x19)=>[iv (restQ left (setI left x10) x19 i23)]) (fun (h:i23=x19)=>[iv (restQ left (setI left x10) x19 x19 - List.getD (List.getD (setsFrom left []) x10 []) x19 0)] ++ []) (instDecidableEqNat i23 x19) = [iv (restQ left (setI left x10) (x19 + 1) i23)])
  (o43:Sound f/\c<=List.length (Frm.columns f)/\GoodLeft f left/\prodL left<=30->decide ((↑c:Int)=(↑(List.length (Frm.columns f)):Int))=false -> ∀ (x10:Nat),x10<=List.length (setsP left)->decide ((↑x10:Int) < (↑(List.length (setsFrom left [])):Int))=true->(!sureP f c (pointsP f (setI left x10)))=false -> ∀ (x19:Nat),x19<=List.length left->decide ((↑x19:Int) < (↑(List.length left):Int))=true->x19 + 1<=List.length left)
  (o44:Sound f/\c<=List.length (Frm.columns f)/\GoodLeft f left/\prodL left<=30->decide ((↑c:Int)=(↑(List.length (Frm.columns f)):Int))=false -> ∀ (x10:Nat),x10<=List.length (setsP left)->decide ((↑x10:Int) < (↑(List.length (setsFrom left [])):Int))=true->(!sureP f c (pointsP f (setI left x10)))=false -> ∀ (x19:Nat),x19<=List.length left->decide ((↑x19:Int) < (↑(List.length left):Int))=true->List.length left - (x19 + 1) < List.length left - x19)
  (o45:Sound f/\c<=List.length (Frm.columns f)/\GoodLeft f left/\prodL left<=30->decide ((↑c:Int)=(↑(List.length (Frm.columns f)):Int))=false -> ∀ (x10:Nat),x10<=List.length (setsP left)->decide ((↑x10:Int) < (↑(List.length (setsFrom left [])):Int))=true->(!sureP f c (pointsP f (setI left x10)))=false -> ∀ (x19:Nat),x19<=List.length left->decide ((↑x19:Int) < (↑(List.length left):Int))=false->inI ((↑c:Int) + 1))
  (o46:Sound f/\c<=List.length (Frm.columns f)/\GoodLeft f left/\prodL left<=30->decide ((↑c:Int)=(↑(List.length (Frm.columns f)):Int))=false -> ∀ (x10:Nat),x10<=List.length (setsP left)->decide ((↑x10:Int) < (↑(List.length (setsFrom left [])):Int))=true->(!sureP f c (pointsP f (setI left x10)))=false -> ∀ (x19:Nat),x19<=List.length left->decide ((↑x19:Int) < (↑(List.length left):Int))=false->(↑c:Int) + 1=(↑(c + 1):Int))
  (o47:Sound f/\c<=List.length (Frm.columns f)/\GoodLeft f left/\prodL left<=30->decide ((↑c:Int)=(↑(List.length (Frm.columns f)):Int))=false -> ∀ (x10:Nat),x10<=List.length (setsP left)->decide ((↑x10:Int) < (↑(List.length (setsFrom left [])):Int))=true->(!sureP f c (pointsP f (setI left x10)))=false -> ∀ (x19:Nat),x19<=List.length left->decide ((↑x19:Int) < (↑(List.length left):Int))=false->List.length left=List.length (restL left (setI left x10)))
  (o48:Sound f/\c<=List.length (Frm.columns f)/\GoodLeft f left/\prodL left<=30->decide ((↑c:Int)=(↑(List.length (Frm.columns f)):Int))=false -> ∀ (x10:Nat),x10<=List.length (setsP left)->decide ((↑x10:Int) < (↑(List.length (setsFrom left [])):Int))=true->(!sureP f c (pointsP f (setI left x10)))=false -> ∀ (x19:Nat),x19<=List.length left->decide ((↑x19:Int) < (↑(List.length left):Int))=false -> ∀ (i27:Nat),i27 < List.length (restL left (setI left x10)) -> [iv (restQ left (setI left x10) x19 i27)] = [iv (List.getD (restL left (setI left x10)) i27 0)])
  (o49:Sound f/\c<=List.length (Frm.columns f)/\GoodLeft f left/\prodL left<=30->decide ((↑c:Int)=(↑(List.length (Frm.columns f)):Int))=false -> ∀ (x10:Nat),x10<=List.length (setsP left)->decide ((↑x10:Int) < (↑(List.length (setsFrom left [])):Int))=true->(!sureP f c (pointsP f (setI left x10)))=false -> ∀ (x19:Nat),x19<=List.length left->decide ((↑x19:Int) < (↑(List.length left):Int))=false->Triple Try.prog 105 (c105r f c left x10))
  (o50:Sound f/\c<=List.length (Frm.columns f)/\GoodLeft f left/\prodL left<=30->decide ((↑c:Int)=(↑(List.length (Frm.columns f)):Int))=false -> ∀ (x10:Nat),x10<=List.length (setsP left)->decide ((↑x10:Int) < (↑(List.length (setsFrom left [])):Int))=true->(!sureP f c (pointsP f (setI left x10)))=false -> ∀ (x19:Nat),x19<=List.length left->decide ((↑x19:Int) < (↑(List.length left):Int))=false->c + 1<=List.length (Frm.columns f))
  (o51:Sound f/\c<=List.length (Frm.columns f)/\GoodLeft f left/\prodL left<=30->decide ((↑c:Int)=(↑(List.length (Frm.columns f)):Int))=false -> ∀ (x10:Nat),x10<=List.length (setsP left)->decide ((↑x10:Int) < (↑(List.length (setsFrom left [])):Int))=true->(!sureP f c (pointsP f (setI left x10)))=false -> ∀ (x19:Nat),x19<=List.length left->decide ((↑x19:Int) < (↑(List.length left):Int))=false->GoodLeft f (restL left (setI left x10)))
  (o52:Sound f/\c<=List.length (Frm.columns f)/\GoodLeft f left/\prodL left<=30->decide ((↑c:Int)=(↑(List.length (Frm.columns f)):Int))=false -> ∀ (x10:Nat),x10<=List.length (setsP left)->decide ((↑x10:Int) < (↑(List.length (setsFrom left [])):Int))=true->(!sureP f c (pointsP f (setI left x10)))=false -> ∀ (x19:Nat),x19<=List.length left->decide ((↑x19:Int) < (↑(List.length left):Int))=false->prodL (restL left (setI left x10))<=30)
  (o53:Sound f/\c<=List.length (Frm.columns f)/\GoodLeft f left/\prodL left<=30->decide ((↑c:Int)=(↑(List.length (Frm.columns f)):Int))=false -> ∀ (x10:Nat),x10<=List.length (setsP left)->decide ((↑x10:Int) < (↑(List.length (setsFrom left [])):Int))=true->(!sureP f c (pointsP f (setI left x10)))=false -> ∀ (x19:Nat),x19<=List.length left->decide ((↑x19:Int) < (↑(List.length left):Int))=false->0=(↑0:Int))
  (o54:Sound f/\c<=List.length (Frm.columns f)/\GoodLeft f left/\prodL left<=30->decide ((↑c:Int)=(↑(List.length (Frm.columns f)):Int))=false -> ∀ (x10:Nat),x10<=List.length (setsP left)->decide ((↑x10:Int) < (↑(List.length (setsFrom left [])):Int))=true->(!sureP f c (pointsP f (setI left x10)))=false -> ∀ (x19:Nat),x19<=List.length left->decide ((↑x19:Int) < (↑(List.length left):Int))=false->List.length (laysTo f c left x10)=List.length (laysIn f c left x10 0))
  (o55:Sound f/\c<=List.length (Frm.columns f)/\GoodLeft f left/\prodL left<=30->decide ((↑c:Int)=(↑(List.length (Frm.columns f)):Int))=false -> ∀ (x10:Nat),x10<=List.length (setsP left)->decide ((↑x10:Int) < (↑(List.length (setsFrom left [])):Int))=true->(!sureP f c (pointsP f (setI left x10)))=false -> ∀ (x19:Nat),x19<=List.length left->decide ((↑x19:Int) < (↑(List.length left):Int))=false -> ∀ (i31:Nat),i31 < List.length (laysTo f c left x10) -> [aIntss (List.getD (laysTo f c left x10) i31 [])] = [aIntss (List.getD (laysIn f c left x10 0) i31 [])])
  (o56:Sound f/\c<=List.length (Frm.columns f)/\GoodLeft f left/\prodL left<=30->decide ((↑c:Int)=(↑(List.length (Frm.columns f)):Int))=false -> ∀ (x10:Nat),x10<=List.length (setsP left)->decide ((↑x10:Int) < (↑(List.length (setsFrom left [])):Int))=true->(!sureP f c (pointsP f (setI left x10)))=false -> ∀ (x19:Nat),x19<=List.length left->decide ((↑x19:Int) < (↑(List.length left):Int))=false->0<=List.length (moreL f c left x10))
  (o57:Sound f/\c<=List.length (Frm.columns f)/\GoodLeft f left/\prodL left<=30->decide ((↑c:Int)=(↑(List.length (Frm.columns f)):Int))=false -> ∀ (x10:Nat),x10<=List.length (setsP left)->decide ((↑x10:Int) < (↑(List.length (setsFrom left [])):Int))=true->(!sureP f c (pointsP f (setI left x10)))=false -> ∀ (x19:Nat),x19<=List.length left->decide ((↑x19:Int) < (↑(List.length left):Int))=false -> ∀ (x30:Nat),x30<=List.length (moreL f c left x10)->decide ((↑x30:Int) < (↑(List.length (laysC f (List.length (Frm.columns f) - (c + 1)) (restL left (setI left x10)))):Int))=true->0<=(↑x10:Int))
  (o58:Sound f/\c<=List.length (Frm.columns f)/\GoodLeft f left/\prodL left<=30->decide ((↑c:Int)=(↑(List.length (Frm.columns f)):Int))=false -> ∀ (x10:Nat),x10<=List.length (setsP left)->decide ((↑x10:Int) < (↑(List.length (setsFrom left [])):Int))=true->(!sureP f c (pointsP f (setI left x10)))=false -> ∀ (x19:Nat),x19<=List.length left->decide ((↑x19:Int) < (↑(List.length left):Int))=false -> ∀ (x30:Nat),x30<=List.length (moreL f c left x10)->decide ((↑x30:Int) < (↑(List.length (laysC f (List.length (Frm.columns f) - (c + 1)) (restL left (setI left x10)))):Int))=true->(↑x10:Int) < (↑(List.length (setsFrom left [])):Int))
  (o59:Sound f/\c<=List.length (Frm.columns f)/\GoodLeft f left/\prodL left<=30->decide ((↑c:Int)=(↑(List.length (Frm.columns f)):Int))=false -> ∀ (x10:Nat),x10<=List.length (setsP left)->decide ((↑x10:Int) < (↑(List.length (setsFrom left [])):Int))=true->(!sureP f c (pointsP f (setI left x10)))=false -> ∀ (x19:Nat),x19<=List.length left->decide ((↑x19:Int) < (↑(List.length left):Int))=false -> ∀ (x30:Nat),x30<=List.length (moreL f c left x10)->decide ((↑x30:Int) < (↑(List.length (laysC f (List.length (Frm.columns f) - (c + 1)) (restL left (setI left x10)))):Int))=true->0<=(↑x30:Int))
  (o60:Sound f/\c<=List.length (Frm.columns f)/\GoodLeft f left/\prodL left<=30->decide ((↑c:Int)=(↑(List.length (Frm.columns f)):Int))=false -> ∀ (x10:Nat),x10<=List.length (setsP left)->decide ((↑x10:Int) < (↑(List.length (setsFrom left [])):Int))=true->(!sureP f c (pointsP f (setI left x10)))=false -> ∀ (x19:Nat),x19<=List.length left->decide ((↑x19:Int) < (↑(List.length left):Int))=false -> ∀ (x30:Nat),x30<=List.length (moreL f c left x10)->decide ((↑x30:Int) < (↑(List.length (laysC f (List.length (Frm.columns f) - (c + 1)) (restL left (setI left x10)))):Int))=true->(↑x30:Int) < (↑(List.length (laysC f (List.length (Frm.columns f) - (c + 1)) (restL left (setI left x10)))):Int))
  (o61:Sound f/\c<=List.length (Frm.columns f)/\GoodLeft f left/\prodL left<=30->decide ((↑c:Int)=(↑(List.length (Frm.columns f)):Int))=false -> ∀ (x10:Nat),x10<=List.length (setsP left)->decide ((↑x10:Int) < (↑(List.length (setsFrom left [])):Int))=true->(!sureP f c (pointsP f (setI left x10)))=false -> ∀ (x19:Nat),x19<=List.length left->decide ((↑x19:Int) < (↑(List.length left):Int))=false -> ∀ (x30:Nat),x30<=List.length (moreL f c left x10)->decide ((↑x30:Int) < (↑(List.length (laysC f (List.length (Frm.columns f) - (c + 1)) (restL left (setI left x10)))):Int))=true->1 + List.length (List.getD (laysC f (List.length (Frm.columns f) - (c + 1)) (restL left (setI left x10))) x30 [])<=65536)
  (o62:Sound f/\c<=List.length (Frm.columns f)/\GoodLeft f left/\prodL left<=30->decide ((↑c:Int)=(↑(List.length (Frm.columns f)):Int))=false -> ∀ (x10:Nat),x10<=List.length (setsP left)->decide ((↑x10:Int) < (↑(List.length (setsFrom left [])):Int))=true->(!sureP f c (pointsP f (setI left x10)))=false -> ∀ (x19:Nat),x19<=List.length left->decide ((↑x19:Int) < (↑(List.length left):Int))=false -> ∀ (x30:Nat),x30<=List.length (moreL f c left x10)->decide ((↑x30:Int) < (↑(List.length (laysC f (List.length (Frm.columns f) - (c + 1)) (restL left (setI left x10)))):Int))=true->List.length (laysIn f c left x10 x30) + 1<=65536)
  (o63:Sound f/\c<=List.length (Frm.columns f)/\GoodLeft f left/\prodL left<=30->decide ((↑c:Int)=(↑(List.length (Frm.columns f)):Int))=false -> ∀ (x10:Nat),x10<=List.length (setsP left)->decide ((↑x10:Int) < (↑(List.length (setsFrom left [])):Int))=true->(!sureP f c (pointsP f (setI left x10)))=false -> ∀ (x19:Nat),x19<=List.length left->decide ((↑x19:Int) < (↑(List.length left):Int))=false -> ∀ (x30:Nat),x30<=List.length (moreL f c left x10)->decide ((↑x30:Int) < (↑(List.length (laysC f (List.length (Frm.columns f) - (c + 1)) (restL left (setI left x10)))):Int))=true->inI ((↑x30:Int) + 1))
  (o64:Sound f/\c<=List.length (Frm.columns f)/\GoodLeft f left/\prodL left<=30->decide ((↑c:Int)=(↑(List.length (Frm.columns f)):Int))=false -> ∀ (x10:Nat),x10<=List.length (setsP left)->decide ((↑x10:Int) < (↑(List.length (setsFrom left [])):Int))=true->(!sureP f c (pointsP f (setI left x10)))=false -> ∀ (x19:Nat),x19<=List.length left->decide ((↑x19:Int) < (↑(List.length left):Int))=false -> ∀ (x30:Nat),x30<=List.length (moreL f c left x10)->decide ((↑x30:Int) < (↑(List.length (laysC f (List.length (Frm.columns f) - (c + 1)) (restL left (setI left x10)))):Int))=true->(↑x30:Int) + 1=(↑(x30 + 1):Int))
  (o65:Sound f/\c<=List.length (Frm.columns f)/\GoodLeft f left/\prodL left<=30->decide ((↑c:Int)=(↑(List.length (Frm.columns f)):Int))=false -> ∀ (x10:Nat),x10<=List.length (setsP left)->decide ((↑x10:Int) < (↑(List.length (setsFrom left [])):Int))=true->(!sureP f c (pointsP f (setI left x10)))=false -> ∀ (x19:Nat),x19<=List.length left->decide ((↑x19:Int) < (↑(List.length left):Int))=false -> ∀ (x30:Nat),x30<=List.length (moreL f c left x10)->decide ((↑x30:Int) < (↑(List.length (laysC f (List.length (Frm.columns f) - (c + 1)) (restL left (setI left x10)))):Int))=true->List.length (laysIn f c left x10 x30) + 1=List.length (laysIn f c left x10 (x30 + 1)))
  (o66:Sound f/\c<=List.length (Frm.columns f)/\GoodLeft f left/\prodL left<=30->decide ((↑c:Int)=(↑(List.length (Frm.columns f)):Int))=false -> ∀ (x10:Nat),x10<=List.length (setsP left)->decide ((↑x10:Int) < (↑(List.length (setsFrom left [])):Int))=true->(!sureP f c (pointsP f (setI left x10)))=false -> ∀ (x19:Nat),x19<=List.length left->decide ((↑x19:Int) < (↑(List.length left):Int))=false -> ∀ (x30:Nat),x30<=List.length (moreL f c left x10)->decide ((↑x30:Int) < (↑(List.length (laysC f (List.length (Frm.columns f) - (c + 1)) (restL left (setI left x10)))):Int))=true -> ∀ (i34:Nat),i34 < List.length (laysIn f c left x10 x30) + 1->catF (List.length (laysIn f c left x10 x30)) (fun (i:Nat)=>[aIntss (List.getD (laysIn f c left x10 x30) i [])]) (fun (j:Nat)=>List.getD [[AV.sl 1 (1 + List.length (List.getD (laysC f (List.length (Frm.columns f) - (c + 1)) (restL left (setI left x10))) x30 [])) (catF 1 (fun (j:Nat)=>List.getD [[AV.sl 1 (List.length (List.getD (setsFrom left []) x10 [])) fun (i:Nat)=>[iv (List.getD (List.getD (setsFrom left []) x10 []) i 0)]]] j (TI.za ti27)) fun (i:Nat)=>[aInts (List.getD (List.getD (laysC f (List.length (Frm.columns f) - (c + 1)) (restL left (setI left x10))) x30 []) i [])])]] j (TI.za ti24)) i34 = [aIntss (List.getD (laysIn f c left x10 (x30 + 1)) i34 [])])
  (o67:Sound f/\c<=List.length (Frm.columns f)/\GoodLeft f left/\prodL left<=30->decide ((↑c:Int)=(↑(List.length (Frm.columns f)):Int))=false -> ∀ (x10:Nat),x10<=List.length (setsP left)->decide ((↑x10:Int) < (↑(List.length (setsFrom left [])):Int))=true->(!sureP f c (pointsP f (setI left x10)))=false -> ∀ (x19:Nat),x19<=List.length left->decide ((↑x19:Int) < (↑(List.length left):Int))=false -> ∀ (x30:Nat),x30<=List.length (moreL f c left x10)->decide ((↑x30:Int) < (↑(List.length (laysC f (List.length (Frm.columns f) - (c + 1)) (restL left (setI left x10)))):Int))=true->x30 + 1<=List.length (moreL f c left x10))
  (o68:Sound f/\c<=List.length (Frm.columns f)/\GoodLeft f left/\prodL left<=30->decide ((↑c:Int)=(↑(List.length (Frm.columns f)):Int))=false -> ∀ (x10:Nat),x10<=List.length (setsP left)->decide ((↑x10:Int) < (↑(List.length (setsFrom left [])):Int))=true->(!sureP f c (pointsP f (setI left x10)))=false -> ∀ (x19:Nat),x19<=List.length left->decide ((↑x19:Int) < (↑(List.length left):Int))=false -> ∀ (x30:Nat),x30<=List.length (moreL f c left x10)->decide ((↑x30:Int) < (↑(List.length (laysC f (List.length (Frm.columns f) - (c + 1)) (restL left (setI left x10)))):Int))=true->List.length (moreL f c left x10) - (x30 + 1) < List.length (moreL f c left x10) - x30)
  (o69:Sound f/\c<=List.length (Frm.columns f)/\GoodLeft f left/\prodL left<=30->decide ((↑c:Int)=(↑(List.length (Frm.columns f)):Int))=false -> ∀ (x10:Nat),x10<=List.length (setsP left)->decide ((↑x10:Int) < (↑(List.length (setsFrom left [])):Int))=true->(!sureP f c (pointsP f (setI left x10)))=false -> ∀ (x19:Nat),x19<=List.length left->decide ((↑x19:Int) < (↑(List.length left):Int))=false -> ∀ (x30:Nat),x30<=List.length (moreL f c left x10)->decide ((↑x30:Int) < (↑(List.length (laysC f (List.length (Frm.columns f) - (c + 1)) (restL left (setI left x10)))):Int))=false->inI ((↑x10:Int) + 1))
  (o70:Sound f/\c<=List.length (Frm.columns f)/\GoodLeft f left/\prodL left<=30->decide ((↑c:Int)=(↑(List.length (Frm.columns f)):Int))=false -> ∀ (x10:Nat),x10<=List.length (setsP left)->decide ((↑x10:Int) < (↑(List.length (setsFrom left [])):Int))=true->(!sureP f c (pointsP f (setI left x10)))=false -> ∀ (x19:Nat),x19<=List.length left->decide ((↑x19:Int) < (↑(List.length left):Int))=false -> ∀ (x30:Nat),x30<=List.length (moreL f c left x10)->decide ((↑x30:Int) < (↑(List.length (laysC f (List.length (Frm.columns f) - (c + 1)) (restL left (setI left x10)))):Int))=false->(↑x10:Int) + 1=(↑(x10 + 1):Int))
  (o71:Sound f/\c<=List.length (Frm.columns f)/\GoodLeft f left/\prodL left<=30->decide ((↑c:Int)=(↑(List.length (Frm.columns f)):Int))=false -> ∀ (x10:Nat),x10<=List.length (setsP left)->decide ((↑x10:Int) < (↑(List.length (setsFrom left [])):Int))=true->(!sureP f c (pointsP f (setI left x10)))=false -> ∀ (x19:Nat),x19<=List.length left->decide ((↑x19:Int) < (↑(List.length left):Int))=false -> ∀ (x30:Nat),x30<=List.length (moreL f c left x10)->decide ((↑x30:Int) < (↑(List.length (laysC f (List.length (Frm.columns f) - (c + 1)) (restL left (setI left x10)))):Int))=false->List.length (laysIn f c left x10 x30)=List.length (laysTo f c left (x10 + 1)))
  (o72:Sound f/\c<=List.length (Frm.columns f)/\GoodLeft f left/\prodL left<=30->decide ((↑c:Int)=(↑(List.length (Frm.columns f)):Int))=false -> ∀ (x10:Nat),x10<=List.length (setsP left)->decide ((↑x10:Int) < (↑(List.length (setsFrom left [])):Int))=true->(!sureP f c (pointsP f (setI left x10)))=false -> ∀ (x19:Nat),x19<=List.length left->decide ((↑x19:Int) < (↑(List.length left):Int))=false -> ∀ (x30:Nat),x30<=List.length (moreL f c left x10)->decide ((↑x30:Int) < (↑(List.length (laysC f (List.length (Frm.columns f) - (c + 1)) (restL left (setI left x10)))):Int))=false -> ∀ (i36:Nat),i36 < List.length (laysIn f c left x10 x30) -> [aIntss (List.getD (laysIn f c left x10 x30) i36 [])] = [aIntss (List.getD (laysTo f c left (x10 + 1)) i36 [])])
  (o73:Sound f/\c<=List.length (Frm.columns f)/\GoodLeft f left/\prodL left<=30->decide ((↑c:Int)=(↑(List.length (Frm.columns f)):Int))=false -> ∀ (x10:Nat),x10<=List.length (setsP left)->decide ((↑x10:Int) < (↑(List.length (setsFrom left [])):Int))=true->(!sureP f c (pointsP f (setI left x10)))=false -> ∀ (x19:Nat),x19<=List.length left->decide ((↑x19:Int) < (↑(List.length left):Int))=false -> ∀ (x30:Nat),x30<=List.length (moreL f c left x10)->decide ((↑x30:Int) < (↑(List.length (laysC f (List.length (Frm.columns f) - (c + 1)) (restL left (setI left x10)))):Int))=false->x10 + 1<=List.length (setsP left))
  (o74:Sound f/\c<=List.length (Frm.columns f)/\GoodLeft f left/\prodL left<=30->decide ((↑c:Int)=(↑(List.length (Frm.columns f)):Int))=false -> ∀ (x10:Nat),x10<=List.length (setsP left)->decide ((↑x10:Int) < (↑(List.length (setsFrom left [])):Int))=true->(!sureP f c (pointsP f (setI left x10)))=false -> ∀ (x19:Nat),x19<=List.length left->decide ((↑x19:Int) < (↑(List.length left):Int))=false -> ∀ (x30:Nat),x30<=List.length (moreL f c left x10)->decide ((↑x30:Int) < (↑(List.length (laysC f (List.length (Frm.columns f) - (c + 1)) (restL left (setI left x10)))):Int))=false->List.length (setsP left) - (x10 + 1) < List.length (setsP left) - x10)
  (o75:Sound f/\c<=List.length (Frm.columns f)/\GoodLeft f left/\prodL left<=30->decide ((↑c:Int)=(↑(List.length (Frm.columns f)):Int))=false -> ∀ (x10:Nat),x10<=List.length (setsP left)->decide ((↑x10:Int) < (↑(List.length (setsFrom left [])):Int))=false->List.length (laysTo f c left x10)=List.length (laysC f (List.length (Frm.columns f) - c) left))
  (o76:Sound f/\c<=List.length (Frm.columns f)/\GoodLeft f left/\prodL left<=30->decide ((↑c:Int)=(↑(List.length (Frm.columns f)):Int))=false -> ∀ (x10:Nat),x10<=List.length (setsP left)->decide ((↑x10:Int) < (↑(List.length (setsFrom left [])):Int))=false -> ∀ (i38:Nat),i38 < List.length (laysC f (List.length (Frm.columns f) - c) left) -> [aIntss (List.getD (laysTo f c left x10) i38 [])] = [aIntss (List.getD (laysC f (List.length (Frm.columns f) - c) left) i38 [])]) :
  Triple Try.prog 105 (s105 f c left):=by
 refine triple_of Try.func105 rfl Try.call105 T0_ok _ rfl rfl rfl rfl (Nat.le_of_ble_eq_true (by kernel_rfl)) (fun _ _ _ _ h=>h) ?_
 intro hpre C hC _ hE
 obtain ⟨P,w0,E0,av,hA,ro,df⟩:=C
 obtain ⟨rfl,rfl,rfl⟩:=hC
 refine swp_seq ?_
 refine zR [1,2,3] [0] (Ak 2 tv) ?_
 refine swp_seq ?_
 refine swp_seq ?_
 refine zR [1,2,3,18] [0] (Ak 5 tv) ?_
 refine zI (decide ((↑c:Int)=(↑(List.length (Frm.columns f)):Int))) (fun y0 => ?_) (fun y0 => ?_)
 ·refine swp_seq ?_
  refine zC ([(0,c105z)]) [6] [56] (An (An (An (fun (i1:Env)=>(fun (i2:Bool)=>(fun (i3:Value)=>(fun (y4:Rel i1 i2 nilv i3)=>(o0 hpre y0 i1 i2 i3 y4))))) tv) tv) (Ak 1 tv)) ?_
  refine swp_ret ?_
  exact zT [56] (An (Ak 1 tv) (An (An (zr 1) (An (o1 hpre y0) (fun (i5:Nat)=>(fun (y6:i5 < List.length (laysC f (List.length (Frm.columns f) - c) left))=>(o2 hpre y0 i5 y6))))) (An (zr true) (An (zr true) (zr true)))))
 ·refine swp_skip ?_
  refine swp_seq ?_
  refine zR [1,2,3,7] [0] (Ak 1 tv) ?_
  refine swp_seq ?_
  refine zC ([(1,CallSpec.eq (c105s f c left) [true,false])]) [1,2,3,7,8] [0] (Ak 1 (An (An (An (zr (aInts left)) (An (zr 0) tv)) (An (t134 (left) ([])) (An (An (o3 hpre y0) (An (o4 hpre y0) (fun (i7:Nat)=>(fun (y8:i7 < List.length left)=>(An (o5 hpre y0 i7 y8) (o6 hpre y0 i7 y8)))))) (Ak 1 (fun (i9:Env)=>tv))))) (Ak 1 tv))) ?_
  refine swp_seq ?_
  refine swp_seq ?_
  refine zR [1,2,3,7,8,9] [0] (Ak 1 tv) ?_
  refine swp_block ?_
  refine zL (Hint.ann (h105a f c left) [(1,iv (↑c:Int)),(2,aInts left),(3,AV.ptr 0 []),(8,aIntss (setsFrom left []))] [(0,OB.cells 26 (cFrm f))] 10096) (zE hE [] [(0,.same 0),(5000,.nil)] [1,2,8] [0] (An (An (An (zr (iv (↑c:Int))) (zr true)) (An (An (zr (aInts left)) (zr true)) (An (An (zr (some (Src.same 0))) (zr nilP)) (An (An (zr (aIntss (setsFrom left []))) (zr true)) (An (zr (some Src.nil)) (An (An (ci (o7 hpre y0)) (zr nilN)) tv)))))) (An (An (An (zr (OB.cells 26 (cFrm f))) (zr true)) (An (o8 hpre y0) tv)) (An (zr true) (zr true))))) (o9 hpre y0) (fun (x10:Nat) hx10 => ?_)
  refine swp_seq ?_
  refine swp_seq ?_
  refine zR [1,2,3,8,7,9,25] [0,5000] (Ak 4 tv) ?_
  refine zI (decide ((↑x10:Int) < (↑(List.length (setsFrom left [])):Int))) (fun y11 => ?_) (fun y11 => ?_)
  ·refine swp_skip ?_
   refine swp_seq ?_
   refine swp_block ?_
   refine swp_seq ?_
   refine swp_seq ?_
   refine zC ([(7,CallSpec.eq (c105p f c left x10) [true,false]),(8,CallSpec.eq (s101 f c (pointsP f (setI left x10))) [true,true,true])]) [1,2,3,8,7,9,37] [0,5000] (Ak 5 (An (An (o10 hpre y0 x10 hx10 y11) (o11 hpre y0 x10 hx10 y11)) (Ak 1 (An (An (An (zr (AV.agg (cFrm f))) (An (An (zr 1) (An (o12 hpre y0 x10 hx10 y11) (fun (i12:Nat)=>(fun (y13:i12 < List.length (setI left x10))=>(o13 hpre y0 x10 hx10 y11 i12 y13))))) tv)) (An (t23 (f) (setI left x10)) (An (An hpre.1 (o14 hpre y0 x10 hx10 y11)) (Ak 1 (fun (i14:Env)=>tv))))) (An (An (An (zr (AV.agg (cFrm f))) (An (zr (iv (↑c:Int))) (An (zr (iv (pointsP f (setI left x10)))) tv))) (An (t101 (f) (c) (pointsP f (setI left x10))) (An (An hpre.1 (An (o15 hpre y0 x10 hx10 y11) (An (o16 hpre y0 x10 hx10 y11) (o17 hpre y0 x10 hx10 y11)))) (Ak 1 (fun (i15:Env)=>tv))))) (Ak 1 tv)))))) ?_
   refine zI (!sureP f c (pointsP f (setI left x10))) (fun y16 => ?_) (fun y16 => ?_)
   ·refine swp_exit ?_
    refine zR [1,2,3,8,7,9] [0,5000] (Ak 1 (An (o18 hpre y0 x10 hx10 y11 y16) (Ak 1 tv))) ?_
    exact zn (zE hE [] [(0,.same 0),(5000,.same 5000)] [1,2,8] [0] (An (An (An (zr (iv (↑c:Int))) (zr true)) (An (An (zr (aInts left)) (zr true)) (An (An (zr (some (Src.same 0))) (zr nilP)) (An (An (zr (aIntss (setsFrom left []))) (zr true)) (An (zr (some (Src.same 5000))) (An (An (ci (o19 hpre y0 x10 hx10 y11 y16)) (zr nilN)) tv)))))) (An (An (An (zr (OB.cells 26 (cFrm f))) (zr true)) (An (An (zr 24) (An (zr 1) (An (o20 hpre y0 x10 hx10 y11 y16) (fun (i17:Nat)=>(fun (y18:i17 < List.length (laysTo f c left x10))=>(o21 hpre y0 x10 hx10 y11 y16 i17 y18)))))) tv)) (An (zr true) (zr true))))) (o22 hpre y0 x10 hx10 y11 y16) (o23 hpre y0 x10 hx10 y11 y16)
   ·refine swp_skip ?_
    refine swp_seq ?_
    refine zR [1,2,3,8,7,9,10] [0,5000,10224] (Ak 2 (An (o24 hpre y0 x10 hx10 y11 y16) (Ak 1 tv))) ?_
    refine swp_seq ?_
    refine swp_seq ?_
    refine zR [1,2,3,8,7,9,10,11] [0,5000,10224] (Ak 1 tv) ?_
    refine swp_block ?_
    refine zL (Hint.ann (h105b f c left x10) [(1,iv (↑c:Int)),(2,aInts left),(3,AV.ptr 0 []),(8,aIntss (setsFrom left [])),(7,AV.vec 5000),(9,iv (↑x10:Int))] [(0,OB.cells 26 (cFrm f)),(5000,OB.vec 24 1 (List.length (laysTo f c left x10)) fun (i:Nat)=>[aIntss (List.getD (laysTo f c left x10) i [])])] 20248) (zE hE [] [(0,.same 0),(5000,.same 5000),(5001,.same 10224)] [1,2,8,9] [0,5000] (An (An (An (zr (iv (↑c:Int))) (zr true)) (An (An (zr (aInts left)) (zr true)) (An (An (zr (some (Src.same 0))) (zr nilP)) (An (An (zr (aIntss (setsFrom left []))) (zr true)) (An (zr (some (Src.same 5000))) (An (An (zr (iv (↑x10:Int))) (zr true)) (An (zr (some (Src.same 10224))) (An (An (ci (o25 hpre y0 x10 hx10 y11 y16)) (zr nilN)) tv)))))))) (An (An (An (zr (OB.cells 26 (cFrm f))) (zr true)) (An (An (zr (OB.vec 24 1 (List.length (laysTo f c left x10)) fun (i:Nat)=>[aIntss (List.getD (laysTo f c left x10) i [])])) (zr true)) (An (An (zr 3) (An (zr 1) (An (o26 hpre y0 x10 hx10 y11 y16) (fun (i20:Nat)=>(fun (y21:i20 < 0 + List.length left)=>(o27 hpre y0 x10 hx10 y11 y16 i20 y21)))))) tv))) (An (zr true) (zr true))))) (o28 hpre y0 x10 hx10 y11 y16) (fun (x19:Nat) hx19 => ?_)
    refine swp_seq ?_
    refine swp_seq ?_
    refine zR [1,2,3,8,7,9,10,11,44] [0,5000,5001] (Ak 4 tv) ?_
    refine zI (decide ((↑x19:Int) < (↑(List.length left):Int))) (fun y22 => ?_) (fun y22 => ?_)
    ·refine swp_skip ?_
     refine swp_seq ?_
     refine swp_block ?_
     refine zR [1,2,3,8,7,9,10,11] [0,5000,5001] (Ak 2 (An (An (o29 hpre y0 x10 hx10 y11 y16 x19 hx19 y22) (o30 hpre y0 x10 hx10 y11 y16 x19 hx19 y22)) (An (An (o31 hpre y0 x10 hx10 y11 y16 x19 hx19 y22) tv) (Ak 2 (An (An (o32 hpre y0 x10 hx10 y11 y16 x19 hx19 y22) (o33 hpre y0 x10 hx10 y11 y16 x19 hx19 y22)) (Ak 2 (An (An (o34 hpre y0 x10 hx10 y11 y16 x19 hx19 y22) (o35 hpre y0 x10 hx10 y11 y16 x19 hx19 y22)) (Ak 1 (An (o36 hpre y0 x10 hx10 y11 y16 x19 hx19 y22) (An (An (o37 hpre y0 x10 hx10 y11 y16 x19 hx19 y22) (o38 hpre y0 x10 hx10 y11 y16 x19 hx19 y22)) (An (An (o39 hpre y0 x10 hx10 y11 y16 x19 hx19 y22) tv) tv))))))))))) ?_
     refine zR [1,2,3,8,7,9,10,11] [0,5000,5001] (Ak 1 (An (o40 hpre y0 x10 hx10 y11 y16 x19 hx19 y22) (Ak 1 tv))) ?_
     exact zn (zE hE [] [(0,.same 0),(5000,.same 5000),(5001,.same 5001)] [1,2,8,9] [0,5000] (An (An (An (zr (iv (↑c:Int))) (zr true)) (An (An (zr (aInts left)) (zr true)) (An (An (zr (some (Src.same 0))) (zr nilP)) (An (An (zr (aIntss (setsFrom left []))) (zr true)) (An (zr (some (Src.same 5000))) (An (An (zr (iv (↑x10:Int))) (zr true)) (An (zr (some (Src.same 5001))) (An (An (ci (o41 hpre y0 x10 hx10 y11 y16 x19 hx19 y22)) (zr nilN)) tv)))))))) (An (An (An (zr (OB.cells 26 (cFrm f))) (zr true)) (An (An (zr (OB.vec 24 1 (List.length (laysTo f c left x10)) fun (i:Nat)=>[aIntss (List.getD (laysTo f c left x10) i [])])) (zr true)) (An (An (zr 3) (An (zr 1) (An (zr (List.length left)) (fun (i23:Nat)=>(fun (y24:i23 < List.length left)=>(o42 hpre y0 x10 hx10 y11 y16 x19 hx19 y22 i23 y24)))))) tv))) (An (zr true) (zr true))))) (o43 hpre y0 x10 hx10 y11 y16 x19 hx19 y22) (o44 hpre y0 x10 hx10 y11 y16 x19 hx19 y22)
    ·refine swp_exit ?_
     refine swp_seq ?_
     refine swp_ent (zE (st2:=ASt.mk [(1,iv (↑c:Int)),(2,aInts left),(3,AV.ptr 0 []),(8,aIntss (setsFrom left [])),(7,AV.vec 5000),(9,iv (↑x10:Int)),(10,AV.sl 1 (List.length left) fun (q:Nat)=>[iv (restQ left (setI left x10) x19 q)]),(11,iv (↑x19:Int)),(44,bv (decide ((↑x19:Int) < (↑(List.length left):Int))))] [(0,OB.cells 26 (cFrm f)),(5000,OB.vec 24 1 (List.length (laysTo f c left x10)) fun (i:Nat)=>[aIntss (List.getD (laysTo f c left x10) i [])])] 20280) hE [5001] [(0,.same 0),(5000,.same 5000)] [1,2,8,9,11,44] [0,5000] (An (An (An (zr (iv (↑c:Int))) (zr true)) (An (An (zr (aInts left)) (zr true)) (An (An (zr (some (Src.same 0))) (zr nilP)) (An (An (zr (aIntss (setsFrom left []))) (zr true)) (An (zr (some (Src.same 5000))) (An (An (zr (iv (↑x10:Int))) (zr true)) (An (An (zr 1) (An (zr (List.length left)) (fun (i25:Nat)=>(fun (y26:i25 < List.length left)=>(zr ([iv (restQ left (setI left x10) x19 i25)])))))) (An (An (zr (iv (↑x19:Int))) (zr true)) (An (An (zr (bv (decide ((↑x19:Int) < (↑(List.length left):Int))))) (zr true)) tv))))))))) (An (An (An (zr (OB.cells 26 (cFrm f))) (zr true)) (An (An (zr (OB.vec 24 1 (List.length (laysTo f c left x10)) fun (i:Nat)=>[aIntss (List.getD (laysTo f c left x10) i [])])) (zr true)) tv)) (An (zr true) (zr true))))) ?_
     refine zC ([(4,CallSpec.eq (c105r f c left x10) [true,false,false])]) [1,2,3,8,7,9,12] [0,5000] (Ak 2 (An (o45 hpre y0 x10 hx10 y11 y16 x19 hx19 y22) (Ak 1 (An (An (An (zr (AV.agg (cFrm f))) (An (ci (o46 hpre y0 x10 hx10 y11 y16 x19 hx19 y22)) (An (An (zr 1) (An (o47 hpre y0 x10 hx10 y11 y16 x19 hx19 y22) (fun (i27:Nat)=>(fun (y28:i27 < List.length (restL left (setI left x10)))=>(o48 hpre y0 x10 hx10 y11 y16 x19 hx19 y22 i27 y28))))) tv))) (An (o49 hpre y0 x10 hx10 y11 y16 x19 hx19 y22) (An (An hpre.1 (An (o50 hpre y0 x10 hx10 y11 y16 x19 hx19 y22) (An (o51 hpre y0 x10 hx10 y11 y16 x19 hx19 y22) (o52 hpre y0 x10 hx10 y11 y16 x19 hx19 y22)))) (Ak 1 (fun (i29:Env)=>tv))))) (Ak 1 tv))))) ?_
     refine swp_seq ?_
     refine zR [1,2,3,8,7,9,12,13] [0,5000] (Ak 1 tv) ?_
     refine swp_block ?_
     refine zL (Hint.ann (h105c f c left x10) [(1,iv (↑c:Int)),(2,aInts left),(3,AV.ptr 0 []),(8,aIntss (setsFrom left [])),(9,iv (↑x10:Int)),(12,aLays (laysC f (List.length (Frm.columns f) - (c + 1)) (restL left (setI left x10))))] [(0,OB.cells 26 (cFrm f))] 30336) (zE hE [] [(0,.same 0),(5002,.same 5000)] [1,2,8,9,12] [0] (An (An (An (zr (iv (↑c:Int))) (zr true)) (An (An (zr (aInts left)) (zr true)) (An (An (zr (some (Src.same 0))) (zr nilP)) (An (An (zr (aIntss (setsFrom left []))) (zr true)) (An (An (zr (iv (↑x10:Int))) (zr true)) (An (An (zr (aLays (laysC f (List.length (Frm.columns f) - (c + 1)) (restL left (setI left x10))))) (zr true)) (An (zr (some (Src.same 5000))) (An (An (ci (o53 hpre y0 x10 hx10 y11 y16 x19 hx19 y22)) (zr nilN)) tv)))))))) (An (An (An (zr (OB.cells 26 (cFrm f))) (zr true)) (An (An (zr 24) (An (zr 1) (An (o54 hpre y0 x10 hx10 y11 y16 x19 hx19 y22) (fun (i31:Nat)=>(fun (y32:i31 < List.length (laysTo f c left x10))=>(o55 hpre y0 x10 hx10 y11 y16 x19 hx19 y22 i31 y32)))))) tv)) (An (zr true) (zr true))))) (o56 hpre y0 x10 hx10 y11 y16 x19 hx19 y22) (fun (x30:Nat) hx30 => ?_)
     refine swp_seq ?_
     refine swp_seq ?_
     refine zR [1,2,3,8,9,12,7,13,68] [0,5002] (Ak 4 tv) ?_
     refine zI (decide ((↑x30:Int) < (↑(List.length (laysC f (List.length (Frm.columns f) - (c + 1)) (restL left (setI left x10)))):Int))) (fun y33 => ?_) (fun y33 => ?_)
     ·refine swp_skip ?_
      refine swp_seq ?_
      refine swp_block ?_
      refine zR [1,2,3,8,9,12,7,13] [0,30464] (Ak 3 (An (An (o57 hpre y0 x10 hx10 y11 y16 x19 hx19 y22 x30 hx30 y33) (o58 hpre y0 x10 hx10 y11 y16 x19 hx19 y22 x30 hx30 y33)) (Ak 4 (An (An (o59 hpre y0 x10 hx10 y11 y16 x19 hx19 y22 x30 hx30 y33) (o60 hpre y0 x10 hx10 y11 y16 x19 hx19 y22 x30 hx30 y33)) (Ak 1 (An (o61 hpre y0 x10 hx10 y11 y16 x19 hx19 y22 x30 hx30 y33) (Ak 1 (An (o62 hpre y0 x10 hx10 y11 y16 x19 hx19 y22 x30 hx30 y33) (Ak 1 tv))))))))) ?_
      refine zR [1,2,3,8,9,12,7,13] [0,30464] (Ak 1 (An (o63 hpre y0 x10 hx10 y11 y16 x19 hx19 y22 x30 hx30 y33) (Ak 1 tv))) ?_
      exact zn (zE hE [] [(0,.same 0),(5002,.same 30464)] [1,2,8,9,12] [0] (An (An (An (zr (iv (↑c:Int))) (zr true)) (An (An (zr (aInts left)) (zr true)) (An (An (zr (some (Src.same 0))) (zr nilP)) (An (An (zr (aIntss (setsFrom left []))) (zr true)) (An (An (zr (iv (↑x10:Int))) (zr true)) (An (An (zr (aLays (laysC f (List.length (Frm.columns f) - (c + 1)) (restL left (setI left x10))))) (zr true)) (An (zr (some (Src.same 30464))) (An (An (ci (o64 hpre y0 x10 hx10 y11 y16 x19 hx19 y22 x30 hx30 y33)) (zr nilN)) tv)))))))) (An (An (An (zr (OB.cells 26 (cFrm f))) (zr true)) (An (An (zr 24) (An (zr 1) (An (o65 hpre y0 x10 hx10 y11 y16 x19 hx19 y22 x30 hx30 y33) (fun (i34:Nat)=>(fun (y35:i34 < List.length (laysIn f c left x10 x30) + 1)=>(o66 hpre y0 x10 hx10 y11 y16 x19 hx19 y22 x30 hx30 y33 i34 y35)))))) tv)) (An (zr true) (zr true))))) (o67 hpre y0 x10 hx10 y11 y16 x19 hx19 y22 x30 hx30 y33) (o68 hpre y0 x10 hx10 y11 y16 x19 hx19 y22 x30 hx30 y33)
     ·refine swp_exit ?_
      refine zR [1,2,3,8,9,7] [0,5002] (Ak 1 (An (o69 hpre y0 x10 hx10 y11 y16 x19 hx19 y22 x30 hx30 y33) (Ak 1 tv))) ?_
      exact zn (zE hE [] [(0,.same 0),(5000,.same 5002)] [1,2,8] [0] (An (An (An (zr (iv (↑c:Int))) (zr true)) (An (An (zr (aInts left)) (zr true)) (An (An (zr (some (Src.same 0))) (zr nilP)) (An (An (zr (aIntss (setsFrom left []))) (zr true)) (An (zr (some (Src.same 5002))) (An (An (ci (o70 hpre y0 x10 hx10 y11 y16 x19 hx19 y22 x30 hx30 y33)) (zr nilN)) tv)))))) (An (An (An (zr (OB.cells 26 (cFrm f))) (zr true)) (An (An (zr 24) (An (zr 1) (An (o71 hpre y0 x10 hx10 y11 y16 x19 hx19 y22 x30 hx30 y33) (fun (i36:Nat)=>(fun (y37:i36 < List.length (laysIn f c left x10 x30))=>(o72 hpre y0 x10 hx10 y11 y16 x19 hx19 y22 x30 hx30 y33 i36 y37)))))) tv)) (An (zr true) (zr true))))) (o73 hpre y0 x10 hx10 y11 y16 x19 hx19 y22 x30 hx30 y33) (o74 hpre y0 x10 hx10 y11 y16 x19 hx19 y22 x30 hx30 y33)
  ·refine swp_exit ?_
   refine swp_seq ?_
   refine zR [6] [5000] (Ak 2 tv) ?_
   refine swp_ret ?_
   exact zT [5000] (An (Ak 1 tv) (An (An (zr 1) (An (o75 hpre y0 x10 hx10 y11) (fun (i38:Nat)=>(fun (y39:i38 < List.length (laysC f (List.length (Frm.columns f) - c) left))=>(o76 hpre y0 x10 hx10 y11 i38 y39))))) (An (zr true) (An (zr true) (zr true)))))
theorem lay_cells {d:List AV} (s:List Int) (l:List (List Int)):AV.sl 1 (1 + l.length) (catF 1 (fun j=>[[aInts s]].getD j d) (fun i=>[aInts (l.getD i [])]))=aIntss (s :: l):=by
 have:(catF 1 (fun j=>[[aInts s]].getD j d) (fun i=>[aInts (l.getD i [])]))=fun i=>[aInts ((s :: l).getD i [])]:=by
  funext i
  unfold catF
  cases i with
  | zero=>rfl
  | succ i=>rw [if_neg (by omega),Nat.add_sub_cancel]; rfl
 unfold aIntss
 rw [this,List.length_cons,Nat.add_comm]
theorem t105 (f:Frm) (c:Nat) (left:List Int):Triple Try.prog 105 (s105 f c left):=by
  have key:∀ (k c:Nat) (left:List Int),f.columns.length - c<=k->Triple Try.prog 105 (s105 f c left):=by
    intro k
    induction k with
    | zero =>
      intro c left hk
      apply w105
      all_goals (rintro ⟨hs,hc,hl,hp⟩; have he:c=f.columns.length:=by omega)
      case o0=>intro _ E o u h; cases h; exact Rel.slN 1 _
      case o1=>intro _; rw [he,Nat.sub_self]; rfl
      case o2 =>
        intro _ i hi
        rw [he,Nat.sub_self] at hi ⊢
        have:i=0:=by (have h1:(laysC f 0 left).length=1:=rfl); omega
        subst this; rfl
      all_goals (intro h; exact absurd (by omega) (of_decide_eq_false h))
    | succ k ih =>
      intro c left hk
      apply w105
      all_goals (rintro ⟨hs,hc,hl,hp⟩)
      case o0=>intro _ E o u h; cases h; exact Rel.slN 1 _
      case o1=>intro h; rw [show c=f.columns.length by have:=of_decide_eq_true h; omega,Nat.sub_self]; rfl
      case o2 =>
        intro h i hi
        rw [show c=f.columns.length by have:=of_decide_eq_true h; omega,Nat.sub_self] at hi ⊢
        have:i=0:=by (have h1:(laysC f 0 left).length=1:=rfl); omega
        subst this; rfl
      all_goals (intro h; have he:c < f.columns.length:=(by have:=of_decide_eq_false h; omega); have h3:=hl.short hs; have hcl:=hs.columns)
      case o3=>exact Nat.zero_le _
      case o4=>exact h3
      case o5=>intro q hq; exact hl.nonneg q hq
      case o6=>intro q hq; exact hl.small hs q hq
      case o7 | o8=>rfl
      case o9=>exact Nat.zero_le _
      all_goals (intro x hx hx2; simp only [decide_eq_true_eq,decide_eq_false_iff_not] at hx2)
      all_goals (rw [setsFrom_nil] at hx2)
      all_goals (try rw [setsFrom_nil])
      case o75=>rw [show x=(setsP left).length by omega,laysTo_end he]
      case o76=>intro i hi; rw [show x=(setsP left).length by omega,laysTo_end he]
      all_goals (have hxl:x < prodL left:=(by rw [← setsP_len]; omega); have hsn:=setI_N hxl; have hset:=hl.isSet hxl; have hpts:=pts_bound hs hset; have hmem:=hl.set hxl; rw [← hsn] at hset hpts hmem)
      case o10 | o11=>omega
      case o12=>rfl
      case o13=>intro i hi; rfl
      case o14=>exact hset
      case o15=>exact he
      case o16 | o17=>omega
      all_goals (intro hsu; have hsu2:=hsu; simp only [Bool.not_eq_true',Bool.not_eq_false'] at hsu2)
      case o18 | o19=>first | omega | (have:=Nat.le_of_lt hxl; have:prodL left<=30:=hp; simp only [inI]; omega)
      case o20=>rw [laysTo_succ (by omega),laysOf_f hsu2,List.append_nil]
      case o21=>intro i hi; rw [laysTo_succ (by omega),laysOf_f hsu2,List.append_nil]
      case o22 | o23=>omega
      case o24 | o26 | o28=>omega
      case o25=>rfl
      case o27=>intro i hi; rfl
      all_goals (intro y hy hy2; simp only [decide_eq_true_eq,decide_eq_false_iff_not] at hy2)
      case o36 =>
        have a:=hmem y (by omega)
        have b:=hl.small hs y (by omega)
        have e:(setsP left).getD x []=setI left x:=rfl
        rw [restQ_self,e]; simp only [inI]; omega
      case o35 => have e : ((setsP left).getD x []).length = left.length := by (show (setI left x).length = _; rw [hsn, setN_len])
                  omega
      case o42 =>
        intro i hi
        refine rec_ei (fun h => ?_) (fun h => ?_)
        · unfold restQ
          by_cases h5:i < y
          · rw [if_pos h5,if_pos (by omega)]
          · rw [if_neg h5,if_neg (by omega)]
        · subst h
          rw [restQ_self]
          unfold restQ
          rw [if_pos (Nat.lt_succ_self _)]; rfl
      case o29 | o30 | o31 | o32 | o33 | o34 | o37 | o38 | o39 | o40 | o41 | o43 | o44=>first | omega | (simp only [inI]; omega)
      case o45 | o46=>first | omega | (simp only [inI]; omega)
      case o47=>exact (restL_len _ _).symm
      case o48=>intro i hi; rw [restL_len] at hi; rw [show y=left.length by omega,restQ_end hi]
      case o49=>exact ih _ _ (by omega)
      case o50=>omega
      case o51=>rw [hsn]; exact hl.rest hxl
      case o52=>exact rest_prod hl hxl hp
      case o53=>rfl
      case o54=>rw [laysIn_zero]
      case o55=>intro i hi; rw [laysIn_zero]
      case o56=>exact Nat.zero_le _
      all_goals (intro z hz hz2; simp only [decide_eq_true_eq,decide_eq_false_iff_not] at hz2)
      all_goals (have hml:(moreL f c left x).length=(laysC f (f.columns.length - (c + 1)) (restL left (setI left x))).length:=rfl)
      all_goals (have hm9:=moreL_len hs hl hp (c:=c) hxl; have hin:=laysIn_len hs hl hp (c:=c) hxl z)
      case o61 => have := moreL_at hs (c := c) (left := left) (x := x) (k := z) (by omega)
                  have e:(laysC f (f.columns.length - (c + 1)) (restL left (setI left x))).getD z []=(moreL f c left x).getD z []:=rfl
                  rw [e]; omega
      case o65=>rw [laysIn_succ (by omega),List.length_append]; rfl
      case o66 =>
        intro i hi
        rw [laysIn_succ (by omega)]
        exact catF_one (laysIn f c left x z) (setI left x :: (moreL f c left x).getD z []) [] (fun l=>[aIntss l]) rfl (fun _ _=>rfl) (congrArg (fun v=>[v]) (lay_cells _ _)) hi
      case o71=>rw [laysIn_end (by omega) (by omega) hsu2]
      case o72=>intro i hi; rw [laysIn_end (by omega) (by omega) hsu2]
      all_goals (first | omega | (simp only [inI]; omega))
  exact key _ c left (Nat.le_refl _)
theorem w78 (f:Frm)
  (o0:fitsF f/\(okFrm f=true->prodF f (List.length (Frm.strips f))<=30)->(!decide (checkF f=0))=true->List.length (lockR f)=0)
  (o1:fitsF f/\(okFrm f=true->prodF f (List.length (Frm.strips f))<=30)->(!decide (checkF f=0))=true->checkF f=stripsE f)
  (o2:fitsF f/\(okFrm f=true->prodF f (List.length (Frm.strips f))<=30)->(!decide (checkF f=0))=false->Sound f)
  (o3:fitsF f/\(okFrm f=true->prodF f (List.length (Frm.strips f))<=30)->(!decide (checkF f=0))=false->0=(↑0:Int))
  (o4:fitsF f/\(okFrm f=true->prodF f (List.length (Frm.strips f))<=30)->(!decide (checkF f=0))=false->Sound f)
  (o5:fitsF f/\(okFrm f=true->prodF f (List.length (Frm.strips f))<=30)->(!decide (checkF f=0))=false->0<=List.length (Frm.columns f))
  (o6:fitsF f/\(okFrm f=true->prodF f (List.length (Frm.strips f))<=30)->(!decide (checkF f=0))=false->GoodLeft f (stockTo f (List.length (Frm.strips f))))
  (o7:fitsF f/\(okFrm f=true->prodF f (List.length (Frm.strips f))<=30)->(!decide (checkF f=0))=false->prodL (stockTo f (List.length (Frm.strips f)))<=30)
  (o8:fitsF f/\(okFrm f=true->prodF f (List.length (Frm.strips f))<=30)->(!decide (checkF f=0))=false->decide ((↑(List.length (laysC f (List.length (Frm.columns f) - 0) (stockTo f (List.length (Frm.strips f))))):Int)=0)=true->List.length (lockR f)=0)
  (o9:fitsF f/\(okFrm f=true->prodF f (List.length (Frm.strips f))<=30)->(!decide (checkF f=0))=false->decide ((↑(List.length (laysC f (List.length (Frm.columns f) - 0) (stockTo f (List.length (Frm.strips f))))):Int)=0)=true->3=stripsE f)
  (o10:fitsF f/\(okFrm f=true->prodF f (List.length (Frm.strips f))<=30)->(!decide (checkF f=0))=false->decide ((↑(List.length (laysC f (List.length (Frm.columns f) - 0) (stockTo f (List.length (Frm.strips f))))):Int)=0)=false->0 < (↑(List.length (laysC f (List.length (Frm.columns f) - 0) (stockTo f (List.length (Frm.strips f))))):Int))
  (o11:fitsF f/\(okFrm f=true->prodF f (List.length (Frm.strips f))<=30)->(!decide (checkF f=0))=false->decide ((↑(List.length (laysC f (List.length (Frm.columns f) - 0) (stockTo f (List.length (Frm.strips f))))):Int)=0)=false->List.length (List.getD (laysC f (List.length (Frm.columns f) - 0) (stockTo f (List.length (Frm.strips f)))) 0 [])=List.length (bestTo (laysA f) 0))
  (o12:fitsF f/\(okFrm f=true->prodF f (List.length (Frm.strips f))<=30)->(!decide (checkF f=0))=false->decide ((↑(List.length (laysC f (List.length (Frm.columns f) - 0) (stockTo f (List.length (Frm.strips f))))):Int)=0)=false -> ∀ (i6:Nat),i6 < List.length (bestTo (laysA f) 0) -> [aInts (List.getD (List.getD (laysC f (List.length (Frm.columns f) - 0) (stockTo f (List.length (Frm.strips f)))) 0 []) i6 [])] = [aInts (List.getD (bestTo (laysA f) 0) i6 [])])
  (o13:fitsF f/\(okFrm f=true->prodF f (List.length (Frm.strips f))<=30)->(!decide (checkF f=0))=false->decide ((↑(List.length (laysC f (List.length (Frm.columns f) - 0) (stockTo f (List.length (Frm.strips f))))):Int)=0)=false->0=(↑0:Int))
  (o14:fitsF f/\(okFrm f=true->prodF f (List.length (Frm.strips f))<=30)->(!decide (checkF f=0))=false->decide ((↑(List.length (laysC f (List.length (Frm.columns f) - 0) (stockTo f (List.length (Frm.strips f))))):Int)=0)=false->0<=List.length (laysA f))
  (o15:fitsF f/\(okFrm f=true->prodF f (List.length (Frm.strips f))<=30)->(!decide (checkF f=0))=false->decide ((↑(List.length (laysC f (List.length (Frm.columns f) - 0) (stockTo f (List.length (Frm.strips f))))):Int)=0)=false -> ∀ (x5:Nat),x5<=List.length (laysA f)->decide ((↑x5:Int) < (↑(List.length (laysC f (List.length (Frm.columns f) - 0) (stockTo f (List.length (Frm.strips f))))):Int))=true->0<=(↑x5:Int))
  (o16:fitsF f/\(okFrm f=true->prodF f (List.length (Frm.strips f))<=30)->(!decide (checkF f=0))=false->decide ((↑(List.length (laysC f (List.length (Frm.columns f) - 0) (stockTo f (List.length (Frm.strips f))))):Int)=0)=false -> ∀ (x5:Nat),x5<=List.length (laysA f)->decide ((↑x5:Int) < (↑(List.length (laysC f (List.length (Frm.columns f) - 0) (stockTo f (List.length (Frm.strips f))))):Int))=true->(↑x5:Int) < (↑(List.length (laysC f (List.length (Frm.columns f) - 0) (stockTo f (List.length (Frm.strips f))))):Int))
  (o17:fitsF f/\(okFrm f=true->prodF f (List.length (Frm.strips f))<=30)->(!decide (checkF f=0))=false->decide ((↑(List.length (laysC f (List.length (Frm.columns f) - 0) (stockTo f (List.length (Frm.strips f))))):Int)=0)=false -> ∀ (x5:Nat),x5<=List.length (laysA f)->decide ((↑x5:Int) < (↑(List.length (laysC f (List.length (Frm.columns f) - 0) (stockTo f (List.length (Frm.strips f))))):Int))=true->List.length (List.getD (laysC f (List.length (Frm.columns f) - 0) (stockTo f (List.length (Frm.strips f)))) x5 [])=List.length (List.getD (laysA f) x5 []))
  (o18:fitsF f/\(okFrm f=true->prodF f (List.length (Frm.strips f))<=30)->(!decide (checkF f=0))=false->decide ((↑(List.length (laysC f (List.length (Frm.columns f) - 0) (stockTo f (List.length (Frm.strips f))))):Int)=0)=false -> ∀ (x5:Nat),x5<=List.length (laysA f)->decide ((↑x5:Int) < (↑(List.length (laysC f (List.length (Frm.columns f) - 0) (stockTo f (List.length (Frm.strips f))))):Int))=true -> ∀ (i9:Nat),i9 < List.length (List.getD (laysA f) x5 []) -> [aInts (List.getD (List.getD (laysC f (List.length (Frm.columns f) - 0) (stockTo f (List.length (Frm.strips f)))) x5 []) i9 [])] = [aInts (List.getD (List.getD (laysA f) x5 []) i9 [])])
  (o19:fitsF f/\(okFrm f=true->prodF f (List.length (Frm.strips f))<=30)->(!decide (checkF f=0))=false->decide ((↑(List.length (laysC f (List.length (Frm.columns f) - 0) (stockTo f (List.length (Frm.strips f))))):Int)=0)=false -> ∀ (x5:Nat),x5<=List.length (laysA f)->decide ((↑x5:Int) < (↑(List.length (laysC f (List.length (Frm.columns f) - 0) (stockTo f (List.length (Frm.strips f))))):Int))=true->okLay (List.getD (laysA f) x5 []))
  (o20:fitsF f/\(okFrm f=true->prodF f (List.length (Frm.strips f))<=30)->(!decide (checkF f=0))=false->decide ((↑(List.length (laysC f (List.length (Frm.columns f) - 0) (stockTo f (List.length (Frm.strips f))))):Int)=0)=false -> ∀ (x5:Nat),x5<=List.length (laysA f)->decide ((↑x5:Int) < (↑(List.length (laysC f (List.length (Frm.columns f) - 0) (stockTo f (List.length (Frm.strips f))))):Int))=true->okLay (bestTo (laysA f) x5))
  (o21:fitsF f/\(okFrm f=true->prodF f (List.length (Frm.strips f))<=30)->(!decide (checkF f=0))=false->decide ((↑(List.length (laysC f (List.length (Frm.columns f) - 0) (stockTo f (List.length (Frm.strips f))))):Int)=0)=false -> ∀ (x5:Nat),x5<=List.length (laysA f)->decide ((↑x5:Int) < (↑(List.length (laysC f (List.length (Frm.columns f) - 0) (stockTo f (List.length (Frm.strips f))))):Int))=true->decide (manyL (List.getD (laysA f) x5 []) < manyL (bestTo (laysA f) x5))=true->0<=(↑x5:Int))
  (o22:fitsF f/\(okFrm f=true->prodF f (List.length (Frm.strips f))<=30)->(!decide (checkF f=0))=false->decide ((↑(List.length (laysC f (List.length (Frm.columns f) - 0) (stockTo f (List.length (Frm.strips f))))):Int)=0)=false -> ∀ (x5:Nat),x5<=List.length (laysA f)->decide ((↑x5:Int) < (↑(List.length (laysC f (List.length (Frm.columns f) - 0) (stockTo f (List.length (Frm.strips f))))):Int))=true->decide (manyL (List.getD (laysA f) x5 []) < manyL (bestTo (laysA f) x5))=true->(↑x5:Int) < (↑(List.length (laysC f (List.length (Frm.columns f) - 0) (stockTo f (List.length (Frm.strips f))))):Int))
  (o23:fitsF f/\(okFrm f=true->prodF f (List.length (Frm.strips f))<=30)->(!decide (checkF f=0))=false->decide ((↑(List.length (laysC f (List.length (Frm.columns f) - 0) (stockTo f (List.length (Frm.strips f))))):Int)=0)=false -> ∀ (x5:Nat),x5<=List.length (laysA f)->decide ((↑x5:Int) < (↑(List.length (laysC f (List.length (Frm.columns f) - 0) (stockTo f (List.length (Frm.strips f))))):Int))=true->decide (manyL (List.getD (laysA f) x5 []) < manyL (bestTo (laysA f) x5))=true->inI ((↑x5:Int) + 1))
  (o24:fitsF f/\(okFrm f=true->prodF f (List.length (Frm.strips f))<=30)->(!decide (checkF f=0))=false->decide ((↑(List.length (laysC f (List.length (Frm.columns f) - 0) (stockTo f (List.length (Frm.strips f))))):Int)=0)=false -> ∀ (x5:Nat),x5<=List.length (laysA f)->decide ((↑x5:Int) < (↑(List.length (laysC f (List.length (Frm.columns f) - 0) (stockTo f (List.length (Frm.strips f))))):Int))=true->decide (manyL (List.getD (laysA f) x5 []) < manyL (bestTo (laysA f) x5))=true->List.length (List.getD (laysC f (List.length (Frm.columns f) - 0) (stockTo f (List.length (Frm.strips f)))) x5 [])=List.length (bestTo (laysA f) (x5 + 1)))
  (o25:fitsF f/\(okFrm f=true->prodF f (List.length (Frm.strips f))<=30)->(!decide (checkF f=0))=false->decide ((↑(List.length (laysC f (List.length (Frm.columns f) - 0) (stockTo f (List.length (Frm.strips f))))):Int)=0)=false -> ∀ (x5:Nat),x5<=List.length (laysA f)->decide ((↑x5:Int) < (↑(List.length (laysC f (List.length (Frm.columns f) - 0) (stockTo f (List.length (Frm.strips f))))):Int))=true->decide (manyL (List.getD (laysA f) x5 []) < manyL (bestTo (laysA f) x5))=true -> ∀ (i14:Nat),i14 < List.length (bestTo (laysA f) (x5 + 1)) -> [aInts (List.getD (List.getD (laysC f (List.length (Frm.columns f) - 0) (stockTo f (List.length (Frm.strips f)))) x5 []) i14 [])] = [aInts (List.getD (bestTo (laysA f) (x5 + 1)) i14 [])])
  (o26:fitsF f/\(okFrm f=true->prodF f (List.length (Frm.strips f))<=30)->(!decide (checkF f=0))=false->decide ((↑(List.length (laysC f (List.length (Frm.columns f) - 0) (stockTo f (List.length (Frm.strips f))))):Int)=0)=false -> ∀ (x5:Nat),x5<=List.length (laysA f)->decide ((↑x5:Int) < (↑(List.length (laysC f (List.length (Frm.columns f) - 0) (stockTo f (List.length (Frm.strips f))))):Int))=true->decide (manyL (List.getD (laysA f) x5 []) < manyL (bestTo (laysA f) x5))=true->(↑x5:Int) + 1=(↑(x5 + 1):Int))
  (o27:fitsF f/\(okFrm f=true->prodF f (List.length (Frm.strips f))<=30)->(!decide (checkF f=0))=false->decide ((↑(List.length (laysC f (List.length (Frm.columns f) - 0) (stockTo f (List.length (Frm.strips f))))):Int)=0)=false -> ∀ (x5:Nat),x5<=List.length (laysA f)->decide ((↑x5:Int) < (↑(List.length (laysC f (List.length (Frm.columns f) - 0) (stockTo f (List.length (Frm.strips f))))):Int))=true->decide (manyL (List.getD (laysA f) x5 []) < manyL (bestTo (laysA f) x5))=true->x5 + 1<=List.length (laysA f))
  (o28:fitsF f/\(okFrm f=true->prodF f (List.length (Frm.strips f))<=30)->(!decide (checkF f=0))=false->decide ((↑(List.length (laysC f (List.length (Frm.columns f) - 0) (stockTo f (List.length (Frm.strips f))))):Int)=0)=false -> ∀ (x5:Nat),x5<=List.length (laysA f)->decide ((↑x5:Int) < (↑(List.length (laysC f (List.length (Frm.columns f) - 0) (stockTo f (List.length (Frm.strips f))))):Int))=true->decide (manyL (List.getD (laysA f) x5 []) < manyL (bestTo (laysA f) x5))=true->List.length (laysA f) - (x5 + 1) < List.length (laysA f) - x5)
  (o29:fitsF f/\(okFrm f=true->prodF f (List.length (Frm.strips f))<=30)->(!decide (checkF f=0))=false->decide ((↑(List.length (laysC f (List.length (Frm.columns f) - 0) (stockTo f (List.length (Frm.strips f))))):Int)=0)=false -> ∀ (x5:Nat),x5<=List.length (laysA f)->decide ((↑x5:Int) < (↑(List.length (laysC f (List.length (Frm.columns f) - 0) (stockTo f (List.length (Frm.strips f))))):Int))=true->decide (manyL (List.getD (laysA f) x5 []) < manyL (bestTo (laysA f) x5))=false->inI ((↑x5:Int) + 1))
  (o30:fitsF f/\(okFrm f=true->prodF f (List.length (Frm.strips f))<=30)->(!decide (checkF f=0))=false->decide ((↑(List.length (laysC f (List.length (Frm.columns f) - 0) (stockTo f (List.length (Frm.strips f))))):Int)=0)=false -> ∀ (x5:Nat),x5<=List.length (laysA f)->decide ((↑x5:Int) < (↑(List.length (laysC f (List.length (Frm.columns f) - 0) (stockTo f (List.length (Frm.strips f))))):Int))=true->decide (manyL (List.getD (laysA f) x5 []) < manyL (bestTo (laysA f) x5))=false->List.length (bestTo (laysA f) x5)=List.length (bestTo (laysA f) (x5 + 1)))
  (o31:fitsF f/\(okFrm f=true->prodF f (List.length (Frm.strips f))<=30)->(!decide (checkF f=0))=false->decide ((↑(List.length (laysC f (List.length (Frm.columns f) - 0) (stockTo f (List.length (Frm.strips f))))):Int)=0)=false -> ∀ (x5:Nat),x5<=List.length (laysA f)->decide ((↑x5:Int) < (↑(List.length (laysC f (List.length (Frm.columns f) - 0) (stockTo f (List.length (Frm.strips f))))):Int))=true->decide (manyL (List.getD (laysA f) x5 []) < manyL (bestTo (laysA f) x5))=false -> ∀ (i16:Nat),i16 < List.length (bestTo (laysA f) (x5 + 1)) -> [aInts (List.getD (bestTo (laysA f) x5) i16 [])] = [aInts (List.getD (bestTo (laysA f) (x5 + 1)) i16 [])])
  (o32:fitsF f/\(okFrm f=true->prodF f (List.length (Frm.strips f))<=30)->(!decide (checkF f=0))=false->decide ((↑(List.length (laysC f (List.length (Frm.columns f) - 0) (stockTo f (List.length (Frm.strips f))))):Int)=0)=false -> ∀ (x5:Nat),x5<=List.length (laysA f)->decide ((↑x5:Int) < (↑(List.length (laysC f (List.length (Frm.columns f) - 0) (stockTo f (List.length (Frm.strips f))))):Int))=true->decide (manyL (List.getD (laysA f) x5 []) < manyL (bestTo (laysA f) x5))=false->(↑x5:Int) + 1=(↑(x5 + 1):Int))
  (o33:fitsF f/\(okFrm f=true->prodF f (List.length (Frm.strips f))<=30)->(!decide (checkF f=0))=false->decide ((↑(List.length (laysC f (List.length (Frm.columns f) - 0) (stockTo f (List.length (Frm.strips f))))):Int)=0)=false -> ∀ (x5:Nat),x5<=List.length (laysA f)->decide ((↑x5:Int) < (↑(List.length (laysC f (List.length (Frm.columns f) - 0) (stockTo f (List.length (Frm.strips f))))):Int))=true->decide (manyL (List.getD (laysA f) x5 []) < manyL (bestTo (laysA f) x5))=false->x5 + 1<=List.length (laysA f))
  (o34:fitsF f/\(okFrm f=true->prodF f (List.length (Frm.strips f))<=30)->(!decide (checkF f=0))=false->decide ((↑(List.length (laysC f (List.length (Frm.columns f) - 0) (stockTo f (List.length (Frm.strips f))))):Int)=0)=false -> ∀ (x5:Nat),x5<=List.length (laysA f)->decide ((↑x5:Int) < (↑(List.length (laysC f (List.length (Frm.columns f) - 0) (stockTo f (List.length (Frm.strips f))))):Int))=true->decide (manyL (List.getD (laysA f) x5 []) < manyL (bestTo (laysA f) x5))=false->List.length (laysA f) - (x5 + 1) < List.length (laysA f) - x5)
  (o35:fitsF f/\(okFrm f=true->prodF f (List.length (Frm.strips f))<=30)->(!decide (checkF f=0))=false->decide ((↑(List.length (laysC f (List.length (Frm.columns f) - 0) (stockTo f (List.length (Frm.strips f))))):Int)=0)=false -> ∀ (x5:Nat),x5<=List.length (laysA f)->decide ((↑x5:Int) < (↑(List.length (laysC f (List.length (Frm.columns f) - 0) (stockTo f (List.length (Frm.strips f))))):Int))=false->List.length (bestTo (laysA f) x5)=List.length (lockR f))
  (o36:fitsF f/\(okFrm f=true->prodF f (List.length (Frm.strips f))<=30)->(!decide (checkF f=0))=false->decide ((↑(List.length (laysC f (List.length (Frm.columns f) - 0) (stockTo f (List.length (Frm.strips f))))):Int)=0)=false -> ∀ (x5:Nat),x5<=List.length (laysA f)->decide ((↑x5:Int) < (↑(List.length (laysC f (List.length (Frm.columns f) - 0) (stockTo f (List.length (Frm.strips f))))):Int))=false -> ∀ (i18:Nat),i18 < List.length (lockR f) -> [aInts (List.getD (bestTo (laysA f) x5) i18 [])] = [aInts (List.getD (lockR f) i18 [])])
  (o37:fitsF f/\(okFrm f=true->prodF f (List.length (Frm.strips f))<=30)->(!decide (checkF f=0))=false->decide ((↑(List.length (laysC f (List.length (Frm.columns f) - 0) (stockTo f (List.length (Frm.strips f))))):Int)=0)=false -> ∀ (x5:Nat),x5<=List.length (laysA f)->decide ((↑x5:Int) < (↑(List.length (laysC f (List.length (Frm.columns f) - 0) (stockTo f (List.length (Frm.strips f))))):Int))=false->0=stripsE f) :
  Triple Try.prog 78 (s78 f):=by
 refine triple_of Try.func78 rfl Try.call78 T0_ok _ rfl rfl rfl rfl (Nat.le_of_ble_eq_true (by kernel_rfl)) (fun _ _ _ _ h=>h) ?_
 intro hpre C hC _ hE
 obtain ⟨P,w0,E0,av,hA,ro,df⟩:=C
 obtain ⟨rfl,rfl,rfl⟩:=hC
 refine swp_seq ?_
 refine zR [1] [0] (Ak 3 tv) ?_
 refine swp_seq ?_
 refine swp_seq ?_
 refine zC ([(1,CallSpec.eq (s35 f) [true])]) [1,4] [0] (Ak 1 (An (An (An (zr (AV.agg (cFrm f))) tv) (An (t35 (f)) (An hpre.1 (Ak 1 (fun (i0:Env)=>tv))))) (Ak 1 tv))) ?_
 refine swp_seq ?_
 refine zR [1,4,11] [0] (Ak 2 tv) ?_
 refine zI (!decide (checkF f=0)) (fun y1 => ?_) (fun y1 => ?_)
 ·refine swp_seq ?_
  refine zR [2,3] [] (Ak 3 tv) ?_
  refine swp_ret ?_
  exact zT [] (An (Ak 2 tv) (An (An (o0 hpre y1) (An (An (ci (o1 hpre y1)) (zr nilN)) tv)) (An (zr true) (An (zr true) (zr true)))))
 ·refine swp_skip ?_
  refine swp_seq ?_
  refine zC ([(2,CallSpec.eq (s107 f) [true]),(3,CallSpec.eq (c78 f) [true,false,true])]) [5] [] (Ak 2 (An (An (An (zr (AV.agg (cFrm f))) tv) (An (t107 (f)) (An (o2 hpre y1) (Ak 1 (fun (i2:Env)=>tv))))) (An (An (An (zr (AV.agg (cFrm f))) (An (ci (o3 hpre y1)) (An (zr (aInts (stockTo f (List.length (Frm.strips f))))) tv))) (An (t105 (f) (0) (stockTo f (List.length (Frm.strips f)))) (An (An (o4 hpre y1) (An (o5 hpre y1) (An (o6 hpre y1) (o7 hpre y1)))) (Ak 1 (fun (i3:Env)=>tv))))) (Ak 1 tv)))) ?_
  refine swp_seq ?_
  refine swp_seq ?_
  refine zR [5,19] [] (Ak 3 tv) ?_
  refine zI (decide ((↑(List.length (laysC f (List.length (Frm.columns f) - 0) (stockTo f (List.length (Frm.strips f))))):Int)=0)) (fun y4 => ?_) (fun y4 => ?_)
  ·refine swp_seq ?_
   refine zR [2,3] [] (Ak 2 tv) ?_
   refine swp_ret ?_
   exact zT [] (An (Ak 2 tv) (An (An (o8 hpre y1 y4) (An (An (ci (o9 hpre y1 y4)) (zr nilN)) tv)) (An (zr true) (An (zr true) (zr true)))))
  ·refine swp_skip ?_
   refine swp_seq ?_
   refine zR [5,6] [] (Ak 1 (An (An (by decide:Int.ofNat 0<=Int.ofNat 0) (o10 hpre y1 y4)) (Ak 2 tv))) ?_
   refine swp_seq ?_
   refine swp_seq ?_
   refine zR [5,6,7] [] (Ak 1 tv) ?_
   refine swp_block ?_
   refine zL (Hint.ann (h78 f) [(5,aLays (laysC f (List.length (Frm.columns f) - 0) (stockTo f (List.length (Frm.strips f)))))] [] 10168) (zE hE [] [] [5] [] (An (An (An (zr (aLays (laysC f (List.length (Frm.columns f) - 0) (stockTo f (List.length (Frm.strips f)))))) (zr true)) (An (An (zr 1) (An (o11 hpre y1 y4) (fun (i6:Nat)=>(fun (y7:i6 < List.length (bestTo (laysA f) 0))=>(o12 hpre y1 y4 i6 y7))))) (An (An (ci (o13 hpre y1 y4)) (zr nilN)) tv))) (Ak 1 (An (zr true) (zr true))))) (o14 hpre y1 y4) (fun (x5:Nat) hx5 => ?_)
   refine swp_seq ?_
   refine swp_seq ?_
   refine zR [5,6,7,26] [] (Ak 4 tv) ?_
   refine zI (decide ((↑x5:Int) < (↑(List.length (laysC f (List.length (Frm.columns f) - 0) (stockTo f (List.length (Frm.strips f))))):Int))) (fun y8 => ?_) (fun y8 => ?_)
   ·refine swp_skip ?_
    refine swp_seq ?_
    refine swp_block ?_
    refine swp_seq ?_
    refine zC ([(4,CallSpec.eq (c78a f x5) [false]),(6,CallSpec.eq (c78b f x5) [true])]) [5,6,7,36] [] (Ak 2 (An (An (o15 hpre y1 y4 x5 hx5 y8) (o16 hpre y1 y4 x5 hx5 y8)) (Ak 1 (An (An (An (An (zr 1) (An (o17 hpre y1 y4 x5 hx5 y8) (fun (i9:Nat)=>(fun (y10:i9 < List.length (List.getD (laysA f) x5 []))=>(o18 hpre y1 y4 x5 hx5 y8 i9 y10))))) tv) (An (t61 (List.getD (laysA f) x5 [])) (An (o19 hpre y1 y4 x5 hx5 y8) (Ak 1 (fun (i11:Env)=>tv))))) (Ak 1 (An (An (An (zr (aIntss (bestTo (laysA f) x5))) tv) (An (t61 (bestTo (laysA f) x5)) (An (o20 hpre y1 y4 x5 hx5 y8) (Ak 1 (fun (i12:Env)=>tv))))) (Ak 1 tv))))))) ?_
    refine zI (decide (manyL (List.getD (laysA f) x5 []) < manyL (bestTo (laysA f) x5))) (fun y13 => ?_) (fun y13 => ?_)
    ·refine zR [5,6,7] [] (Ak 2 (An (An (o21 hpre y1 y4 x5 hx5 y8 y13) (o22 hpre y1 y4 x5 hx5 y8 y13)) (Ak 2 tv))) ?_
     refine zR [5,6,7] [] (Ak 1 (An (o23 hpre y1 y4 x5 hx5 y8 y13) (Ak 1 tv))) ?_
     exact zn (zE hE [] [] [5] [] (An (An (An (zr (aLays (laysC f (List.length (Frm.columns f) - 0) (stockTo f (List.length (Frm.strips f)))))) (zr true)) (An (An (zr 1) (An (o24 hpre y1 y4 x5 hx5 y8 y13) (fun (i14:Nat)=>(fun (y15:i14 < List.length (bestTo (laysA f) (x5 + 1)))=>(o25 hpre y1 y4 x5 hx5 y8 y13 i14 y15))))) (An (An (ci (o26 hpre y1 y4 x5 hx5 y8 y13)) (zr nilN)) tv))) (Ak 1 (An (zr true) (zr true))))) (o27 hpre y1 y4 x5 hx5 y8 y13) (o28 hpre y1 y4 x5 hx5 y8 y13)
    ·refine swp_skip ?_
     refine zR [5,6,7] [] (Ak 1 (An (o29 hpre y1 y4 x5 hx5 y8 y13) (Ak 1 tv))) ?_
     exact zn (zE hE [] [] [5] [] (An (An (An (zr (aLays (laysC f (List.length (Frm.columns f) - 0) (stockTo f (List.length (Frm.strips f)))))) (zr true)) (An (An (zr 1) (An (o30 hpre y1 y4 x5 hx5 y8 y13) (fun (i16:Nat)=>(fun (y17:i16 < List.length (bestTo (laysA f) (x5 + 1)))=>(o31 hpre y1 y4 x5 hx5 y8 y13 i16 y17))))) (An (An (ci (o32 hpre y1 y4 x5 hx5 y8 y13)) (zr nilN)) tv))) (Ak 1 (An (zr true) (zr true))))) (o33 hpre y1 y4 x5 hx5 y8 y13) (o34 hpre y1 y4 x5 hx5 y8 y13)
   ·refine swp_exit ?_
    refine swp_seq ?_
    refine zR [2,3] [] (Ak 3 tv) ?_
    refine swp_ret ?_
    exact zT [] (An (Ak 2 tv) (An (An (An (zr 1) (An (o35 hpre y1 y4 x5 hx5 y8) (fun (i18:Nat)=>(fun (y19:i18 < List.length (lockR f))=>(o36 hpre y1 y4 x5 hx5 y8 i18 y19))))) (An (An (ci (o37 hpre y1 y4 x5 hx5 y8)) (zr nilN)) tv)) (An (zr true) (An (zr true) (zr true)))))
theorem laysA_len {f:Frm} (hs:Sound f) (h:prodF f f.strips.length<=30):(laysA f).length<=27000:=by
 have h1:=laysC_len hs f.columns.length _ (stock_good hs) (by have:=prod_stock hs _ (Nat.le_refl _); omega)
 have h2:=hs.columns
 exact Nat.le_trans h1 (Nat.le_trans (Nat.pow_le_pow_right (by omega) h2) (by decide))
theorem t78 (f:Frm):Triple Try.prog 78 (s78 f):=by
  apply w78
  all_goals (rintro ⟨hp,hpr⟩; intro h)
  case o0=>have e:=chk_bad h; unfold lockR; rw [e]; rfl
  case o1=>have e:=chk_bad h; unfold stripsE checkF; rw [e]; rfl
  all_goals (have e1:=chk_ok h; have hs:=sound_of e1; have hw:=laysA_whole hs)
  case o2 | o4=>exact hs
  case o3=>rfl
  case o5=>exact Nat.zero_le _
  case o6=>exact stock_good hs
  case o7=>have:=prod_stock hs _ (Nat.le_refl _); have:=hpr e1; omega
  all_goals (have eA:laysC f (f.columns.length - 0) (stockTo f f.strips.length)=laysA f:=rfl)
  all_goals (intro hz; first | (rw [eA] at hz; simp only [decide_eq_true_eq,decide_eq_false_iff_not] at hz) | rfl)
  case o8 => have e2 : laysA f = [] := List.eq_nil_of_length_eq_zero (by omega)
             unfold lockR; rw [e1,hw,e2]; rfl
  case o9 => have e2 : laysA f = [] := List.eq_nil_of_length_eq_zero (by omega)
             unfold stripsE; rw [e1,hw,e2]; rfl
  all_goals (try rw [eA])
  case o10=>omega
  case o11=>rfl
  case o12=>intro i hi; rfl
  case o14=>exact Nat.zero_le _
  all_goals (intro x hx hx2; simp only [decide_eq_true_eq,decide_eq_false_iff_not] at hx2; have hx2':((x:Nat):Int) < ((laysA f).length:Int) ∨ ¬ ((x:Nat):Int) < ((laysA f).length:Int):=(by first | exact .inl hx2 | exact .inr hx2))
  case o35 | o36 | o37 =>
    have hend:=best_end (ls:=laysA f) (by omega)
    have hxe:x=(laysA f).length:=by omega
    have hR:lockR f=bestTo (laysA f) (laysA f).length:=by unfold lockR; rw [if_pos e1,hw,hend]
    first
    | (rw [hR,hxe]; done)
    | (intro i hi; rw [hR,hxe]; done)
    | (unfold stripsE; rw [if_pos e1,hw,fm_isSome,if_pos (decide_eq_true (by omega))]; done)
  case o19=>exact laysA_ok hs (getD_mem _ _ (by omega))
  case o20=>exact laysA_ok hs (best_mem (by omega))
  case o15 | o16=>omega
  case o17=>rfl
  case o18=>intro i hi; rfl
  all_goals (intro hm; simp only [decide_eq_true_eq,decide_eq_false_iff_not] at hm)
  case o24=>rw [bestTo_new (by omega) hm]
  case o25=>intro i hi; rw [bestTo_new (by omega) hm]
  case o30=>rw [bestTo_old (by omega) hm]
  case o31=>intro i hi; rw [bestTo_old (by omega) hm]
  all_goals (have hlen:=laysA_len hs (hpr e1))
  all_goals (first | omega | (simp only [inI]; omega))
theorem w122 (f:Frm)
  (o0:fitsF f/\(okFrm f=true->prodF f (List.length (Frm.strips f))<=30)->okFrm f=true->prodF f (List.length (Frm.strips f))<=30) :
  Triple Try.prog 122 (s122 f):=by
 refine triple_of Try.func122 rfl Try.call122 T0_ok _ rfl rfl rfl rfl (Nat.le_of_ble_eq_true (by kernel_rfl)) (fun _ _ _ _ h=>h) ?_
 intro hpre C hC _ hE
 obtain ⟨P,w0,E0,av,hA,ro,df⟩:=C
 obtain ⟨rfl,rfl,rfl⟩:=hC
 refine swp_seq ?_
 refine zR [1] [0] (Ak 2 tv) ?_
 refine swp_seq ?_
 refine zC ([(1,CallSpec.eq (s78 f) [true])]) [4] [] (Ak 1 (An (An (An (zr (AV.agg (cFrm f))) tv) (An (t78 (f)) (An (An hpre.1 (fun (y0:okFrm f=true)=>(o0 hpre y0))) (Ak 1 (fun (i1:Env)=>tv))))) (Ak 5 tv))) ?_
 refine swp_seq ?_
 refine zR [2] [] (Ak 3 tv) ?_
 refine swp_ret ?_
 exact zT [] (An (Ak 1 tv) (An (An (zr (bv (decide (stripsE f=0)))) (zr nilN)) (An (zr true) (An (zr true) (zr true)))))
theorem t122 (f:Frm):Triple Try.prog 122 (s122 f):=by
 apply w122
 all_goals (rintro ⟨hp,hpr⟩; exact hpr)
end Go.Ab
namespace Go.Sh
open Go.Ab
end Go.Sh
namespace Go.Ab
open Go Go.RowKit Go.Proofs Go.Sh Go.En
end Go.Ab
namespace Go.Ab
open Go Go.RowKit Go.Proofs Go.Sh Go.En
end Go.Ab
namespace Go.Sh
open Go.Ab
variable {f:Frm}
theorem same_prod (f o:Frm) (h:o.strips=f.strips):prodF o o.strips.length=prodF f f.strips.length:=by
 unfold prodF stp; rw [h]
end Go.Sh
namespace Go.Ab
open Go Go.RowKit Go.Proofs Go.Sh Go.En
def s65 (f:Frm) (p:Int):CallSpec:={ args:=[vFrm f,iv p],res := .tup [iv (growN f p),iv (growE f p)],pre:=fitsF f/\(okFrm f=true->prodF f f.strips.length<=30) }
def h65 (f:Frm) (p:Int):Hint:={ X:=Nat,M:=fun k=>[(7,iv (99 - k))],I:=fun k=>k<=100 - (pc f p.toNat).lo.toNat /\ ∀ j:Nat,j < k->(wholeP (grownF f p.toNat (99 - j)) 0).isSome=false,mu:=fun k=>100 - k,x0:=(0:Nat),nx:=fun k=>k + 1 }
end Go.Ab
namespace Go.Ab
open Go Go.RowKit Go.Proofs Go.Sh Go.En
theorem w65 (f:Frm) (p:Int)
  (o0:fitsF f/\(okFrm f=true->prodF f (List.length (Frm.strips f))<=30)->(!decide (openF f (isPc f p)=0))=true->0=growN f p)
  (o1:fitsF f/\(okFrm f=true->prodF f (List.length (Frm.strips f))<=30)->(!decide (openF f (isPc f p)=0))=true->openF f (isPc f p)=growE f p)
  (o2:fitsF f/\(okFrm f=true->prodF f (List.length (Frm.strips f))<=30)->(!decide (openF f (isPc f p)=0))=false->99=99 - (↑0:Int))
  (o3:fitsF f/\(okFrm f=true->prodF f (List.length (Frm.strips f))<=30)->(!decide (openF f (isPc f p)=0))=false->0<=100 - Int.toNat (Piece.lo (pc f (Int.toNat p))) /\ ∀ (j:Nat),j < 0->Option.isSome (wholeP (grownF f (Int.toNat p) (99 - (↑j:Int))) 0)=false)
  (o4:fitsF f/\(okFrm f=true->prodF f (List.length (Frm.strips f))<=30)->(!decide (openF f (isPc f p)=0))=false -> ∀ (x3:Nat),(x3<=100 - Int.toNat (Piece.lo (pc f (Int.toNat p))) /\ ∀ (j:Nat),j < x3->Option.isSome (wholeP (grownF f (Int.toNat p) (99 - (↑j:Int))) 0)=false)->0<=p)
  (o5:fitsF f/\(okFrm f=true->prodF f (List.length (Frm.strips f))<=30)->(!decide (openF f (isPc f p)=0))=false -> ∀ (x3:Nat),(x3<=100 - Int.toNat (Piece.lo (pc f (Int.toNat p))) /\ ∀ (j:Nat),j < x3->Option.isSome (wholeP (grownF f (Int.toNat p) (99 - (↑j:Int))) 0)=false)->p < (↑(List.length (Frm.pieces f)):Int))
  (o6:fitsF f/\(okFrm f=true->prodF f (List.length (Frm.strips f))<=30)->(!decide (openF f (isPc f p)=0))=false -> ∀ (x3:Nat),(x3<=100 - Int.toNat (Piece.lo (pc f (Int.toNat p))) /\ ∀ (j:Nat),j < x3->Option.isSome (wholeP (grownF f (Int.toNat p) (99 - (↑j:Int))) 0)=false)->decide (Piece.lo (pc f (Int.toNat p))<=99 - (↑x3:Int))=true->smallF f)
  (o7:fitsF f/\(okFrm f=true->prodF f (List.length (Frm.strips f))<=30)->(!decide (openF f (isPc f p)=0))=false -> ∀ (x3:Nat),(x3<=100 - Int.toNat (Piece.lo (pc f (Int.toNat p))) /\ ∀ (j:Nat),j < x3->Option.isSome (wholeP (grownF f (Int.toNat p) (99 - (↑j:Int))) 0)=false)->decide (Piece.lo (pc f (Int.toNat p))<=99 - (↑x3:Int))=true->0<=p)
  (o8:fitsF f/\(okFrm f=true->prodF f (List.length (Frm.strips f))<=30)->(!decide (openF f (isPc f p)=0))=false -> ∀ (x3:Nat),(x3<=100 - Int.toNat (Piece.lo (pc f (Int.toNat p))) /\ ∀ (j:Nat),j < x3->Option.isSome (wholeP (grownF f (Int.toNat p) (99 - (↑j:Int))) 0)=false)->decide (Piece.lo (pc f (Int.toNat p))<=99 - (↑x3:Int))=true->p < (↑(List.length (Frm.pieces f)):Int))
  (o9:fitsF f/\(okFrm f=true->prodF f (List.length (Frm.strips f))<=30)->(!decide (openF f (isPc f p)=0))=false -> ∀ (x3:Nat),(x3<=100 - Int.toNat (Piece.lo (pc f (Int.toNat p))) /\ ∀ (j:Nat),j < x3->Option.isSome (wholeP (grownF f (Int.toNat p) (99 - (↑j:Int))) 0)=false)->decide (Piece.lo (pc f (Int.toNat p))<=99 - (↑x3:Int))=true->fitsF (grownF f (Int.toNat p) (99 - (↑x3:Int))))
  (o10:fitsF f/\(okFrm f=true->prodF f (List.length (Frm.strips f))<=30)->(!decide (openF f (isPc f p)=0))=false -> ∀ (x3:Nat),(x3<=100 - Int.toNat (Piece.lo (pc f (Int.toNat p))) /\ ∀ (j:Nat),j < x3->Option.isSome (wholeP (grownF f (Int.toNat p) (99 - (↑j:Int))) 0)=false)->decide (Piece.lo (pc f (Int.toNat p))<=99 - (↑x3:Int))=true->okFrm (grownF f (Int.toNat p) (99 - (↑x3:Int)))=true->prodF (grownF f (Int.toNat p) (99 - (↑x3:Int))) (List.length (Frm.strips (grownF f (Int.toNat p) (99 - (↑x3:Int)))))<=30)
  (o11:fitsF f/\(okFrm f=true->prodF f (List.length (Frm.strips f))<=30)->(!decide (openF f (isPc f p)=0))=false -> ∀ (x3:Nat),(x3<=100 - Int.toNat (Piece.lo (pc f (Int.toNat p))) /\ ∀ (j:Nat),j < x3->Option.isSome (wholeP (grownF f (Int.toNat p) (99 - (↑j:Int))) 0)=false)->decide (Piece.lo (pc f (Int.toNat p))<=99 - (↑x3:Int))=true->decide (stripsE (grownF f (Int.toNat p) (99 - (↑x3:Int)))=0)=true->99 - (↑x3:Int)=growN f p)
  (o12:fitsF f/\(okFrm f=true->prodF f (List.length (Frm.strips f))<=30)->(!decide (openF f (isPc f p)=0))=false -> ∀ (x3:Nat),(x3<=100 - Int.toNat (Piece.lo (pc f (Int.toNat p))) /\ ∀ (j:Nat),j < x3->Option.isSome (wholeP (grownF f (Int.toNat p) (99 - (↑j:Int))) 0)=false)->decide (Piece.lo (pc f (Int.toNat p))<=99 - (↑x3:Int))=true->decide (stripsE (grownF f (Int.toNat p) (99 - (↑x3:Int)))=0)=true->0=growE f p)
  (o13:fitsF f/\(okFrm f=true->prodF f (List.length (Frm.strips f))<=30)->(!decide (openF f (isPc f p)=0))=false -> ∀ (x3:Nat),(x3<=100 - Int.toNat (Piece.lo (pc f (Int.toNat p))) /\ ∀ (j:Nat),j < x3->Option.isSome (wholeP (grownF f (Int.toNat p) (99 - (↑j:Int))) 0)=false)->decide (Piece.lo (pc f (Int.toNat p))<=99 - (↑x3:Int))=true->decide (stripsE (grownF f (Int.toNat p) (99 - (↑x3:Int)))=0)=false->inI (99 - (↑x3:Int) - 1))
  (o14:fitsF f/\(okFrm f=true->prodF f (List.length (Frm.strips f))<=30)->(!decide (openF f (isPc f p)=0))=false -> ∀ (x3:Nat),(x3<=100 - Int.toNat (Piece.lo (pc f (Int.toNat p))) /\ ∀ (j:Nat),j < x3->Option.isSome (wholeP (grownF f (Int.toNat p) (99 - (↑j:Int))) 0)=false)->decide (Piece.lo (pc f (Int.toNat p))<=99 - (↑x3:Int))=true->decide (stripsE (grownF f (Int.toNat p) (99 - (↑x3:Int)))=0)=false->99 - (↑x3:Int) - 1=99 - (↑(x3 + 1):Int))
  (o15:fitsF f/\(okFrm f=true->prodF f (List.length (Frm.strips f))<=30)->(!decide (openF f (isPc f p)=0))=false -> ∀ (x3:Nat),(x3<=100 - Int.toNat (Piece.lo (pc f (Int.toNat p))) /\ ∀ (j:Nat),j < x3->Option.isSome (wholeP (grownF f (Int.toNat p) (99 - (↑j:Int))) 0)=false)->decide (Piece.lo (pc f (Int.toNat p))<=99 - (↑x3:Int))=true->decide (stripsE (grownF f (Int.toNat p) (99 - (↑x3:Int)))=0)=false->x3 + 1<=100 - Int.toNat (Piece.lo (pc f (Int.toNat p))) /\ ∀ (j:Nat),j < x3 + 1->Option.isSome (wholeP (grownF f (Int.toNat p) (99 - (↑j:Int))) 0)=false)
  (o16:fitsF f/\(okFrm f=true->prodF f (List.length (Frm.strips f))<=30)->(!decide (openF f (isPc f p)=0))=false -> ∀ (x3:Nat),(x3<=100 - Int.toNat (Piece.lo (pc f (Int.toNat p))) /\ ∀ (j:Nat),j < x3->Option.isSome (wholeP (grownF f (Int.toNat p) (99 - (↑j:Int))) 0)=false)->decide (Piece.lo (pc f (Int.toNat p))<=99 - (↑x3:Int))=true->decide (stripsE (grownF f (Int.toNat p) (99 - (↑x3:Int)))=0)=false->100 - (x3 + 1) < 100 - x3)
  (o17:fitsF f/\(okFrm f=true->prodF f (List.length (Frm.strips f))<=30)->(!decide (openF f (isPc f p)=0))=false -> ∀ (x3:Nat),(x3<=100 - Int.toNat (Piece.lo (pc f (Int.toNat p))) /\ ∀ (j:Nat),j < x3->Option.isSome (wholeP (grownF f (Int.toNat p) (99 - (↑j:Int))) 0)=false)->decide (Piece.lo (pc f (Int.toNat p))<=99 - (↑x3:Int))=false->0=growN f p)
  (o18:fitsF f/\(okFrm f=true->prodF f (List.length (Frm.strips f))<=30)->(!decide (openF f (isPc f p)=0))=false -> ∀ (x3:Nat),(x3<=100 - Int.toNat (Piece.lo (pc f (Int.toNat p))) /\ ∀ (j:Nat),j < x3->Option.isSome (wholeP (grownF f (Int.toNat p) (99 - (↑j:Int))) 0)=false)->decide (Piece.lo (pc f (Int.toNat p))<=99 - (↑x3:Int))=false->3=growE f p) :
  Triple Try.prog 65 (s65 f p):=by
 refine triple_of Try.func65 rfl Try.call65 T0_ok _ rfl rfl rfl rfl (Nat.le_of_ble_eq_true (by kernel_rfl)) (fun _ _ _ _ h=>h) ?_
 intro hpre C hC _ hE
 obtain ⟨P,w0,E0,av,hA,ro,df⟩:=C
 obtain ⟨rfl,rfl,rfl⟩:=hC
 refine swp_seq ?_
 refine zR [1,2] [0] (Ak 3 tv) ?_
 refine swp_seq ?_
 refine swp_seq ?_
 refine zC ([(3,CallSpec.eq (s25 f p) [true,true]),(4,CallSpec.eq (s91 f (isPc f p)) [true,true])]) [1,2,6] [0] (Ak 3 (An (An (An (zr (AV.agg (cFrm f))) (An (zr (iv p)) tv)) (An (t25 (f) (p)) (An hpre.1 (Ak 1 (fun (i0:Env)=>tv))))) (An (An (An (zr (AV.agg (cFrm f))) (An (zr (bv (isPc f p))) tv)) (An (t91 (f) (isPc f p)) (An hpre.1 (Ak 1 (fun (i1:Env)=>tv))))) (Ak 1 tv)))) ?_
 refine swp_seq ?_
 refine zR [1,2,6,14] [0] (Ak 2 tv) ?_
 refine zI (!decide (openF f (isPc f p)=0)) (fun y2 => ?_) (fun y2 => ?_)
 ·refine swp_seq ?_
  refine zR [4,5] [] (Ak 3 tv) ?_
  refine swp_ret ?_
  exact zT [] (An (Ak 2 tv) (An (An (An (ci (o0 hpre y2)) (zr nilN)) (An (An (ci (o1 hpre y2)) (zr nilN)) tv)) (An (zr true) (An (zr true) (zr true)))))
 ·refine swp_skip ?_
  refine swp_seq ?_
  refine swp_seq ?_
  refine zR [1,2,7] [0] (Ak 1 tv) ?_
  refine swp_block ?_
  refine zL (Hint.ann (h65 f p) [(1,iv p),(2,AV.ptr 0 [])] [(0,OB.cells 26 (cFrm f))] 10096) (zE hE [] [(0,.same 0)] [1] [0] (An (An (An (zr (iv p)) (zr true)) (An (An (zr (some (Src.same 0))) (zr nilP)) (An (An (ci (o2 hpre y2)) (zr nilN)) tv))) (An (An (An (zr (OB.cells 26 (cFrm f))) (zr true)) tv) (An (zr true) (zr true))))) (o3 hpre y2) (fun (x3:Nat) hx3 => ?_)
  refine swp_seq ?_
  refine swp_seq ?_
  refine zR [1,2,7,24] [0] (Ak 4 (An (An (o4 hpre y2 x3 hx3) (o5 hpre y2 x3 hx3)) (Ak 4 tv))) ?_
  refine zI (decide (Piece.lo (pc f (Int.toNat p))<=99 - (↑x3:Int))) (fun y4 => ?_) (fun y4 => ?_)
  ·refine swp_skip ?_
   refine swp_seq ?_
   refine swp_block ?_
   refine swp_seq ?_
   refine zC ([(3,CallSpec.eq (s29 f p (99 - (↑x3:Int))) [true,true,true]),(4,CallSpec.eq (s122 (grownF f (Int.toNat p) (99 - (↑x3:Int)))) [true])]) [1,2,7,31] [0] (Ak 3 (An (An (An (zr (AV.agg (cFrm f))) (An (zr (iv p)) (An (zr (iv (99 - (↑x3:Int)))) tv))) (An (t29 (f) (p) (99 - (↑x3:Int))) (An (An (o6 hpre y2 x3 hx3 y4) (An (o7 hpre y2 x3 hx3 y4) (o8 hpre y2 x3 hx3 y4))) (Ak 1 (fun (i5:Env)=>tv))))) (An (An (An (zr (AV.agg (cFrm (grownF f (Int.toNat p) (99 - (↑x3:Int)))))) tv) (An (t122 (grownF f (Int.toNat p) (99 - (↑x3:Int)))) (An (An (o9 hpre y2 x3 hx3 y4) (fun (y6:okFrm (grownF f (Int.toNat p) (99 - (↑x3:Int)))=true)=>(o10 hpre y2 x3 hx3 y4 y6))) (Ak 1 (fun (i7:Env)=>tv))))) tv))) ?_
   refine zI (decide (stripsE (grownF f (Int.toNat p) (99 - (↑x3:Int)))=0)) (fun y8 => ?_) (fun y8 => ?_)
   ·refine swp_seq ?_
    refine zR [4,5] [] (Ak 3 tv) ?_
    refine swp_ret ?_
    exact zT [] (An (Ak 2 tv) (An (An (An (ci (o11 hpre y2 x3 hx3 y4 y8)) (zr nilN)) (An (An (ci (o12 hpre y2 x3 hx3 y4 y8)) (zr nilN)) tv)) (An (zr true) (An (zr true) (zr true)))))
   ·refine swp_skip ?_
    refine zR [1,2,7] [0] (Ak 1 (An (o13 hpre y2 x3 hx3 y4 y8) (Ak 1 tv))) ?_
    exact zn (zE hE [] [(0,.same 0)] [1] [0] (An (An (An (zr (iv p)) (zr true)) (An (An (zr (some (Src.same 0))) (zr nilP)) (An (An (ci (o14 hpre y2 x3 hx3 y4 y8)) (zr nilN)) tv))) (An (An (An (zr (OB.cells 26 (cFrm f))) (zr true)) tv) (An (zr true) (zr true))))) (o15 hpre y2 x3 hx3 y4 y8) (o16 hpre y2 x3 hx3 y4 y8)
  ·refine swp_exit ?_
   refine swp_seq ?_
   refine zR [4,5] [] (Ak 2 tv) ?_
   refine swp_ret ?_
   exact zT [] (An (Ak 2 tv) (An (An (An (ci (o17 hpre y2 x3 hx3 y4)) (zr nilN)) (An (An (ci (o18 hpre y2 x3 hx3 y4)) (zr nilN)) tv)) (An (zr true) (An (zr true) (zr true)))))
theorem t65 (f:Frm) (p:Int):Triple Try.prog 65 (s65 f p):=by
 apply w65
 all_goals (rintro ⟨hp,hpr⟩; intro h)
 case o0=>have e:=gate_bad h; simp [growN,growG,e]
 case o1=>have e:=gate_bad h; simp [growE,growG,e]
 all_goals (obtain ⟨e1,e0,e2,e3,e4⟩:=gate_ok h; have hc:=isPc_get e0; have hn:p.toNat < f.pieces.length:=by omega)
 all_goals (have hpc:=e3.piece p.toNat hn; have hg:growG f p=true:=by simp [growG,e1,e0])
 case o2=>omega
 case o3=>exact ⟨Nat.zero_le _,fun j hj=>absurd hj (Nat.not_lt_zero _)⟩
 all_goals (rintro x ⟨hx,hx3⟩)
 case o4=>omega
 case o5=>omega
 all_goals (intro hl; simp only [decide_eq_true_eq,decide_eq_false_iff_not] at hl)
 case o17 | o18 =>
  have hk:growK f p.toNat=none:=grow_none (fun j hj=>hx3 j (by omega))
  first | (simp [growN,hg,hk]; done) | (simp [growE,hg,hk]; done)
 all_goals (have hok:=grown_ok e1 hn (n:=99 - (x:Int)) (by omega) (by omega))
 case o6=>exact sound_small e3
 case o7 | o8=>omega
 case o9=>exact small_fits (sound_small (sound_of hok))
 case o10=>intro _; rw [same_prod f (grownF f p.toNat (99 - (x:Int))) rfl]; exact hpr e1
 all_goals (have hE:stripsE (grownF f p.toNat (99 - (x:Int)))=if (wholeP (grownF f p.toNat (99 - (x:Int))) 0).isSome then 0 else 3:=by (unfold stripsE; rw [if_pos hok]))
 all_goals (rw [hE]; cases ew:(wholeP (grownF f p.toNat (99 - (x:Int))) 0).isSome)
 all_goals (intro hh)
 all_goals (try (exact absurd hh (by decide)))
 case o11.true =>
  have hk:=grow_hit (by omega) hx3 ew
  simp [growN,hg,hk]
 case o12.true =>
  have hk:=grow_hit (by omega) hx3 ew
  simp [growE,hg,hk]
 case o15.false=>exact ⟨by omega,lt_succ_cases hx3 ew⟩
 all_goals (first | omega | (simp only [inI]; omega))
end Go.Ab
namespace Go.Sh
structure Nar where
 piece:Int
 lo:Int
 hi:Int
 one:Int
 other:Int
end Go.Sh
namespace Go.En
open Go Go.Ab Go.Sh
end Go.En
namespace Go.Ab
open Go Go.RowKit Go.Proofs Go.Sh Go.En
def e5 (f:Frm) (c:Int) (set:List Int):List (Nat × OB):=[(112,.cells 26 (cFrm f))]
end Go.Ab
namespace Go.Ab
open Go Go.RowKit Go.Proofs Go.Sh Go.En
theorem huge_small {f:Frm} (h:hugeF f=false):smallF f:=by
 unfold hugeF at h
 simp only [Bool.or_eq_false_iff,decide_eq_false_iff_not,List.any_eq_false] at h
 obtain ⟨⟨⟨h1,h2⟩,h3⟩,h4⟩:=h
 refine ⟨by omega,by omega,by omega,fun i => ?_⟩
 by_cases hi:i < f.columns.length
 ·have:=h4 _ (getD_mem f.columns [] hi)
  simp only [decide_eq_true_eq] at this
  show (f.columns.getD i []).length<=64
  omega
 ·have:col f i = []:=getD_ge _ _ (by omega)
  rw [this]; exact Nat.zero_le _
end Go.Ab
namespace Go.Sh
open Go.Ab
variable {f:Frm}
theorem far_prod (h:farF f=false) (h2:okFrm f=true):prodF f f.strips.length<=30:=by
 unfold farF at h
 rw [h2] at h
 simp only [Bool.or_eq_false_iff,Bool.true_and,decide_eq_false_iff_not] at h
 omega
end Go.Sh
namespace Go.Ab
open Go Go.RowKit Go.Proofs Go.Sh Go.En
def e6 (f:Frm):List (Nat × OB):=[(48,.cells 26 (cFrm f))]
def s12 (f:Frm) (a b:Int):CallSpec:={ args:=[vFrm f,iv a,iv b],res:=bv true,pre:=fitsF f }
def c12 (f:Frm) (a b:Int) (id:Nat):CallSpec:=s31o f id
end Go.Ab
namespace Go.Ab
open Go Go.RowKit Go.Proofs Go.Sh Go.En
theorem far_small {f:Frm} (h:farF f=false):smallF f:=by
 unfold farF at h
 rw [Bool.or_eq_false_iff] at h
 exact huge_small h.1
theorem w12 (f:Frm) (a:Int) (b:Int)
  (o0:fitsF f->farF f=false->smallF f)
  (o1:fitsF f->farF f=false->smallF f)
  (o2:fitsF f->farF f=false->okFrm f=true->prodF f (List.length (Frm.strips f))<=30)
  (o3:fitsF f->farF f=false->smallF f)
  (o4:fitsF f->farF f=false->(!decide (growN f a=growN f a))=false->(!!decide (growN f a=growN f a))=true)
  (o5:fitsF f->farF f=false->(bif !decide (growN f a=growN f a) then true else !decide (growE f a=growE f a))=false->(!bif !decide (growN f a=growN f a) then true else !decide (growE f a=growE f a))=true)
  (o6:fitsF f->farF f=false->(bif bif !decide (growN f a=growN f a) then true else !decide (growE f a=growE f a) then true else !(decide (Span.lo (gapR f a b)=Span.lo (gapR f a b)) && (decide (Span.hi (gapR f a b)=Span.hi (gapR f a b)) && true)))=false->(!bif bif !decide (growN f a=growN f a) then true else !decide (growE f a=growE f a) then true else !(decide (Span.lo (gapR f a b)=Span.lo (gapR f a b)) && (decide (Span.hi (gapR f a b)=Span.hi (gapR f a b)) && true)))=true)
  (o7:fitsF f->farF f=false->(bif bif bif !decide (growN f a=growN f a) then true else !decide (growE f a=growE f a) then true else !(decide (Span.lo (gapR f a b)=Span.lo (gapR f a b)) && (decide (Span.hi (gapR f a b)=Span.hi (gapR f a b)) && true)) then true else !decide (openF f (gapG f a b)=openF f (gapG f a b)))=true->false=true)
  (o8:fitsF f->farF f=false->(bif bif bif !decide (growN f a=growN f a) then true else !decide (growE f a=growE f a) then true else !(decide (Span.lo (gapR f a b)=Span.lo (gapR f a b)) && (decide (Span.hi (gapR f a b)=Span.hi (gapR f a b)) && true)) then true else !decide (openF f (gapG f a b)=openF f (gapG f a b)))=false->smallF f)
  (o9:fitsF f->farF f=false->(bif bif bif !decide (growN f a=growN f a) then true else !decide (growE f a=growE f a) then true else !(decide (Span.lo (gapR f a b)=Span.lo (gapR f a b)) && (decide (Span.hi (gapR f a b)=Span.hi (gapR f a b)) && true)) then true else !decide (openF f (gapG f a b)=openF f (gapG f a b)))=false->(bif decide (meetsP f a b=meetsP f a b) then decide (openF f (gapG f a b)=openF f (gapG f a b)) else false)=true->smallF f)
  (o10:fitsF f->farF f=false->(bif bif bif !decide (growN f a=growN f a) then true else !decide (growE f a=growE f a) then true else !(decide (Span.lo (gapR f a b)=Span.lo (gapR f a b)) && (decide (Span.hi (gapR f a b)=Span.hi (gapR f a b)) && true)) then true else !decide (openF f (gapG f a b)=openF f (gapG f a b)))=false->(bif bif bif decide (meetsP f a b=meetsP f a b) then decide (openF f (gapG f a b)=openF f (gapG f a b)) else false then true else false then true else false)=true) :
  Triple Try.prog 12 (s12 f a b):=by
 refine triple_of Try.func12 rfl Try.call12 T0_ok _ rfl rfl rfl rfl (Nat.le_of_ble_eq_true (by kernel_rfl)) (fun _ _ _ _ h=>h) ?_
 intro hpre C hC _ hE
 obtain ⟨P,w0,E0,av,hA,ro,df⟩:=C
 obtain ⟨rfl,rfl,rfl⟩:=hC
 refine swp_seq ?_
 refine zR [1,2,3] [0] (Ak 2 tv) ?_
 refine swp_seq ?_
 refine swp_seq ?_
 refine zC ([(1,CallSpec.eq (s41 f) [true])]) [1,2,3,17] [0] (Ak 1 (An (An (An (zr (AV.agg (cFrm f))) tv) (An (t41 (f)) (An hpre (Ak 1 (fun (i0:Env)=>tv))))) tv)) ?_
 refine zI (farF f) (fun y1 => ?_) (fun y1 => ?_)
 ·refine swp_seq ?_
  refine zC ([(0,CallSpec.eq s20 [])]) [6] [] (An (Ak 1 (An (t20) (Ak 2 (fun (i2:Env)=>tv)))) (Ak 1 tv)) ?_
  refine swp_ret ?_
  exact zT [] (An (Ak 1 tv) (An (An (zr (bv true)) (zr nilN)) (An (zr true) (An (zr true) (zr true)))))
 ·refine swp_skip ?_
  refine swp_seq ?_
  refine zC ([(1,CallSpec.eq (c12 f a b 40) [true])]) [1,2,3,7] [0,48,40,41,42] (Ak 1 (An (An (An (zr (AV.agg (cFrm f))) tv) (An (t31o (f) (40)) (An (o0 hpre y1) (Ak 1 (fun (i3:Env)=>tv))))) (Ak 2 tv))) ?_
  refine swp_seq ?_
  refine swp_ent (zE (st2:=ASt.mk [(1,iv a),(2,iv b),(3,AV.ptr 0 []),(7,AV.ptr 48 [])] [(48,OB.cells 26 (cFrm f)),(0,OB.cells 26 (cFrm f))] 64) hE [40,41,42] [(0,.same 0),(48,.same 48)] [1,2] [0] (An (An (An (zr (iv a)) (zr true)) (An (An (zr (iv b)) (zr true)) (An (An (zr (some (Src.same 0))) (zr nilP)) (An (An (zr (some (Src.same 48))) (zr nilP)) tv)))) (An (An (An (zr 26) (An (An (An (zr (iv (Frm.length f))) (zr nilN)) (An (An (zr (iv (Frm.slack f))) (zr nilN)) (An (An (zr 2) (An (zr (List.length (Frm.strips f))) (fun (i4:Nat)=>(fun (y5:i4 < List.length (Frm.strips f))=>(zr (cStrip (stp f i4))))))) (An (An (zr 3) (An (zr (List.length (Frm.pieces f))) (fun (i6:Nat)=>(fun (y7:i6 < List.length (Frm.pieces f))=>(zr (cPiece (pc f i6))))))) (An (An (zr 1) (An (zr (List.length (Frm.columns f))) (fun (i8:Nat)=>(fun (y9:i8 < List.length (Frm.columns f))=>(zr ([aInts (col f i8)])))))) tv))))) (zr true))) (An (An (zr (OB.cells 26 (cFrm f))) (zr true)) tv)) (An (zr true) (zr true))))) ?_
  refine zC ([(2,CallSpec.eq (s26 f a) [true,true])]) [1,2,3,7,8,9] [0,48] (Ak 2 (An (An (An (zr (AV.agg (cFrm f))) (An (zr (iv a)) tv)) (An (t26 (f) (a)) (An (o1 hpre y1) (Ak 1 (fun (i10:Env)=>tv))))) (Ak 5 tv))) ?_
  refine swp_seq ?_
  refine zC ([(2,CallSpec.eq (s65 f a) [true,true])]) [1,2,3,7,8,9,10,11] [0,48] (Ak 2 (An (An (An (zr (AV.agg (cFrm f))) (An (zr (iv a)) tv)) (An (t65 (f) (a)) (An (An hpre (fun (y11:okFrm f=true)=>(o2 hpre y1 y11))) (Ak 1 (fun (i12:Env)=>tv))))) (Ak 5 tv))) ?_
  refine swp_seq ?_
  refine zC ([(3,CallSpec.eq (s48 f a b) [true,true,true])]) [1,2,3,7,8,9,10,11,12,13] [0,48,248] (Ak 3 (An (An (An (zr (AV.agg (cFrm f))) (An (zr (iv a)) (An (zr (iv b)) tv))) (An (t48 (f) (a) (b)) (An (o3 hpre y1) (Ak 1 (fun (i13:Env)=>tv))))) (Ak 6 tv))) ?_
  refine swp_seq ?_
  refine zC ([(3,CallSpec.eq (s66 f a b) [true,true,true])]) [1,2,3,7,8,9,10,11,12,13,14,15] [0,48,248,328] (Ak 3 (An (An (An (zr (AV.agg (cFrm f))) (An (zr (iv a)) (An (zr (iv b)) tv))) (An (t66 (f) (a) (b)) (An hpre (Ak 1 (fun (i14:Env)=>tv))))) (Ak 6 tv))) ?_
  refine swp_seq ?_
  refine swp_seq ?_
  refine zR [1,2,3,7,64] [0,48] (Ak 4 (An (fun (y15:(!!decide (growN f a=growN f a))=true)=>(An (Ak 1 tv) tv)) (An (fun (y16:(!!decide (growN f a=growN f a))=true)=>(An (Ak 1 tv) tv)) (An (fun (y17:(!!decide (growN f a=growN f a))=true)=>(An (An (fun (y18:(!!decide (growN f a=growN f a))=true)=>y17) (An (fun (y19:(!!decide (growN f a=growN f a))=true)=>y17) tv)) tv)) (An (An (fun (y20:(!decide (growN f a=growN f a))=true)=>tv) (fun (y21:(!decide (growN f a=growN f a))=false)=>(o4 hpre y1 y21))) (Ak 1 (An (fun (y22:(!bif !decide (growN f a=growN f a) then true else !decide (growE f a=growE f a))=true)=>(An (Ak 1 tv) tv)) (An (fun (y23:(!bif !decide (growN f a=growN f a) then true else !decide (growE f a=growE f a))=true)=>(An (Ak 1 tv) tv)) (An (fun (y24:(!bif !decide (growN f a=growN f a) then true else !decide (growE f a=growE f a))=true)=>(An (An (fun (y25:(!bif !decide (growN f a=growN f a) then true else !decide (growE f a=growE f a))=true)=>y24) (An (fun (y26:(!bif !decide (growN f a=growN f a) then true else !decide (growE f a=growE f a))=true)=>y24) tv)) tv)) (An (An (fun (y27:(bif !decide (growN f a=growN f a) then true else !decide (growE f a=growE f a))=true)=>tv) (fun (y28:(bif !decide (growN f a=growN f a) then true else !decide (growE f a=growE f a))=false)=>(o5 hpre y1 y28))) (Ak 1 (An (fun (y29:(!bif bif !decide (growN f a=growN f a) then true else !decide (growE f a=growE f a) then true else !(decide (Span.lo (gapR f a b)=Span.lo (gapR f a b)) && (decide (Span.hi (gapR f a b)=Span.hi (gapR f a b)) && true)))=true)=>(An (Ak 1 tv) tv)) (An (fun (y30:(!bif bif !decide (growN f a=growN f a) then true else !decide (growE f a=growE f a) then true else !(decide (Span.lo (gapR f a b)=Span.lo (gapR f a b)) && (decide (Span.hi (gapR f a b)=Span.hi (gapR f a b)) && true)))=true)=>(An (Ak 1 tv) tv)) (An (fun (y31:(!bif bif !decide (growN f a=growN f a) then true else !decide (growE f a=growE f a) then true else !(decide (Span.lo (gapR f a b)=Span.lo (gapR f a b)) && (decide (Span.hi (gapR f a b)=Span.hi (gapR f a b)) && true)))=true)=>(An (An (fun (y32:(!bif bif !decide (growN f a=growN f a) then true else !decide (growE f a=growE f a) then true else !(decide (Span.lo (gapR f a b)=Span.lo (gapR f a b)) && (decide (Span.hi (gapR f a b)=Span.hi (gapR f a b)) && true)))=true)=>y31) (An (fun (y33:(!bif bif !decide (growN f a=growN f a) then true else !decide (growE f a=growE f a) then true else !(decide (Span.lo (gapR f a b)=Span.lo (gapR f a b)) && (decide (Span.hi (gapR f a b)=Span.hi (gapR f a b)) && true)))=true)=>y31) tv)) tv)) (An (An (fun (y34:(bif bif !decide (growN f a=growN f a) then true else !decide (growE f a=growE f a) then true else !(decide (Span.lo (gapR f a b)=Span.lo (gapR f a b)) && (decide (Span.hi (gapR f a b)=Span.hi (gapR f a b)) && true)))=true)=>tv) (fun (y35:(bif bif !decide (growN f a=growN f a) then true else !decide (growE f a=growE f a) then true else !(decide (Span.lo (gapR f a b)=Span.lo (gapR f a b)) && (decide (Span.hi (gapR f a b)=Span.hi (gapR f a b)) && true)))=false)=>(o6 hpre y1 y35))) tv))))))))))))))) ?_
  refine zI (bif bif bif !decide (growN f a=growN f a) then true else !decide (growE f a=growE f a) then true else !(decide (Span.lo (gapR f a b)=Span.lo (gapR f a b)) && (decide (Span.hi (gapR f a b)=Span.hi (gapR f a b)) && true)) then true else !decide (openF f (gapG f a b)=openF f (gapG f a b))) (fun y36 => ?_) (fun y36 => ?_)
  ·refine swp_seq ?_
   refine zR [6] [] (Ak 1 tv) ?_
   refine swp_ret ?_
   exact zT [] (An (Ak 1 tv) (An (An (cb (o7 hpre y1 y36)) (zr nilN)) (An (zr true) (An (zr true) (zr true)))))
  ·refine swp_skip ?_
   refine swp_seq ?_
   refine zC ([(3,CallSpec.eq (s67 f a b) [true,true,true])]) [1,2,3,7,8,9] [0,48] (Ak 3 (An (An (An (zr (AV.agg (cFrm f))) (An (zr (iv a)) (An (zr (iv b)) tv))) (An (t67 (f) (a) (b)) (An (o8 hpre y1 y36) (Ak 1 (fun (i37:Env)=>tv))))) (Ak 5 tv))) ?_
   refine swp_seq ?_
   refine zC ([(3,CallSpec.eq (s68 f a b) [true,true,true])]) [3,7,8,9,10,11] [0,48] (Ak 3 (An (An (An (zr (AV.agg (cFrm f))) (An (zr (iv a)) (An (zr (iv b)) tv))) (An (t68 (f) (a) (b)) (An hpre (Ak 1 (fun (i38:Env)=>tv))))) (Ak 5 tv))) ?_
   refine swp_seq ?_
   refine zC ([(11,CallSpec.eq (s39 f) [true,true]),(14,CallSpec.eq s20 [])]) [6] [] (Ak 4 (An (fun (y39:decide (meetsP f a b=meetsP f a b)=true)=>(An (Ak 1 tv) tv)) (An (fun (y40:decide (meetsP f a b=meetsP f a b)=true)=>(An (Ak 1 tv) tv)) (An (fun (y41:decide (meetsP f a b=meetsP f a b)=true)=>(An (An (fun (y42:decide (meetsP f a b=meetsP f a b)=true)=>y41) (An (fun (y43:decide (meetsP f a b=meetsP f a b)=true)=>y41) tv)) tv)) (An (An (fun (y44:decide (meetsP f a b=meetsP f a b)=true)=>y44) (fun (y45:decide (meetsP f a b=meetsP f a b)=false)=>tv)) (Ak 1 (An (fun (y46:(bif decide (meetsP f a b=meetsP f a b) then decide (openF f (gapG f a b)=openF f (gapG f a b)) else false)=true)=>(An (Ak 1 tv) tv)) (An (fun (y47:(bif decide (meetsP f a b=meetsP f a b) then decide (openF f (gapG f a b)=openF f (gapG f a b)) else false)=true)=>(An (Ak 1 tv) tv)) (An (fun (y48:(bif decide (meetsP f a b=meetsP f a b) then decide (openF f (gapG f a b)=openF f (gapG f a b)) else false)=true)=>(An (Ak 1 (An (fun (y49:(bif decide (meetsP f a b=meetsP f a b) then decide (openF f (gapG f a b)=openF f (gapG f a b)) else false)=true)=>y48) (An (fun (y50:(bif decide (meetsP f a b=meetsP f a b) then decide (openF f (gapG f a b)=openF f (gapG f a b)) else false)=true)=>y48) tv))) (An (An (zr (AV.agg (cFrm f))) (An (zr (AV.agg (cFrm f))) tv)) (An (t39 (f)) (An (o9 hpre y1 y36 y48) (Ak 1 (fun (i51:Env)=>tv))))))) (An (An (fun (y52:(bif decide (meetsP f a b=meetsP f a b) then decide (openF f (gapG f a b)=openF f (gapG f a b)) else false)=true)=>y52) (fun (y53:(bif decide (meetsP f a b=meetsP f a b) then decide (openF f (gapG f a b)=openF f (gapG f a b)) else false)=false)=>tv)) (Ak 1 (An (fun (y54:(bif bif decide (meetsP f a b=meetsP f a b) then decide (openF f (gapG f a b)=openF f (gapG f a b)) else false then true else false)=true)=>(An (Ak 1 tv) (Ak 1 (An (t20) (Ak 2 (fun (i55:Env)=>tv)))))) (An (An (fun (y56:(bif bif decide (meetsP f a b=meetsP f a b) then decide (openF f (gapG f a b)=openF f (gapG f a b)) else false then true else false)=true)=>y56) (fun (y57:(bif bif decide (meetsP f a b=meetsP f a b) then decide (openF f (gapG f a b)=openF f (gapG f a b)) else false then true else false)=false)=>tv)) (Ak 1 tv)))))))))))))) ?_
   refine swp_ret ?_
   exact zT [] (An (Ak 1 tv) (An (An (cb (o10 hpre y1 y36)) (zr nilN)) (An (zr true) (An (zr true) (zr true)))))
theorem t12 (f:Frm) (a b:Int):Triple Try.prog 12 (s12 f a b):=by
 apply w12
 all_goals (intro hp h; have hsm:=far_small h)
 all_goals (try (first | exact hsm | (exact fun e=>far_prod h e)))
 all_goals (simp only [decide_true,Bool.not_true,Bool.not_false,cond_true,cond_false,Bool.and_self,Bool.and_true])
 all_goals (repeat intro _)
 all_goals (first | exact hsm | rfl | trivial | contradiction)
end Go.Ab
namespace Go.Ab
open Go Go.RowKit
def Dec (P:Program) (t:TypeId) {α:Type} (c:α->List AV) (ok:α->Prop):Prop :=
 ∀ {H:Type} (enc:TypeId × Value->H) (w:World) (E:Env) (fuel:Nat) (cs:List Value) (d:DataW H) (ps:List MemPlace),
  (∀ b,E.M b=w.heap[b]?)->DataW.trod enc P w 0 (fun _=>true) true fuel t cs=some (d,ps)->(∀ n ∈ d.weights P t,n<=reachBytes) -> ∃ a,ok a /\ ∀ o,RelL E o (c a) cs
theorem mcell_of {E:Env} {w:World} (h:∀ b,E.M b=w.heap[b]?) {a:Addr} {v:Value} (hc:w.cell? a=some v):a.spot=none/\mcell E.M a.block a.off=some v:=by
 refine ⟨World.cell?_spot hc,?_⟩
 have hs:=World.cell?_spot hc
 unfold World.cell? at hc
 unfold mcell
 rw [h]
 split at hc
 ·rename_i c t fr e
  rw [hs] at hc
  rw [e]
  simpa using hc
 ·cases hc
theorem lit_wf {n:Int} (h:(Lit.int .i64 n).wf=true) : -9223372036854775808<=n/\n<=9223372036854775807:=by
 simpa [Lit.wf,IntKind.min,IntKind.max,IntKind.signed,IntKind.bits] using h
theorem dec_int {P:Program} {t:TypeId} (ht:P.underlying t=some (.int .i64)):Dec P t (fun n=>[iv n]) (fun n => -9223372036854775808<=n/\n<=9223372036854775807):=by
 intro H enc w E fuel cs d ps _ h _
 obtain ⟨n,rfl,_,hw⟩:=DataW.trod_int ht h
 exact ⟨n,lit_wf hw,fun o => .cons (.lit _) rfl .nil⟩
theorem weightsAll_mem {H:Type} {P:Program} {e:TypeId}:∀ {l:List (DataW H)} {d:DataW H},d ∈ l -> ∀ n ∈ d.weights P e,n ∈ DataW.weightsAll P e l:=by
 intro l
 induction l with
 | nil=>intro d h; cases h
 | cons x l ih =>
  intro d h n hn
  rw [DataW.weightsAll,List.mem_append]
  rcases List.mem_cons.1 h with rfl | h
  ·exact .inl hn
  ·exact .inr (ih h n hn)
theorem dec_slice {P:Program} {t e:TypeId} {α:Type} [Inhabited α] {c:α->List AV} {ok:α->Prop} (ht:P.underlying t=some (.slice e)) {sz:Nat} (hsz:P.cellsOf e=sz) (hpos:0 < sz) (hby:0 < P.bytesOf e) (he:Dec P e c ok) :
  Dec P t (fun l:List α=>[.sl sz l.length (fun i=>c (l.getD i default))]) (fun l=>l.length<=140737488355328 /\ ∀ a,a ∈ l->ok a):=by
 intro H enc w E fuel cs d ps hE h hw
 rcases Deep.open_slice ht h with ⟨rfl,hx⟩ | ⟨a,len,cap,m,n,D,Pl,rfl,hb,hl,hm,hmm,hx,hall⟩
 ·refine ⟨[],⟨Nat.zero_le _,fun a ha=>by cases ha⟩,fun o => ?_⟩
  exact .cons (.slN _ _) rfl .nil
 ·simp only [if_true] at hmm
  subst hmm
  rw [hsz] at hall
  obtain ⟨rfl,rfl⟩:=Prod.mk.inj hx
  have hwt:∀ i,i < len -> ∀ k ∈ (D i).weights P e,k<=reachBytes:=by
   intro i hi k hk
   refine hw k ?_
   rw [DataW.weights,ht]
   refine List.mem_cons_of_mem _ (List.mem_append_left _ (weightsAll_mem (d:=D i) ?_ k hk))
   exact List.mem_map.2 ⟨i,List.mem_range.2 hi,rfl⟩
  have hlen:len<=140737488355328:=by
   have h1:(((List.range len).map D).length + ((List.range (m - len)).map fun j=>D (len + j)).length) * P.bytesOf e<=reachBytes:=by
    refine hw _ ?_
    rw [DataW.weights,ht]
    exact List.mem_cons_self ..
   simp only [List.length_map,List.length_range] at h1
   have h2:len<=(len + (m - len)) * P.bytesOf e:=Nat.le_trans (Nat.le_add_right _ _) (Nat.le_mul_of_pos_right _ hby)
   have h3:=reachBytes_lt
   omega
  obtain ⟨g,hg⟩:=Deep.choose_lt (α:=List Value) (p:=fun i cs'=>w.cells? 0 (a.add (i * sz)) sz=some cs'/\DataW.trod enc P w 0 (fun _=>true) true n e cs'=some (D i,Pl i)) hall
  have hdec:∀ i,i < len -> ∃ x,ok x /\ ∀ o,RelL E o (c x) (g i):=fun i hi=>he enc w E n (g i) (D i) (Pl i) hE (hg i (by omega)).2 (hwt i hi)
  obtain ⟨A,hA⟩:=Deep.choose_lt (α:=α) (p:=fun i x=>ok x /\ ∀ o,RelL E o (c x) (g i)) hdec
  refine ⟨(List.range len).map A,⟨by simpa using hlen,fun x hx => ?_⟩,fun o => .cons ?_ rfl .nil⟩
  ·obtain ⟨i,hi,rfl⟩:=List.mem_map.1 hx
   exact (hA i (List.mem_range.1 hi)).1
  ·rw [List.length_map,List.length_range]
   have hcell:∀ i k,i < m->k < sz -> ∃ v,(g i)[k]? = some v/\w.cell? ((a.add (i * sz)).add k)=some v:=by
    intro i k hi hk
    obtain ⟨_,hl1,hl2⟩:=World.cells?_some (hg i hi).1
    have:=hl2 k hk
    obtain ⟨v,hv⟩:∃ v,(g i)[k]? = some v:=⟨_,List.getElem?_eq_getElem (by omega)⟩
    exact ⟨v,hv,by rw [this,hv]⟩
   by_cases h0:m=0
   ·subst h0
    obtain rfl:len=0:=by omega
    exact .slZ _ _ _
   ·obtain ⟨v,_,hv⟩:=hcell 0 0 (by omega) hpos
    have hsp:=(mcell_of hE hv).1
    obtain ⟨b,off,spot⟩:=a
    obtain rfl:spot=none:=by simpa [Addr.add] using hsp
    refine .slA sz len _ b off m g hl hm (fun i hi => ?_) (fun i k hi hk => ?_) (fun i hi => ?_)
    ·exact (World.cells?_some (hg i (by omega)).1).2.1
    ·obtain ⟨v,hv1,hv2⟩:=hcell i k (by omega) hk
     rw [hv1]
     have:=(mcell_of hE hv2).2
     rw [addr_add,addr_add] at this
     exact this
    ·have:((List.range len).map A).getD i default=A i:=by
      rw [List.getD_eq_getElem?_getD,List.getElem?_map,List.getElem?_range hi]; rfl
     rw [this]
     exact (hA i hi).2 false
def DecFs (P:Program) (off fin:Nat) (fs:List Field) {α:Type} (c:α->List AV) (ok:α->Prop):Prop :=
 ∀ {H:Type} (enc:TypeId × Value->H) (w:World) (E:Env) (n:Nat) (cs:List Value) (xs:List (DataW H × List MemPlace)),
  (∀ b,E.M b=w.heap[b]?)->cs.length=fin->xs.length=fs.length->(∀ (i:Nat) (f:Field),fs[i]? = some f->DataW.trod enc P w 0 (fun _=>true) true n f.type ((cs.drop f.offset).take (P.cellsOf f.type))=xs[i]?) →
  (∀ k ∈ DataW.weightsEach P (fs.map (·.type)) (xs.map (·.1)),k<=reachBytes) -> ∃ a,ok a /\ ∀ o,RelL E o (c a) (cs.drop off)
theorem decFs_nil {P:Program} {fin:Nat}:DecFs P fin fin [] (fun _:Unit=>[]) (fun _=>True):=by
 intro H enc w E n cs xs _ hl _ _ _
 refine ⟨(),trivial,fun o => ?_⟩
 rw [List.drop_of_length_le (by omega)]
 exact .nil
theorem decFs_cons {P:Program} {off mid fin:Nat} {f:Field} {fs:List Field} {α β:Type} {c1:α->List AV} {ok1:α->Prop} {c2:β->List AV} {ok2:β->Prop} {t:TypeId} (hft:f.type=t) (ho:f.offset=off) (hm:off + P.cellsOf t=mid)
  (h1:Dec P t c1 ok1) (h2:DecFs P mid fin fs c2 ok2):DecFs P off fin (f :: fs) (fun p:α × β=>c1 p.1 ++ c2 p.2) (fun p=>ok1 p.1/\ok2 p.2):=by
 intro H enc w E n cs xs hE hl hx hall hw
 subst hft; subst ho; subst hm
 cases xs with
 | nil=>simp at hx
 | cons x xs =>
  have h0:=hall 0 f rfl
  simp only [List.getElem?_cons_zero] at h0
  obtain ⟨a,ha,hra⟩:=h1 enc w E n _ x.1 x.2 hE h0 (fun k hk=>hw k (by
   simp only [List.map_cons,DataW.weightsEach]
   exact List.mem_append_left _ hk))
  obtain ⟨b,hb,hrb⟩:=h2 enc w E n cs xs hE hl (by simpa using hx) (fun i g hg=>by
   have:=hall (i + 1) g (by simpa using hg)
   simpa using this) (fun k hk=>hw k (by
   simp only [List.map_cons,DataW.weightsEach]
   exact List.mem_append_right _ hk))
  refine ⟨(a,b),⟨ha,hb⟩,fun o => ?_⟩
  have:=(hra o).append (hrb o)
  rw [← List.drop_drop,List.take_append_drop] at this
  exact this
theorem dec_struct {P:Program} {t:TypeId} {fs:Array Field} {sz:Nat} {α:Type} {c:α->List AV} {ok:α->Prop} (ht:P.underlying t=some (.struct fs)) (hsz:P.cellsOf t=sz) (h:DecFs P 0 sz fs.toList c ok):Dec P t c ok:=by
 intro H enc w E fuel cs d ps hE hd hw
 obtain ⟨xs,n,_,hx,hl,hxl,hall⟩:=DataW.trod_struct ht hd
 obtain ⟨rfl,rfl⟩:=Prod.mk.inj hx
 obtain ⟨a,ha,hr⟩:=h enc w E n cs xs hE (by omega) (by simpa using hxl) (fun i f hf=>hall i f (by simpa using hf)) (fun k hk=>hw k (by rw [DataW.weights,ht]; exact hk))
 exact ⟨a,ha,fun o=>by simpa using hr o⟩
theorem Dec.map {P:Program} {t:TypeId} {α β:Type} {c:α->List AV} {ok:α->Prop} {c':β->List AV} {ok':β->Prop} (h:Dec P t c ok) (g:α->β) (hc:∀ a,ok a->c' (g a)=c a) (hok:∀ a,ok a->ok' (g a)):Dec P t c' ok':=by
 intro H enc w E fuel cs d ps hE hd hw
 obtain ⟨a,ha,hr⟩:=h enc w E fuel cs d ps hE hd hw
 exact ⟨g a,hok a ha,fun o=>by rw [hc a ha]; exact hr o⟩
theorem Dec.arg {P:Program} {t:TypeId} {α:Type} {c:α->List AV} {ok:α->Prop} (h:Dec P t c ok) {H:Type} {enc:TypeId × Value->H} {w:World} {E:Env} (hE:∀ b,E.M b=w.heap[b]?) {v:Value} {d:DataW H} {ps:List MemPlace}
  (hd:DataW.Trod enc P w 0 (fun _=>true) true t v d ps) (hw:∀ n ∈ d.weights P t,n<=reachBytes):∃ a,ok a /\ ∀ o,RelL E o (c a) v.cells.toList:=by
 obtain ⟨fuel,hf⟩:=hd
 exact h enc w E fuel _ d ps hE hf hw
def envOf (w:World):Env:={ M:=fun b=>w.heap[b]?,blk:=fun _=>none,hdr:=fun _=>none,fns:=fun _ _=>False }
theorem heapOK_of (P:Program) (w:World):HeapOK (calleeCtx P (envOf w) w []) (envOf w) (Heap.of []) w where
 os:=rfl
 tape:=rfl
 output:=rfl
 size:=Nat.le_refl _
 pres:=fun _ _=>rfl
 mem:=fun _ _ h=>h
 le:=Env.le.refl _
 ext:=fun _ _ h => .inl h
 own:=fun id ob h=>by cases h
 sep:=fun i j k _ h=>absurd rfl h
theorem trodAll_below {H:Type} {enc:TypeId × Value->H} {P:Program} (hl:laidOutB P=true) {W W':World} (hb:Below W.heap.size W W'):∀ {ts:List TypeId} {vs:List Value} {ds:List (DataW H)} {ps:List MemPlace},
  (∀ t ∈ ts,P.readableRec t=true/\t < P.types.size)->DataW.TrodAll enc P W 0 (fun _=>true) true ts vs ds ps->(∀ x ∈ ps,x.block < W.heap.size) →
  DataW.TrodAll enc P W' 0 (fun b=>decide (b < W.heap.size)) true ts vs ds ps:=by
 intro ts
 induction ts with
 | nil =>
  intro vs ds ps _ h _
  obtain ⟨rfl,rfl,rfl⟩:=ChangeShapes.trodAll_nil h
  exact ChangeShapes.trodAll_mk0
 | cons t ts ih =>
  intro vs ds ps hr h hlt
  obtain ⟨v,vs',d,ds',p,q,rfl,rfl,rfl,hd,hrest⟩:=ChangeShapes.trodAll_cons h
  obtain ⟨h1,h2⟩:=hr t (List.mem_cons_self ..)
  exact ⟨p,q,Below.trod hl h1 h2 hd hb (fun x hx=>hlt x (List.mem_append_left _ hx)),ih (fun t ht=>hr t (List.mem_cons_of_mem _ ht)) hrest (fun x hx=>hlt x (List.mem_append_right _ hx)),rfl⟩
theorem law_contract {P:Program} (hl:laidOutB P=true) {f:FuncId} {fn:Func} {s:ChangeSpec} (hvars:s.vars = []) {tb:TypeId} (hres:fn.resultTypes = #[tb]) (htb:P.underlying tb=some .bool)
  (hread:∀ t ∈ fn.params.toList,P.readableRec t=true/\t < P.types.size)
  {H:Type} {enc:TypeId × Value->H} {W:World} {args:Array Value} {ds gs:List (DataW H)} {before:List MemPlace}
  (hfn:ds.length=fn.params.size->s.fn H ds = { results:=[.lit (.bool true)],args:=ds })
  (hW:DataW.Whole enc P fn.params.toList s.vars false W args.toList ds gs before) {sp:CallSpec} (ht:Triple P f sp) (hp:sp.pre) (hfo:∀ E,sp.fnok E) (hin:sp.hin = []) (hout:sp.hout = []) (hr:sp.res=bv true)
  (hla:args.toList.length=sp.args.length) (hra:∀ k,Rel (envOf W) true (sp.args.getD k .any) (args.toList.getD k undef)) :
  Calls P f args W fun e W' => ∃ v,e = .returned v/\s.post enc P fn false true false false W args v W':=by
 have hok:=heapOK_of P W
 have h:=ht.2 hp (envOf W) W args.toList (hfo _) (by rw [hin]; exact hok) hla hra
 refine (h (by rw [hout]; intro p hp; cases hp)).mono fun e W' hpost => ?_
 obtain ⟨v,E',he,hh,hv,_⟩:=hpost
 rw [hr] at hv
 have hvt:v = .bool true:=by cases hv; rfl
 subst hvt
 have hb:Below W.heap.size W W':=⟨hh.os,hh.tape,hh.output,hh.size,fun k hk=>hh.pres k (by
  rintro (hc | ⟨q,hq,_⟩)
  ·exact absurd hk (Nat.not_lt.2 hc)
  ·rw [hin] at hq; cases hq)⟩
 refine ⟨_,he,?_⟩
 have hW':=hW
 obtain ⟨p,q,hA,hV,rfl,hz,hnd⟩:=hW
 rw [hvars] at hV
 obtain ⟨rfl,rfl⟩:=ChangeShapes.trodVars_none hV
 have hlen:ds.length=fn.params.size:=by
  have:∀ {ts:List TypeId} {vs:List Value} {ds:List (DataW H)} {ps:List MemPlace},DataW.TrodAll enc P W 0 (fun _=>true) true ts vs ds ps->ds.length=ts.length:=by
   intro ts
   induction ts with
   | nil=>intro vs ds ps h; obtain ⟨_,rfl,_⟩:=ChangeShapes.trodAll_nil h; rfl
   | cons t ts ih=>intro vs ds ps h; obtain ⟨_,_,_,_,_,_,rfl,rfl,rfl,_,hr⟩:=ChangeShapes.trodAll_cons h; simp [ih hr]
  simpa using this hA
 refine ⟨ds,[],p ++ [],[],p,[],hW',?_,?_,?_,hb.frame _,fun h=>by cases h⟩
 ·rw [List.append_nil,hfn hlen,hres]
  exact ChangeShapes.trodAll_mk1 (shut_bool htb true)
 ·rw [List.append_nil,hfn hlen]
  exact trodAll_below hl hb hread hA (fun x hx=>hW'.lt x (List.mem_append_left _ hx))
 ·rw [List.append_nil,hfn hlen,hvars]
  rfl
end Go.Ab
namespace Go.Ab
open Go Go.RowKit Go.Proofs Go.Sh Go.En
theorem dInt:Dec Try.prog 3 (fun n=>[iv n]) (fun n => -9223372036854775808<=n/\n<=9223372036854775807):=dec_int Try.underlying3
theorem dInts:Dec Try.prog 27 (fun l:List Int=>[aInts l]) (fun l=>l.length<=140737488355328) :=
 Dec.map (dec_slice (α:=Int) Try.underlying27 (by kernel_rfl) (by decide) (Nat.lt_of_lt_of_eq (by decide:0 < 8) (by kernel_rfl)) dInt) id (fun _ _=>rfl) (fun _ h=>h.1)
set_option maxRecDepth 100000
theorem laidOut:laidOutB Try.prog=true:=by kernel_rfl
section
variable {H:Type} {enc:TypeId × Value->H} {W:World} {base:Nat} {v:Value} {d:DataW H} {ps:List MemPlace}
theorem arg_struct {t:TypeId} {fs:Array Field} {α:Type} {c:α->List AV} {ok:α->Prop} (ht:Try.prog.underlying t=some (.struct fs)) (hD:Dec Try.prog t c ok) (hval:Value.okWide Try.prog W .any base t v) (hd:DataW.Trod enc Try.prog W 0 (fun _=>true) true t v d ps) (hw:∀ n ∈ d.weights Try.prog t,n<=reachBytes) :
  ∃ a,ok a/\Rel (envOf W) true (.agg (c a)) v:=by
 unfold Value.okWide at hval
 rw [ht] at hval
 obtain ⟨cs,rfl,_⟩:=hval
 obtain ⟨a,ha,hr⟩:=hD.arg (E:=envOf W) (fun _=>rfl) hd hw
 refine ⟨a,ha,?_⟩
 have h:=Rel.agg (hr true)
 simpa [Value.cells] using h
theorem arg_int (hval:Value.okWide Try.prog W .any base 3 v) (hd:DataW.Trod enc Try.prog W 0 (fun _=>true) true 3 v d ps):∃ n:Int,(-9223372036854775808<=n/\n<=9223372036854775807)/\Rel (envOf W) true (iv n) v:=by
 obtain ⟨n,rfl,_,_,hw⟩:=ChangeShapes.open_int Try.underlying3 hval hd
 exact ⟨n,lit_wf hw,.lit _⟩
end
theorem weights_part {H:Type} {ts:List TypeId} {ds:List (DataW H)} (h:(DataW.weightsEach Try.prog ts ds).all (· <= reachBytes)=true) {j:Nat} {t:TypeId} {d:DataW H} (ht:ts[j]? = some t) (hd:ds[j]? = some d):∀ n ∈ d.weights Try.prog t,n<=reachBytes:=by
 intro n hn
 have:=List.all_eq_true.1 h _ (DataW.weights_mem_each ht hd n hn)
 simpa using this
def ArgD (t:TypeId) (α:Type) (c:α->AV) (ok:α->Prop):Prop :=
 (Try.prog.readableRec t=true/\t < Try.prog.types.size) /\ ∀ {H:Type} {enc:TypeId × Value->H} {W:World} {base:Nat} {v:Value} {d:DataW H} {ps:List MemPlace},Value.okWide Try.prog W .any base t v->DataW.Trod enc Try.prog W 0 (fun _=>true) true t v d ps->(∀ n ∈ d.weights Try.prog t,n<=reachBytes) -> ∃ a,ok a/\Rel (envOf W) true (c a) v
abbrev i64 (n:Int):Prop := -9223372036854775808<=n/\n<=9223372036854775807
theorem argInt:ArgD 3 Int iv i64:=⟨⟨by kernel_rfl,of_decide_eq_true (by kernel_rfl)⟩,fun hv hd _=>arg_int hv hd⟩
theorem argStruct {t:TypeId} {fs:Array Field} {α:Type} {c:α->List AV} {ok:α->Prop} (ht:Try.prog.underlying t=some (.struct fs)) (hr:Try.prog.readableRec t=true/\t < Try.prog.types.size) (hD:Dec Try.prog t c ok):ArgD t α (fun a => .agg (c a)) ok:=⟨hr,fun hv hd hw=>arg_struct ht hD hv hd hw⟩
theorem law_three {f:FuncId} {fn:Func} {s:ChangeSpec} {t1 t2 t3:TypeId} {α β γ:Type} {c1:α->AV} {c2:β->AV} {c3:γ->AV} {ok1:α->Prop} {ok2:β->Prop} {ok3:γ->Prop} (h1:ArgD t1 α c1 ok1) (h2:ArgD t2 β c2 ok2) (h3:ArgD t3 γ c3 ok3)
  (hps:fn.params = #[t1,t2,t3]) (hres:fn.resultTypes = #[4]) (hvars:s.vars = []) (hfn:∀ (H:Type) (d1 d2 d3:DataW H),s.fn H [d1,d2,d3] = { results:=[.lit (.bool true)],args:=[d1,d2,d3] })
  (sp:α->β->γ->CallSpec) (ht:∀ r a b,Triple Try.prog f (sp r a b)) (hargs:∀ r a b,(sp r a b).args = [c1 r,c2 a,c3 b]) (hpre:∀ r a b,ok1 r->ok2 a->ok3 b->(sp r a b).pre)
  (hfo:∀ r a b E,(sp r a b).fnok E) (hin:∀ r a b,(sp r a b).hin = []) (hout:∀ r a b,(sp r a b).hout = []) (hr:∀ r a b,(sp r a b).res=bv true)
  {H:Type} {enc:TypeId × Value->H} {W:World} {base:Nat} {args:Array Value} {ds gs:List (DataW H)} {before:List MemPlace}
  (hval:∀ (j:Nat) t v,fn.params[j]? = some t->args[j]? = some v->Value.okWide Try.prog W .any base t v) (hW:DataW.Whole enc Try.prog fn.params.toList s.vars false W args.toList ds gs before)
  (hsz:(DataW.weightsEach Try.prog (fn.params.toList ++ s.plain.varTypes Try.prog) (ds ++ gs)).all (· <= reachBytes)=true) :
  Calls Try.prog f args W fun e W' => ∃ v,e = .returned v/\s.post enc Try.prog fn false true false false W args v W':=by
 have hW':=hW
 obtain ⟨p,q,hA,_,_,_,_⟩:=hW
 rw [hps] at hA hval hsz
 obtain ⟨v0,v1,v2,d0,d1,d2,p0,p1,p2,rfl,rfl,rfl,g0,g1,g2⟩:=ChangeShapes.trodAll_three hA
 obtain ⟨r,hr0,r0⟩:=h1.2 (hval 0 t1 v0 rfl rfl) g0 (weights_part hsz (j:=0) rfl rfl)
 obtain ⟨a,ha,r1⟩:=h2.2 (hval 1 t2 v1 rfl rfl) g1 (weights_part hsz (j:=1) rfl rfl)
 obtain ⟨b,hb,r2⟩:=h3.2 (hval 2 t3 v2 rfl rfl) g2 (weights_part hsz (j:=2) rfl rfl)
 refine law_contract laidOut hvars hres Try.underlying4 (fun t htt => ?_) (fun _=>hfn H d0 d1 d2) hW' (ht r a b) (hpre r a b hr0 ha hb) (hfo r a b) (hin r a b) (hout r a b) (hr r a b) (by rw [hargs]; rfl) (fun k => ?_)
 ·rw [hps] at htt
  have:t=t1 ∨ t=t2 ∨ t=t3:=by simpa using htt
  rcases this with rfl | rfl | rfl
  ·exact h1.1
  ·exact h2.1
  ·exact h3.1
 ·rw [hargs]
  rcases k with _ | _ | _ | k
  ·exact r0
  ·exact r1
  ·exact r2
  ·exact .any _
end Go.Ab
namespace Go.Ab
open Go Go.RowKit Go.Proofs Go.Sh Go.En
set_option maxRecDepth 100000
theorem dSpan:Dec Try.prog 36 cSpan (fun _=>True) :=
 Dec.map (dec_struct Try.underlying36 (sz:=2) (by kernel_rfl) (decFs_cons (mid:=1) rfl rfl (by kernel_rfl) dInt (decFs_cons (mid:=2) rfl rfl (by kernel_rfl) dInt decFs_nil))) (fun p=>(⟨p.1,p.2.1⟩:Span)) (fun _ _=>rfl) (fun _ _=>trivial)
theorem dStrip:Dec Try.prog 65 cStrip (fun _=>True) :=
 Dec.map (dec_struct Try.underlying65 (sz:=2) (by kernel_rfl) (decFs_cons (mid:=1) rfl rfl (by kernel_rfl) dInt (decFs_cons (mid:=2) rfl rfl (by kernel_rfl) dInt decFs_nil))) (fun p=>(⟨p.1,p.2.1⟩:Strip)) (fun _ _=>rfl) (fun _ _=>trivial)
theorem dPiece:Dec Try.prog 46 cPiece (fun _=>True) :=
 Dec.map (dec_struct Try.underlying46 (sz:=3) (by kernel_rfl) (decFs_cons (mid:=2) rfl rfl (by kernel_rfl) dSpan (decFs_cons (mid:=3) rfl rfl (by kernel_rfl) dInt decFs_nil))) (fun p=>(⟨p.1.lo,p.1.hi,p.2.1⟩:Piece)) (fun _ _=>rfl) (fun _ _=>trivial)
theorem dStrips:Dec Try.prog 22 (fun l:List Strip=>[.sl 2 l.length (fun i=>cStrip (l.getD i default))]) (fun l=>l.length<=140737488355328 /\ ∀ m,m ∈ l->True) :=
 dec_slice (α:=Strip) Try.underlying22 (by kernel_rfl) (by decide) (Nat.lt_of_lt_of_eq (by decide:0 < 16) (by kernel_rfl)) dStrip
theorem dPieces:Dec Try.prog 23 (fun l:List Piece=>[.sl 3 l.length (fun i=>cPiece (l.getD i default))]) (fun l=>l.length<=140737488355328 /\ ∀ m,m ∈ l->True) :=
 dec_slice (α:=Piece) Try.underlying23 (by kernel_rfl) (by decide) (Nat.lt_of_lt_of_eq (by decide:0 < 24) (by kernel_rfl)) dPiece
theorem dIntss:Dec Try.prog 24 (fun l:List (List Int)=>[aIntss l]) (fun l=>l.length<=140737488355328 /\ ∀ m,m ∈ l->m.length<=140737488355328) :=
 dec_slice (α:=List Int) Try.underlying24 (by kernel_rfl) (by decide) (Nat.lt_of_lt_of_eq (by decide:0 < 24) (by kernel_rfl)) dInts
theorem dFrm:Dec Try.prog 26 cFrm fitsF:=by
 refine Dec.map (dec_struct Try.underlying26 (sz:=5) (by kernel_rfl) (decFs_cons (mid:=1) rfl rfl (by kernel_rfl) dInt (decFs_cons (mid:=2) rfl rfl (by kernel_rfl) dInt (decFs_cons (mid:=3) rfl rfl (by kernel_rfl) dStrips (decFs_cons (mid:=4) rfl rfl (by kernel_rfl) dPieces (decFs_cons (mid:=5) rfl rfl (by kernel_rfl) dIntss decFs_nil)))))) (fun p=>(⟨p.1,p.2.1,p.2.2.1,p.2.2.2.1,p.2.2.2.2.1⟩:Frm)) (fun _ _=>rfl) (fun p h => ?_)
 obtain ⟨_,_,⟨h1,_⟩,⟨h2,_⟩,⟨h3,h4⟩,_⟩:=h
 refine ⟨Nat.le_trans h1 (by decide),Nat.le_trans h2 (by decide),Nat.le_trans h3 (by decide),fun i => ?_⟩
 show (p.2.2.2.2.1.getD i []).length<=_
 by_cases hi:i < p.2.2.2.2.1.length
 ·exact Nat.le_trans (h4 _ (getD_mem _ [] hi)) (by decide)
 ·rw [getD_ge _ _ (by omega)]; exact Nat.zero_le _
theorem argFrm:ArgD 26 Frm (fun f=>vFrm f) fitsF:=argStruct Try.underlying26 ⟨by kernel_rfl,of_decide_eq_true (by kernel_rfl)⟩ dFrm
end Go.Ab
namespace Go.Proofs.Ytpnmalddfpjcoaa
open Go Go.Ab Go.Sh Go.En Go.RowKit
set_option maxRecDepth 100000
theorem own:ownKnob Try.prog.godebug=none:=by kernel_rfl
def nilArgs:Array Value := #[.agg #[.int .i64 0,.int .i64 0,.slice none 0 0,.slice none 0 0,.slice none 0 0],.int .i64 0,.int .i64 0]
theorem lifted (os:Os) (started:os.Started) (H:Type) (enc:TypeId × Value->H) :
  ReturnsInHanded {} Try.checked os 12 .any (Rows.pagesGapSpec.pre6 enc Try.prog Try.f12 Rows.pagesGapRow.domain false) (Rows.pagesGapSpec.post enc Try.prog Try.f12 false true false false):=by
 refine returnsInHanded_of_change_sized (C:=Try.checked) own started (by kernel_rfl) Try.func12
  (ChangeSpec.witness6 (enc:=enc) (C:=Try.checked) false ⟨#[],nilArgs,[]⟩ 8 (by kernel_rfl) (by kernel_rfl) (by kernel_rfl) (by kernel_rfl)) ?_
 intro W base args ds gs before hval hW _ hsz _
 exact law_three argFrm argInt argInt rfl rfl rfl (fun _ _ _ _=>rfl) s12 t12 (fun _ _ _=>rfl) (fun _ _ _ h0 h1 h2=>h0) (fun _ _ _ _=>trivial) (fun _ _ _=>rfl) (fun _ _ _=>rfl) (fun _ _ _=>rfl) hval hW hsz
theorem proved:Rows.PagesGapSaid :=
 OpenClaim.holds_of_wide 12 Try.f12 rfl rfl rfl rfl rfl rfl rfl ⟨rfl,rfl,rfl,rfl,rfl⟩ rfl rfl rfl rfl rfl (by kernel_rfl) Try.func12 (by kernel_rfl)
  (of_decide_eq_true (by kernel_rfl)) (by unfold Func.isWrapper; first | (rw [if_pos (by decide +kernel)]; kernel_rfl) | (rw [if_neg (by decide +kernel)]; exact ⟨rfl,rfl⟩))
  (fun os started H enc _=>lifted os started H enc)
end Go.Proofs.Ytpnmalddfpjcoaa
