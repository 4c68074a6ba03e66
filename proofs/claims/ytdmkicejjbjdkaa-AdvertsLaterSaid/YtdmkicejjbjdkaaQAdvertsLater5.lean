/- AdvertsLater returns true for every input, and leaves what it was handed as it was. No condition. -/
import Derived.Test.YtdmkicejjbjdkaaQAdvertsLater4
import Derived.Deep.Slices
import Derived.ChangeShapes
import Derived.Carry
import Derived.OpenShut
import Derived.SizedLaws
import Derived.Test.YtdmkicejjbjdkaaRows
import Derived.ProofKit
import Derived.JoinedOf
set_option linter.all false
set_option linter.deprecated false
namespace Go.Ab
open Go Go.RowKit Go.Proofs Go.Sh Go.En
theorem open_ok8 (b:Book) (is:Bool):(!decide (openE b is=0)) = !(okBook b && is):=by unfold openE; cases okBook b <;> cases is <;> rfl
theorem open_zero {b:Book} {is:Bool} (h:(okBook b && is)=true):openE b is=0:=by unfold openE; revert h; cases okBook b <;> cases is <;> simp
theorem twiceTo_t {b:Book} {l:List Sday} {n:Nat} (h:twiceAt b l n=true):twiceTo b l (n + 1)=twiceTo b l n ++ [(n:Int)]:=by
 unfold twiceTo; rw [List.range_succ,List.filterMap_append]; simp [h]
theorem twiceTo_f {b:Book} {l:List Sday} {n:Nat} (h:twiceAt b l n=false):twiceTo b l (n + 1)=twiceTo b l n:=by
 unfold twiceTo; rw [List.range_succ,List.filterMap_append]; simp [h]
theorem twiceTo_len (b:Book) (l:List Sday) (n:Nat):(twiceTo b l n).length<=n:=by
 unfold twiceTo; exact Nat.le_trans (List.length_filterMap_le _ _) (by rw [List.length_range]; omega)
theorem twice_cond (b:Book) (l:List Sday) (x:Nat):(bif !hasG (stds b) (l.getD x default) then true else hasG (l.take x) (l.getD x default))=twiceAt b l x:=by
 unfold twiceAt
 show _=(!hasG (stds b) (l.getD x default) || hasG (l.take x) (l.getD x default))
 cases hasG (stds b) (l.getD x default) <;> rfl
abbrev q4a (b:Book) (l:List Sday) (P:Prop):Prop:=smallB b/\l.length<=60000->P
abbrev q4b (b:Book) (l:List Sday) (P:Prop):Prop:=q4a b l ((!decide (openE b (decide ((↑(l.length):Int)<=20))=0))=false->P)
abbrev q4c (l:List Sday) (x2:Nat) (P:Prop):Prop:=x2<=l.length->P
abbrev q4d (l:List Sday) (x2:Nat) (P:Prop):Prop:=q4c l x2 (decide ((x2:Int) < (↑(l.length):Int))=true->P)
abbrev q4e (b:Book) (l:List Sday) (x2:Nat) (P:Prop):Prop:=q4d l x2 ((!!hasG (stds b) (l.getD x2 default))=true->P)
abbrev q4f (b:Book) (l:List Sday) (x2:Nat) (P:Prop):Prop:=q4d l x2 ((bif !hasG (stds b) (l.getD x2 default) then true else hasG (List.take x2 l) (l.getD x2 default))=true->P)
abbrev q4g (b:Book) (l:List Sday) (x2:Nat) (P:Prop):Prop:=q4d l x2 ((bif !hasG (stds b) (l.getD x2 default) then true else hasG (List.take x2 l) (l.getD x2 default))=false->P)
theorem w26 (b:Book) (l:List Sday)
 (o0:q4a b l ((!decide (openE b (decide ((↑(l.length):Int)<=20))=0))=true->(twL b l).length=0))
 (o1:q4a b l ((!decide (openE b (decide ((↑(l.length):Int)<=20))=0))=true->openE b (decide ((↑(l.length):Int)<=20))=twE b l))
 (o2:q4b b l (0=(↑0:Int)))
 (o3:q4b b l ((twiceTo b l 0).length=0))
 (o4:q4b b l (0<=l.length))
 (o5:q4b b l (∀ (x2:Nat),q4d l x2 (0<=(x2:Int))))
 (o6:q4b b l (∀ (x2:Nat),q4d l x2 ((x2:Int) < (↑(l.length):Int))))
 (o7:q4b b l (∀ (x2:Nat),q4d l x2 ((okBook b && decide ((↑(l.length):Int)<=20))=true)))
 (o8:q4b b l (∀ (x2:Nat),q4d l x2 ((okBook b && decide ((↑(l.length):Int)<=20))=true)))
 (o9:q4b b l (∀ (x2:Nat),q4d l x2 ((stds b).length<=65536)))
 (o10:q4b b l (∀ (x2:Nat),q4e b l x2 (0<=(x2:Int))))
 (o11:q4b b l (∀ (x2:Nat),q4e b l x2 ((x2:Int)<=(↑(l.length):Int))))
 (o12:q4b b l (∀ (x2:Nat),q4e b l x2 (x2=(List.take x2 l).length)))
 (o13:q4b b l (∀ (x2:Nat),q4e b l x2 (∀ (i14:Nat),i14 < (List.take x2 l).length->cSday (l.getD i14 default)=cSday ((List.take x2 l).getD i14 default))))
 (o14:q4b b l (∀ (x2:Nat),q4e b l x2 ((List.take x2 l).length<=65536)))
 (o15:q4b b l (∀ (x2:Nat),q4d l x2 ((!hasG (stds b) (l.getD x2 default))=false->(!!hasG (stds b) (l.getD x2 default))=true)))
 (o16:q4b b l (∀ (x2:Nat),q4f b l x2 ((twiceTo b l x2).length + 1<=65536)))
 (o17:q4b b l (∀ (x2:Nat),q4f b l x2 (inI ((x2:Int) + 1))))
 (o18:q4b b l (∀ (x2:Nat),q4f b l x2 ((x2:Int) + 1=(↑(x2 + 1):Int))))
 (o19:q4b b l (∀ (x2:Nat),q4f b l x2 ((twiceTo b l x2).length + 1=(twiceTo b l (x2 + 1)).length)))
 (o20:q4b b l (∀ (x2:Nat),q4f b l x2 (∀ (i20:Nat),i20 < (twiceTo b l x2).length + 1->catF (twiceTo b l x2).length (fun (i:Nat)=>[iv ((twiceTo b l x2).getD i 0)]) (fun (j:Nat)=>List.getD [[iv (x2:Int)]] j (TI.za ti3)) i20 = [iv ((twiceTo b l (x2 + 1)).getD i20 0)])))
 (o21:q4b b l (∀ (x2:Nat),q4f b l x2 (x2 + 1<=l.length)))
 (o22:q4b b l (∀ (x2:Nat),q4f b l x2 (l.length - (x2 + 1) < l.length - x2)))
 (o23:q4b b l (∀ (x2:Nat),q4g b l x2 (inI ((x2:Int) + 1))))
 (o24:q4b b l (∀ (x2:Nat),q4g b l x2 ((x2:Int) + 1=(↑(x2 + 1):Int))))
 (o25:q4b b l (∀ (x2:Nat),q4g b l x2 ((twiceTo b l x2).length=(twiceTo b l (x2 + 1)).length)))
 (o26:q4b b l (∀ (x2:Nat),q4g b l x2 (∀ (i22:Nat),i22 < (twiceTo b l x2).length -> [iv ((twiceTo b l x2).getD i22 0)] = [iv ((twiceTo b l (x2 + 1)).getD i22 0)])))
 (o27:q4b b l (∀ (x2:Nat),q4g b l x2 (x2 + 1<=l.length)))
 (o28:q4b b l (∀ (x2:Nat),q4g b l x2 (l.length - (x2 + 1) < l.length - x2)))
 (o29:q4b b l (∀ (x2:Nat),q4c l x2 (decide ((x2:Int) < (↑(l.length):Int))=false->(twiceTo b l x2).length=(twL b l).length)))
 (o30:q4b b l (∀ (x2:Nat),q4c l x2 (decide ((x2:Int) < (↑(l.length):Int))=false -> ∀ (i24:Nat),i24 < (twL b l).length -> [iv ((twiceTo b l x2).getD i24 0)] = [iv ((twL b l).getD i24 0)])))
 (o31:q4b b l (∀ (x2:Nat),q4c l x2 (decide ((x2:Int) < (↑(l.length):Int))=false->0=twE b l))) :
  Triple Try.prog 26 (s26 b l):=by
 refine triple_of Try.func26 rfl Try.call26 T0_ok _ rfl rfl rfl rfl (Nat.le_of_ble_eq_true (by kernel_rfl)) (fun _ _ _ _ h=>h) ?_
 intro hpre C hC _ hE
 obtain ⟨P,w0,E0,av,hA,ro,df⟩:=C
 obtain ⟨rfl,rfl,rfl⟩:=hC
 refine swp_seq ?_
 refine zR [1,2] [0] (Ak 3 tv) ?_
 refine swp_seq ?_
 refine zC ([(4,CallSpec.eq (s58 b (decide ((↑(l.length):Int)<=20))) [true,true])]) [1,6,7] [] (Ak 4 (An (An (An (zr (AV.agg (cBk b))) (An (zr (bv (decide ((↑(l.length):Int)<=20)))) tv)) (An (t58 (b) (decide ((↑(l.length):Int)<=20))) (An hpre.1 (Ak 1 (fun (i0:Env)=>tv))))) (Ak 5 tv))) ?_
 refine swp_seq ?_
 refine swp_seq ?_
 refine zR [1,6,7,20] [] (Ak 2 tv) ?_
 refine zI (!decide (openE b (decide ((↑(l.length):Int)<=20))=0)) (fun y1 => ?_) (fun y1 => ?_)
 ·refine swp_seq ?_
  refine zR [4,5] [] (Ak 3 tv) ?_
  refine swp_ret ?_
  exact zT [] (An (Ak 2 tv) (An (An (o0 hpre y1) (An (An (ci (o1 hpre y1)) (zr nilN)) tv)) (An (zr true) (An (zr true) (zr true)))))
 ·refine swp_skip ?_
  refine swp_seq ?_
  refine zR [1,6,8] [] (Ak 1 tv) ?_
  refine swp_seq ?_
  refine swp_seq ?_
  refine zR [1,6,8,22,23,24] [] (Ak 3 tv) ?_
  refine swp_block ?_
  refine zL (Hint.ann (h26 b l) [(1,aDays l),(6,AV.opt (okBook b && decide ((↑(l.length):Int)<=20)) (cWk b)),(22,aDays l),(23,iv (↑(l.length):Int))] [] 10152) (zE hE [] [(5000,.nil)] [1,6,22,23] [] (An (An (An (zr (aDays l)) (zr true)) (An (An (zr (AV.opt (okBook b && decide ((↑(l.length):Int)<=20)) (cWk b))) (zr true)) (An (An (zr (aDays l)) (zr true)) (An (An (zr (iv (↑(l.length):Int))) (zr true)) (An (zr (some Src.nil)) (An (An (ci (o2 hpre y1)) (zr nilN)) tv)))))) (An (An (o3 hpre y1) tv) (An (zr true) (zr true))))) (o4 hpre y1) (fun (x2:Nat) hx2 => ?_)
  refine swp_seq ?_
  refine zR [1,6,22,23,8,24,25] [5000] (Ak 1 tv) ?_
  refine swp_seq ?_
  refine zI (decide ((x2:Int) < (↑(l.length):Int))) (fun y3 => ?_) (fun y3 => ?_)
  ·refine swp_skip ?_
   refine swp_seq ?_
   refine swp_block ?_
   refine swp_seq ?_
   refine zR [1,6,22,23,8,24,10,9] [5000,10184] (Ak 1 (An (An (o5 hpre y1 x2 hx2 y3) (o6 hpre y1 x2 hx2 y3)) (Ak 4 tv))) ?_
   refine swp_seq ?_
   refine zC ([(5,CallSpec.eq (c26a b l x2) [true,true]),(12,CallSpec.eq (c26b b l x2) [false,true])]) [1,6,22,23,8,24,9,42] [5000] (Ak 1 (An (o7 hpre y1 x2 hx2 y3) (An (o8 hpre y1 x2 hx2 y3) (Ak 2 (An (An (An (zr (aDays (stds b))) (An (zr (AV.agg (cSday (l.getD x2 default)))) tv)) (An (t64 (stds b) (l.getD x2 default)) (An (o9 hpre y1 x2 hx2 y3) (Ak 1 (fun (i4:Env)=>tv))))) (Ak 2 (An (fun (y5:(!!hasG (stds b) (l.getD x2 default))=true)=>(An (Ak 1 tv) tv)) (An (fun (y6:(!!hasG (stds b) (l.getD x2 default))=true)=>(An (Ak 1 tv) tv)) (An (fun (y7:(!!hasG (stds b) (l.getD x2 default))=true)=>(An (An (fun (y8:(!!hasG (stds b) (l.getD x2 default))=true)=>y7) (An (fun (y9:(!!hasG (stds b) (l.getD x2 default))=true)=>y7) tv)) (An (o10 hpre y1 x2 hx2 y3 y7) (o11 hpre y1 x2 hx2 y3 y7)))) (An (fun (y10:(!!hasG (stds b) (l.getD x2 default))=true)=>(An (Ak 1 tv) tv)) (An (fun (y11:(!!hasG (stds b) (l.getD x2 default))=true)=>(An (Ak 1 (An (fun (y12:(!!hasG (stds b) (l.getD x2 default))=true)=>y11) (An (fun (y13:(!!hasG (stds b) (l.getD x2 default))=true)=>y11) tv))) (An (An (An (zr 2) (An (o12 hpre y1 x2 hx2 y3 y11) (fun (i14:Nat)=>(fun (y15:i14 < (List.take x2 l).length)=>(o13 hpre y1 x2 hx2 y3 y11 i14 y15))))) (An (zr (AV.agg (cSday (l.getD x2 default)))) tv)) (An (t64 (List.take x2 l) (l.getD x2 default)) (An (o14 hpre y1 x2 hx2 y3 y11) (Ak 1 (fun (i16:Env)=>tv))))))) (An (An (fun (y17:(!hasG (stds b) (l.getD x2 default))=true)=>tv) (fun (y18:(!hasG (stds b) (l.getD x2 default))=false)=>(o15 hpre y1 x2 hx2 y3 y18))) tv)))))))))))) ?_
   refine zI (bif !hasG (stds b) (l.getD x2 default) then true else hasG (List.take x2 l) (l.getD x2 default)) (fun y19 => ?_) (fun y19 => ?_)
   ·refine zR [1,6,22,23,8,24] [10344] (Ak 3 (An (o16 hpre y1 x2 hx2 y3 y19) (Ak 1 tv))) ?_
    refine zR [1,6,22,23,8,24] [10344] (An (o17 hpre y1 x2 hx2 y3 y19) (Ak 1 tv)) ?_
    exact zn (zE hE [] [(5000,.same 10344)] [1,6,22,23] [] (An (An (An (zr (aDays l)) (zr true)) (An (An (zr (AV.opt (okBook b && decide ((↑(l.length):Int)<=20)) (cWk b))) (zr true)) (An (An (zr (aDays l)) (zr true)) (An (An (zr (iv (↑(l.length):Int))) (zr true)) (An (zr (some (Src.same 10344))) (An (An (ci (o18 hpre y1 x2 hx2 y3 y19)) (zr nilN)) tv)))))) (An (An (An (zr 3) (An (zr 1) (An (o19 hpre y1 x2 hx2 y3 y19) (fun (i20:Nat)=>(fun (y21:i20 < (twiceTo b l x2).length + 1)=>(o20 hpre y1 x2 hx2 y3 y19 i20 y21)))))) tv) (An (zr true) (zr true))))) (o21 hpre y1 x2 hx2 y3 y19) (o22 hpre y1 x2 hx2 y3 y19)
   ·refine swp_skip ?_
    refine zR [1,6,22,23,8,24] [5000] (An (o23 hpre y1 x2 hx2 y3 y19) (Ak 1 tv)) ?_
    exact zn (zE hE [] [(5000,.same 5000)] [1,6,22,23] [] (An (An (An (zr (aDays l)) (zr true)) (An (An (zr (AV.opt (okBook b && decide ((↑(l.length):Int)<=20)) (cWk b))) (zr true)) (An (An (zr (aDays l)) (zr true)) (An (An (zr (iv (↑(l.length):Int))) (zr true)) (An (zr (some (Src.same 5000))) (An (An (ci (o24 hpre y1 x2 hx2 y3 y19)) (zr nilN)) tv)))))) (An (An (An (zr 3) (An (zr 1) (An (o25 hpre y1 x2 hx2 y3 y19) (fun (i22:Nat)=>(fun (y23:i22 < (twiceTo b l x2).length)=>(o26 hpre y1 x2 hx2 y3 y19 i22 y23)))))) tv) (An (zr true) (zr true))))) (o27 hpre y1 x2 hx2 y3 y19) (o28 hpre y1 x2 hx2 y3 y19)
  ·refine swp_exit ?_
   refine swp_seq ?_
   refine zR [4,5] [5000] (Ak 3 tv) ?_
   refine swp_ret ?_
   exact zT [5000] (An (Ak 2 tv) (An (An (An (zr 1) (An (o29 hpre y1 x2 hx2 y3) (fun (i24:Nat)=>(fun (y25:i24 < (twL b l).length)=>(o30 hpre y1 x2 hx2 y3 i24 y25))))) (An (An (ci (o31 hpre y1 x2 hx2 y3)) (zr nilN)) tv)) (An (zr true) (An (zr true) (zr true)))))
theorem t26 (b:Book) (l:List Sday):Triple Try.prog 26 (s26 b l):=by
  apply w26
  all_goals (try delta q4a q4b q4c q4d q4e q4f q4g)
  all_goals (intro hp h; rw [open_ok8] at h)
  case o0=>simp only [Bool.not_eq_true'] at h; unfold twL; rw [h]; rfl
  case o1=>rfl
  all_goals (simp only [Bool.not_eq_false'] at h; have hh:=h; rw [Bool.and_eq_true] at hh; have hs:=ok_soundB hh.1; have hst:=stds_small hs)
  case o3=>rfl
  case o4=>omega
  all_goals (intro x hx hl; simp only [decide_eq_true_eq,decide_eq_false_iff_not] at hl)
  case o7 | o8=>all_goals exact h
  case o12=>intro _; rw [List.length_take]; omega
  case o13=>intro _ i hi; rw [take_getD _ _ (by rw [List.length_take] at hi; omega)]
  case o14=>intro _; rw [List.length_take]; omega
  case o15=>intro h0; rw [h0]; rfl
  case o29 => have : x = l.length := by omega
              unfold twL; rw [h,this]; rfl
  case o30 => have : x = l.length := by omega
              intro i _; unfold twL; rw [h,this]; rfl
  case o31=>exact (open_zero h).symm
  all_goals (try (first | omega | rfl))
  all_goals (try (intro hc; rw [twice_cond] at hc; have htl:=twiceTo_len b l x))
  case o16=>omega
  case o19=>rw [twiceTo_t hc,List.length_append]; rfl
  case o20=>intro i hi; rw [twiceTo_t hc]; exact catF_one _ _ 0 (fun z=>[iv z]) rfl (fun _ _=>rfl) rfl hi
  case o25=>rw [twiceTo_f hc]
  case o26=>intro i _; rw [twiceTo_f hc]
  all_goals (first | omega | (simp only [inI]; omega) | (intros; omega))
abbrev q4s (b:Book) (is:Bool) (P:Prop):Prop:=smallB b/\okBook b=true/\is=true->P
abbrev q4t (b:Book) (x1:Nat) (P:Prop):Prop:=x1<=b.shown.length->P
abbrev q4u (b:Book) (x1:Nat) (P:Prop):Prop:=q4t b x1 (decide ((x1:Int) < (↑(b.shown.length):Int))=true->P)
abbrev q4v (b:Book) (x1:Nat) (P:Prop):Prop:=q4t b x1 (decide ((x1:Int) < (↑(b.shown.length):Int))=false->P)
theorem wio58p (b:Book) (is:Bool)
 (o0:q4s b is ((!decide (checkB b=0))=false))
 (o1:q4s b is ((!is)=false))
 (o2:q4s b is (0=(↑0:Int)))
 (o3:q4s b is ((List.take 0 (rawD b)).length=0))
 (o4:q4s b is (0<=b.shown.length))
 (o5:q4s b is (∀ (x1:Nat),q4u b x1 (0<=(x1:Int))))
 (o6:q4s b is (∀ (x1:Nat),q4u b x1 ((x1:Int) < (↑(b.shown.length):Int))))
 (o7:q4s b is (∀ (x1:Nat),q4u b x1 ((List.take x1 (rawD b)).length + 1<=65536)))
 (o8:q4s b is (∀ (x1:Nat),q4u b x1 (inI ((x1:Int) + 1))))
 (o9:q4s b is (∀ (x1:Nat),q4u b x1 ((x1:Int) + 1=(↑(x1 + 1):Int))))
 (o10:q4s b is (∀ (x1:Nat),q4u b x1 ((List.take x1 (rawD b)).length + 1=(List.take (x1 + 1) (rawD b)).length)))
 (o11:q4s b is (∀ (x1:Nat),q4u b x1 (∀ (i15:Nat),i15 < (List.take x1 (rawD b)).length + 1->catF (List.take x1 (rawD b)).length (fun (i:Nat)=>cSday ((List.take x1 (rawD b)).getD i default)) (fun (j:Nat)=>List.getD [[iv (shB b x1).ad,iv (shB b x1).day]] j (TI.za ti61)) i15=cSday ((List.take (x1 + 1) (rawD b)).getD i15 default))))
 (o12:q4s b is (∀ (x1:Nat),q4u b x1 (x1 + 1<=b.shown.length)))
 (o13:q4s b is (∀ (x1:Nat),q4u b x1 (b.shown.length - (x1 + 1) < b.shown.length - x1)))
 (o14:q4s b is (∀ (x1:Nat),q4v b x1 ((rawD b).length<=12)))
 (o15:q4s b is (∀ (x1:Nat),q4v b x1 (okDs (rawD b))))
 (o16:q4s b is (∀ (x1:Nat),q4v b x1 (some (OB.vec 61 2 (List.take x1 (rawD b)).length fun (i:Nat)=>cSday ((List.take x1 (rawD b)).getD i default))=some (OB.vec 61 2 (rawD b).length fun (i:Nat)=>cSday ((rawD b).getD i default)))))
 (o17:q4s b is (∀ (x1:Nat),q4v b x1 ((sortD (rawD b)).length<=65536)))
 (o18:q4s b is (∀ (x1:Nat),q4v b x1 ((cpL default (sortD (rawD b))).length=(stds b).length)))
 (o19:q4s b is (∀ (x1:Nat),q4v b x1 (∀ (i25:Nat),i25 < (stds b).length->cSday ((cpL default (sortD (rawD b))).getD i25 default)=cSday ((stds b).getD i25 default))))
 (o20:q4s b is (∀ (x1:Nat),q4v b x1 (some (OB.cells 89 (cWk b))=some (OB.cells 89 [AV.sl 2 b.lines.length fun (i:Nat)=>cSpan (lnB b i),AV.sl 3 b.shown.length fun (i:Nat)=>cShn (shB b i),iv b.rate,iv b.rep,AV.sl 4 b.ctrs.length fun (i:Nat)=>cCtr (ctB b i),aDays (stds b)]))))
  (l:List (Nat × Nat)) (hl:l.map (·.1) = [2]) (hnd:(l.map (·.2)).Nodup) :
  Triple Try.prog 58 (IoSpec.at (io58p b is) l):=by
 refine triple_io Try.func58 rfl Try.call58 T0_ok (io58p b is) 2 l (by rw [hl]; kernel_rfl) hnd (Nat.le_of_ble_eq_true (by kernel_rfl)) (fun _ _ _ _ h=>h) ?_
 intro hpre C hC _ hE
 obtain ⟨P,w0,E0,av,hA,ro,df⟩:=C
 obtain ⟨rfl,rfl,rfl⟩:=hC
 refine swp_seq ?_
 refine zR [1,2] [2] (Ak 3 tv) ?_
 refine swp_seq ?_
 refine swp_seq ?_
 refine zC ([(1,CallSpec.eq (s17 b) [true])]) [1,2,6] [2] (Ak 1 (An (An (An (zr (AV.agg (cBk b))) tv) (An (t17 (b)) (An hpre.1 (Ak 1 (fun (i0:Env)=>tv))))) (Ak 1 tv))) ?_
 refine swp_seq ?_
 refine zR [1,2,6,13] [2] (Ak 2 tv) ?_
 refine zI (!decide (checkB b=0)) (fun h=>by cases (h.symm.trans (o0 hpre))) (fun _ => ?_)
 refine swp_skip ?_
 refine swp_seq ?_
 refine swp_seq ?_
 refine zR [2,16] [2] (Ak 2 tv) ?_
 refine zI (!is) (fun h=>by cases (h.symm.trans (o1 hpre))) (fun _ => ?_)
 refine swp_skip ?_
 refine swp_seq ?_
 refine zR [2,7] [2,98] (Ak 4 tv) ?_
 refine swp_seq ?_
 refine swp_seq ?_
 refine zR [7,21,22,23] [98] (Ak 4 tv) ?_
 refine swp_block ?_
 refine zL (Hint.ann (h58d b is) [(7,AV.ptr 98 []),(21,AV.sl 3 b.shown.length fun (i:Nat)=>cShn (shB b i)),(22,iv (↑(b.shown.length):Int))] [] 10146) (zEn 2 hE [] [(98,.same 98),(5000,.nil)] [21,22] [] (An (An (An (zr (some (Src.same 98))) (zr nilP)) (An (An (zr (AV.sl 3 b.shown.length fun (i:Nat)=>cShn (shB b i))) (zr true)) (An (An (zr (iv (↑(b.shown.length):Int))) (zr true)) (An (An (ci (o2 hpre)) (zr nilN)) tv)))) (An (An (An (zr 89) (An (An (An (zr 2) (An (zr b.lines.length) (fun (i2:Nat)=>(fun (y3:i2 < b.lines.length)=>(zr (cSpan (lnB b i2))))))) (An (An (zr 3) (An (zr b.shown.length) (fun (i4:Nat)=>(fun (y5:i4 < b.shown.length)=>(zr (cShn (shB b i4))))))) (An (An (zr (iv b.rate)) (zr nilN)) (An (An (zr (iv b.rep)) (zr nilN)) (An (An (zr 4) (An (zr b.ctrs.length) (fun (i6:Nat)=>(fun (y7:i6 < b.ctrs.length)=>(zr (cCtr (ctB b i6))))))) (An (zr (some Src.nil)) tv)))))) (zr true))) (An (o3 hpre) tv)) (An (zr true) (zr true))))) (o4 hpre) (fun (x1:Nat) hx1 => ?_)
 refine swp_seq ?_
 refine zR [7,21,22,23,24] [98,5000] (Ak 1 tv) ?_
 refine swp_seq ?_
 refine zI (decide ((x1:Int) < (↑(b.shown.length):Int))) (fun y8 => ?_) (fun y8 => ?_)
 ·refine swp_skip ?_
  refine swp_seq ?_
  refine swp_block ?_
  refine swp_seq ?_
  refine zR [7,21,22,23,9] [98,10170,5000] (An (An (o5 hpre x1 hx1 y8) (o6 hpre x1 hx1 y8)) (Ak 3 tv)) ?_
  refine zR [7,21,22,23] [98,10274] (Ak 11 (An (o7 hpre x1 hx1 y8) (Ak 3 tv))) ?_
  refine zR [7,21,22,23] [98,10274] (An (o8 hpre x1 hx1 y8) (Ak 1 tv)) ?_
  exact zn (zEn 2 hE [] [(98,.same 98),(5000,.same 10274)] [21,22] [] (An (An (An (zr (some (Src.same 98))) (zr nilP)) (An (An (zr (AV.sl 3 b.shown.length fun (i:Nat)=>cShn (shB b i))) (zr true)) (An (An (zr (iv (↑(b.shown.length):Int))) (zr true)) (An (An (ci (o9 hpre x1 hx1 y8)) (zr nilN)) tv)))) (An (An (An (zr 89) (An (An (An (zr 2) (An (zr b.lines.length) (fun (i9:Nat)=>(fun (y10:i9 < b.lines.length)=>(zr (cSpan (lnB b i9))))))) (An (An (zr 3) (An (zr b.shown.length) (fun (i11:Nat)=>(fun (y12:i11 < b.shown.length)=>(zr (cShn (shB b i11))))))) (An (An (zr (iv b.rate)) (zr nilN)) (An (An (zr (iv b.rep)) (zr nilN)) (An (An (zr 4) (An (zr b.ctrs.length) (fun (i13:Nat)=>(fun (y14:i13 < b.ctrs.length)=>(zr (cCtr (ctB b i13))))))) (An (zr (some (Src.same 10274))) tv)))))) (zr true))) (An (An (zr 61) (An (zr 2) (An (o10 hpre x1 hx1 y8) (fun (i15:Nat)=>(fun (y16:i15 < (List.take x1 (rawD b)).length + 1)=>(o11 hpre x1 hx1 y8 i15 y16)))))) tv)) (An (zr true) (zr true))))) (o12 hpre x1 hx1 y8) (o13 hpre x1 hx1 y8)
 ·refine swp_exit ?_
  refine swp_seq ?_
  refine zC ([(4,CallSpec.eq (c58a b is) [true,true])]) [7] [98,5000] (Ak 4 (An (An (An (zr (AV.vec 5000)) (An (zr (AV.clo 86 [])) tv)) (An (t85 (5000) (rawD b)) (An (An (o14 hpre x1 hx1 y8) (o15 hpre x1 hx1 y8)) (An (An (o16 hpre x1 hx1 y8) tv) (fun (i17:Env)=>tv))))) tv)) ?_
  refine swp_seq ?_
  refine zC ([(5,CallSpec.eq (c58b b is) [true])]) [7] [98] (Ak 5 (An (An (An (zr (AV.vec 5000)) tv) (An (t88 (5000) (sortD (rawD b))) (An (o17 hpre x1 hx1 y8) (An (An (zr (some (OB.vec 61 2 (sortD (rawD b)).length fun (i:Nat)=>cSday ((sortD (rawD b)).getD i default)))) tv) (fun (i18:Env)=>tv))))) (Ak 3 tv))) ?_
  refine swp_seq ?_
  refine zR [4,5] [98] (Ak 3 tv) ?_
  refine swp_ret ?_
  exact zO (ASt.mk [(4,AV.ptr 2 []),(5,iv 0)] [(2,OB.cells 89 (cWk b))] 100) (zEn 2 hE [] [(2,.same 98)] [5] [] (An (An (An (zr (some (Src.same 98))) (zr nilP)) (An (An (zr (iv 0)) (zr true)) tv)) (An (An (An (zr 89) (An (An (An (zr 2) (An (zr b.lines.length) (fun (i19:Nat)=>(fun (y20:i19 < b.lines.length)=>(zr (cSpan (lnB b i19))))))) (An (An (zr 3) (An (zr b.shown.length) (fun (i21:Nat)=>(fun (y22:i21 < b.shown.length)=>(zr (cShn (shB b i21))))))) (An (An (zr (iv b.rate)) (zr nilN)) (An (An (zr (iv b.rep)) (zr nilN)) (An (An (zr 4) (An (zr b.ctrs.length) (fun (i23:Nat)=>(fun (y24:i23 < b.ctrs.length)=>(zr (cCtr (ctB b i23))))))) (An (An (zr 2) (An (o18 hpre x1 hx1 y8) (fun (i25:Nat)=>(fun (y26:i25 < (stds b).length)=>(o19 hpre x1 hx1 y8 i25 y26))))) tv)))))) (zr true))) tv) (An (zr true) (zr true))))) (An (Ak 2 tv) (An (zr (AV.tup [AV.ptr 2 [],iv 0])) (An (o20 hpre x1 hx1 y8) tv)))
theorem t58po (b:Book) (is:Bool) (id:Nat):Triple Try.prog 58 (s58po b is id):=by
 apply wio58p b is (l:=[(2,id)]) (hl:=rfl) (hnd:=by simp)
 all_goals (try delta q4s q4t q4u q4v)
 all_goals (rintro ⟨hp,h,h2⟩)
 case o0=>rw [chk_b,h]; rfl
 case o1=>rw [h2]; rfl
 all_goals (have hs:=ok_soundB h; have hsh:=hs.shown)
 case o3=>rfl
 case o4=>omega
 all_goals (try (intro x hx hl; simp only [decide_eq_true_eq,decide_eq_false_iff_not] at hl))
 case o7=>rw [List.length_take]; omega
 case o10=>rw [List.length_take,List.length_take,raw_len]; omega
 case o11 =>
  intro i hi
  rw [take_succ _ default (by rw [raw_len]; omega)]
  exact snoc_cat default cSday _ _ (by rw [raw_get (by omega)]; rfl) i hi
 case o14=>rw [raw_len]; omega
 case o15=>exact raw_ok hs
 case o16=>rw [List.take_of_length_le (by rw [raw_len]; omega)]
 case o17=>rw [sortD_len,raw_len]; omega
 case o18=>rw [cp_stds hs]
 case o19=>intro i hi; rw [cp_stds hs]
 all_goals (first | omega | rfl | (simp only [inI]; omega))
abbrev q50 (b:Book) (ls:List Int) (is:Bool) (P:Prop):Prop:=smallB b/\ls.length<=60000/\okBook b=true/\is=true/\areLnB b ls=true->P
theorem wio60p (b:Book) (ls:List Int) (is:Bool)
 (o0:q50 b ls is ((bif is then decide ((↑(ls.length):Int)=(↑(b.lines.length):Int)) else false)=true->ls.length<=65536))
 (o1:q50 b ls is ((bif bif is then decide ((↑(ls.length):Int)=(↑(b.lines.length):Int)) else false then !anyW ls else false)=true))
 (o2:q50 b ls is (okBook b=true))
 (o3:q50 b ls is (some (OB.cells 89 (cWk b))=some (OB.cells 89 [AV.sl 2 b.lines.length fun (i:Nat)=>cSpan (lnB b i),AV.sl 3 b.shown.length fun (i:Nat)=>cShn (shB b i),iv b.rate,iv b.rep,AV.sl 4 b.ctrs.length fun (i:Nat)=>cCtr (ctB b i),aDays (stds b)])))
  (l:List (Nat × Nat)) (hl:l.map (·.1) = [2]) (hnd:(l.map (·.2)).Nodup) :
  Triple Try.prog 60 (IoSpec.at (io60p b ls is) l):=by
 refine triple_io Try.func60 rfl Try.call60 T0_ok (io60p b ls is) 2 l (by rw [hl]; kernel_rfl) hnd (Nat.le_of_ble_eq_true (by kernel_rfl)) (fun _ _ _ _ h=>h) ?_
 intro hpre C hC _ hE
 obtain ⟨P,w0,E0,av,hA,ro,df⟩:=C
 obtain ⟨rfl,rfl,rfl⟩:=hC
 refine swp_seq ?_
 refine zR [1,2,3] [2] (Ak 3 tv) ?_
 refine swp_seq ?_
 refine zC ([(11,CallSpec.eq (s89 ls) [false,true])]) [2,3] [2] (Ak 2 (An (fun (y0:is=true)=>(An (Ak 1 tv) tv)) (An (fun (y1:is=true)=>(An (An (fun (y2:is=true)=>y1) tv) tv)) (An (fun (y3:is=true)=>(An (Ak 1 tv) tv)) (An (fun (y4:is=true)=>(An (An (fun (y5:is=true)=>y4) tv) tv)) (An (fun (y6:is=true)=>(An (An (fun (y7:is=true)=>y6) tv) tv)) (An (fun (y8:is=true)=>(An (An (fun (y9:is=true)=>y8) (An (fun (y10:is=true)=>y8) tv)) tv)) (An (An (fun (y11:is=true)=>y11) (fun (y12:is=false)=>tv)) (Ak 1 (An (fun (y13:(bif is then decide ((↑(ls.length):Int)=(↑(b.lines.length):Int)) else false)=true)=>(An (Ak 1 tv) tv)) (An (fun (y14:(bif is then decide ((↑(ls.length):Int)=(↑(b.lines.length):Int)) else false)=true)=>(An (Ak 1 (An (fun (y15:(bif is then decide ((↑(ls.length):Int)=(↑(b.lines.length):Int)) else false)=true)=>y14) (Ak 1 tv))) (An (An (An (zr 1) (An (zr ls.length) (fun (i16:Nat)=>(fun (y17:i16 < ls.length)=>(zr ([iv (ls.getD i16 0)])))))) (An (zr (AV.clo 90 [])) tv)) (An (t89 (ls)) (An (o0 hpre y14) (Ak 1 (fun (i18:Env)=>tv))))))) (An (fun (y19:(bif is then decide ((↑(ls.length):Int)=(↑(b.lines.length):Int)) else false)=true)=>(An (An (fun (y20:(bif is then decide ((↑(ls.length):Int)=(↑(b.lines.length):Int)) else false)=true)=>y19) tv) tv)) (An (An (fun (y21:(bif is then decide ((↑(ls.length):Int)=(↑(b.lines.length):Int)) else false)=true)=>y21) (fun (y22:(bif is then decide ((↑(ls.length):Int)=(↑(b.lines.length):Int)) else false)=false)=>tv)) (Ak 1 tv)))))))))))))) ?_
 refine swp_seq ?_
 refine zC ([(2,CallSpec.eq (c60p b ls is 162) [true,false])]) [6,7] [162] (Ak 2 (An (An (An (zr (AV.agg (cBk b))) (An (cb (o1 hpre)) tv)) (An (t58po (b) (true) (162)) (An (An hpre.1 (An (o2 hpre) (zr true))) (Ak 1 (fun (i23:Env)=>tv))))) (Ak 4 tv))) ?_
 refine swp_ret ?_
 exact zO (ASt.mk [(6,AV.ptr 2 []),(7,iv 0)] [(2,OB.cells 89 (cWk b))] 100) (zEn 2 hE [] [(2,.same 162)] [7] [] (An (An (An (zr (some (Src.same 162))) (zr nilP)) (An (An (zr (iv 0)) (zr true)) tv)) (An (An (An (zr 89) (An (An (An (zr 2) (An (zr b.lines.length) (fun (i24:Nat)=>(fun (y25:i24 < b.lines.length)=>(zr (cSpan (lnB b i24))))))) (An (An (zr 3) (An (zr b.shown.length) (fun (i26:Nat)=>(fun (y27:i26 < b.shown.length)=>(zr (cShn (shB b i26))))))) (An (An (zr (iv b.rate)) (zr nilN)) (An (An (zr (iv b.rep)) (zr nilN)) (An (An (zr 4) (An (zr b.ctrs.length) (fun (i28:Nat)=>(fun (y29:i28 < b.ctrs.length)=>(zr (cCtr (ctB b i28))))))) (An (An (zr 2) (An (zr (stds b).length) (fun (i30:Nat)=>(fun (y31:i30 < (stds b).length)=>(zr (cSday ((stds b).getD i30 default))))))) tv)))))) (zr true))) tv) (An (zr true) (zr true))))) (An (Ak 2 tv) (An (zr (AV.tup [AV.ptr 2 [],iv 0])) (An (o3 hpre) tv)))
theorem t60po (b:Book) (ls:List Int) (is:Bool) (id:Nat):Triple Try.prog 60 (s60po b ls is id):=by
 apply wio60p b ls is (l:=[(2,id)]) (hl:=rfl) (hnd:=by simp)
 all_goals (try delta q50)
 all_goals (rintro ⟨hp,h1,h2,h3,h4⟩)
 case o1=>rw [any_are,h3,h4]; rfl
 all_goals (first | exact h2 | rfl | omega | exact hp)
theorem wo75 (cs:List Ctr)
  (o0:0 < cs.length/\cs.length<=60000->0 + cs.length<=65536)
  (o1:0 < cs.length/\cs.length<=60000->0 + cs.length=cs.length)
  (l:List (Nat × Nat)) (hl:l.map (·.1)=(OutSpec.hout (ou75 cs)).map (·.1)) (hnd:(l.map (·.2)).Nodup) :
  Triple Try.prog 75 (OutSpec.at (ou75 cs) l):=by
 refine triple_out Try.func75 rfl Try.call75 T0_ok _ _ _ _ l rfl (Nat.le_of_ble_eq_true (by kernel_rfl)) hl hnd (by kernel_rfl) (by kernel_rfl) (by kernel_rfl) ?_
 intro hpre C hC hE
 obtain ⟨P,w0,E0,av,hA,ro,df⟩:=C
 obtain ⟨rfl,rfl,rfl⟩:=hC
 refine swp_seq ?_
 refine zR [0] [] (Ak 1 tv) ?_
 refine swp_seq ?_
 refine swp_seq ?_
 refine zR [0,4] [] (Ak 1 (An hpre.1 tv)) ?_
 refine zf ?_
 refine swp_skip ?_
 refine swp_seq ?_
 refine zR [2] [40] (Ak 2 (An (o0 hpre) (Ak 1 tv))) ?_
 refine swp_ret ?_
 exact zO (ASt.mk [(2,AV.vec 0)] [(0,OB.vec 53 4 cs.length fun (i:Nat)=>cCtr (cs.getD i default))] 100) (zE hE [] [(0,.same 40)] [] [] (An (An (zr (some (Src.same 40))) tv) (An (An (An (zr 53) (An (zr 4) (An (o1 hpre) (fun (i0:Nat)=>(fun (y1:i0 < 0 + cs.length)=>(zr (cCtr (cs.getD i0 default)))))))) tv) (An (zr true) (zr true))))) (An (Ak 1 tv) (An (zr (AV.vec 0)) (An (zr (some (OB.vec 53 4 cs.length fun (i:Nat)=>cCtr (cs.getD i default)))) tv)))
theorem t75o (cs:List Ctr) (id:Nat):Triple Try.prog 75 (s75o cs id):=by
 apply wo75 cs (l:=[(0,id)]) (hl:=rfl) (hnd:=by simp)
 all_goals (first | ((repeat intro _) <;> (try simp only [Bool.cond_true_left,Bool.cond_false_right,Bool.not_not,Bool.not_eq_true',Bool.not_eq_false',Bool.or_eq_true,Bool.or_eq_false_iff,Bool.and_eq_true,decide_eq_true_eq,decide_eq_false_iff_not,inI,big] at *) <;> first | (exact rfl) | omega | (exact ⟨Nat.zero_le _,fun j hj=>absurd hj (Nat.not_lt_zero j)⟩) | (simp_all; done) | (simp_all; omega)) | skip)
theorem wo79 (cs:List Span)
  (o0:0 < cs.length/\cs.length<=60000->0 + cs.length<=65536)
  (o1:0 < cs.length/\cs.length<=60000->0 + cs.length=cs.length)
  (l:List (Nat × Nat)) (hl:l.map (·.1)=(OutSpec.hout (ou79 cs)).map (·.1)) (hnd:(l.map (·.2)).Nodup) :
  Triple Try.prog 79 (OutSpec.at (ou79 cs) l):=by
 refine triple_out Try.func79 rfl Try.call79 T0_ok _ _ _ _ l rfl (Nat.le_of_ble_eq_true (by kernel_rfl)) hl hnd (by kernel_rfl) (by kernel_rfl) (by kernel_rfl) ?_
 intro hpre C hC hE
 obtain ⟨P,w0,E0,av,hA,ro,df⟩:=C
 obtain ⟨rfl,rfl,rfl⟩:=hC
 refine swp_seq ?_
 refine zR [0] [] (Ak 1 tv) ?_
 refine swp_seq ?_
 refine swp_seq ?_
 refine zR [0,4] [] (Ak 1 (An hpre.1 tv)) ?_
 refine zf ?_
 refine swp_skip ?_
 refine swp_seq ?_
 refine zR [2] [40] (Ak 2 (An (o0 hpre) (Ak 1 tv))) ?_
 refine swp_ret ?_
 exact zO (ASt.mk [(2,AV.vec 0)] [(0,OB.vec 63 2 cs.length fun (i:Nat)=>cSpan (cs.getD i default))] 100) (zE hE [] [(0,.same 40)] [] [] (An (An (zr (some (Src.same 40))) tv) (An (An (An (zr 63) (An (zr 2) (An (o1 hpre) (fun (i0:Nat)=>(fun (y1:i0 < 0 + cs.length)=>(zr (cSpan (cs.getD i0 default)))))))) tv) (An (zr true) (zr true))))) (An (Ak 1 tv) (An (zr (AV.vec 0)) (An (zr (some (OB.vec 63 2 cs.length fun (i:Nat)=>cSpan (cs.getD i default)))) tv)))
theorem t79o (cs:List Span) (id:Nat):Triple Try.prog 79 (s79o cs id):=by
 apply wo79 cs (l:=[(0,id)]) (hl:=rfl) (hnd:=by simp)
 all_goals (first | ((repeat intro _) <;> (try simp only [Bool.cond_true_left,Bool.cond_false_right,Bool.not_not,Bool.not_eq_true',Bool.not_eq_false',Bool.or_eq_true,Bool.or_eq_false_iff,Bool.and_eq_true,decide_eq_true_eq,decide_eq_false_iff_not,inI,big] at *) <;> first | (exact rfl) | omega | (exact ⟨Nat.zero_le _,fun j hj=>absurd hj (Nat.not_lt_zero j)⟩) | (simp_all; done) | (simp_all; omega)) | skip)
abbrev q51 (cs:List Ctr) (c:Nat) (P:Prop):Prop:=c + 1 < cs.length/\cs.length<=64->P
theorem wio74a (cs:List Ctr) (c:Nat)
 (o0:q51 cs c (0<=(c:Int)))
 (o1:q51 cs c ((c:Int)<=(c:Int) + 1))
 (o2:q51 cs c ((c:Int) + 1<=(↑(cs.length):Int)))
 (o3:q51 cs c ((↑(cs.length):Int)<=(↑(cs.length):Int)))
 (o4:q51 cs c (0 < cs.length))
 (o5:q51 cs c (decide ((c:Int)=(c:Int) + 1)=false))
 (o6:q51 cs c (0<=(c:Int)))
 (o7:q51 cs c ((c:Int)<=(↑(cs.length):Int)))
 (o8:q51 cs c (0 < cs.length))
 (o9:q51 cs c (0<=(c:Int) + 1))
 (o10:q51 cs c ((c:Int) + 1 < (↑(cs.length):Int)))
 (o11:q51 cs c (c + (cs.length - ((c:Int) + 1).toNat)<=cs.length))
 (o12:q51 cs c (cs.length<=cs.length))
 (o13:q51 cs c (((c:Int) + 1).toNat + (cs.length - ((c:Int) + 1).toNat)<=cs.length))
 (o14:q51 cs c (0<=(↑(c + (cs.length - ((c:Int) + 1).toNat)):Int)))
 (o15:q51 cs c ((↑(c + (cs.length - ((c:Int) + 1).toNat)):Int)<=(↑(cs.length):Int)))
 (o16:q51 cs c ((↑(cs.length):Int)<=(↑(cs.length):Int)))
 (o17:q51 cs c ((↑(c + (cs.length - ((c:Int) + 1).toNat)):Int) < (↑(cs.length):Int)))
 (o18:q51 cs c (c + (cs.length - ((c:Int) + 1).toNat) + (cs.length - (c + (cs.length - ((c:Int) + 1).toNat)))=cs.length))
 (o19:q51 cs c (0 < cs.length - (c + (cs.length - ((c:Int) + 1).toNat))))
 (o20:q51 cs c (c + (cs.length - ((c:Int) + 1).toNat)<=cs.length))
 (o21:q51 cs c (0 < cs.length))
 (o22:q51 cs c (c + (cs.length - ((c:Int) + 1).toNat)=(cutC cs c).length))
 (o23:q51 cs c (∀ (i0:Nat),i0 < c + (cs.length - ((c:Int) + 1).toNat)->Decidable.rec (fun (h:¬i0 < c + (cs.length - ((c:Int) + 1).toNat))=>[iv 0,iv 0,iv 0,iv 0]) (fun (h:i0 < c + (cs.length - ((c:Int) + 1).toNat))=>Decidable.rec (fun (h:¬i0 < c)=>if i0 < c + (cs.length - ((c:Int) + 1).toNat) then cCtr (cs.getD (((c:Int) + 1).toNat + (i0 - c)) default) else cCtr (cs.getD i0 default)) (fun (h:i0 < c)=>cCtr (cs.getD i0 default)) (Nat.decLt i0 c)) (Nat.decLt i0 (c + (cs.length - ((c:Int) + 1).toNat)))=cCtr ((cutC cs c).getD i0 default)))
  (l:List (Nat × Nat)) (hl:l.map (·.1) = [0,3]) (hnd:(l.map (·.2)).Nodup) :
  Triple Try.prog 74 (IoSpec.at (io74a cs c) l):=by
 refine triple_io Try.func74 rfl Try.call74 T0_ok (io74a cs c) 2 l (by rw [hl]; kernel_rfl) hnd (Nat.le_of_ble_eq_true (by kernel_rfl)) (fun _ _ _ _ h=>h) ?_
 intro hpre C hC _ hE
 obtain ⟨P,w0,E0,av,hA,ro,df⟩:=C
 obtain ⟨rfl,rfl,rfl⟩:=hC
 refine swp_seq ?_
 refine zR [0,1,2] [0] (Ak 1 tv) ?_
 refine swp_seq ?_
 refine zR [0,1,2] [0] (Ak 5 (An (An (o0 hpre) (An (o1 hpre) (An (o2 hpre) (An (o3 hpre) (o4 hpre))))) tv)) ?_
 refine swp_seq ?_
 refine swp_seq ?_
 refine zR [0,1,2,16] [0] (Ak 3 tv) ?_
 refine zI (decide ((c:Int)=(c:Int) + 1)) (fun h=>by cases (h.symm.trans (o5 hpre))) (fun _ => ?_)
 refine swp_skip ?_
 refine swp_seq ?_
 refine zR [0,1,2,7] [0] (Ak 3 tv) ?_
 refine swp_seq ?_
 refine zR [0,7] [0] (Ak 2 (An (An (o6 hpre) (An (o7 hpre) (o8 hpre))) (Ak 2 (An (An (o9 hpre) (o10 hpre)) (An (An (o11 hpre) (An (o12 hpre) (o13 hpre))) (Ak 1 tv)))))) ?_
 refine swp_seq ?_
 refine zR [0] [0] (Ak 4 (An (An (o14 hpre) (An (o15 hpre) (An (o16 hpre) (o17 hpre)))) (An (An (o18 hpre) (o19 hpre)) tv))) ?_
 refine swp_seq ?_
 refine zC ([(0,focM)]) [6] [218] (An (An (o20 hpre) (o21 hpre)) (Ak 1 tv)) ?_
 refine swp_ret ?_
 exact zO (ASt.mk [(6,AV.vec 3)] [(3,OB.vec 53 4 (cutC cs c).length fun (i:Nat)=>cCtr ((cutC cs c).getD i default))] 100) (zEn 2 hE [] [(3,.same 218)] [] [] (An (An (zr (some (Src.same 218))) tv) (An (An (An (zr 53) (An (zr 4) (An (o22 hpre) (fun (i0:Nat)=>(fun (y1:i0 < c + (cs.length - ((c:Int) + 1).toNat))=>(o23 hpre i0 y1)))))) tv) (An (zr true) (zr true))))) (An (Ak 1 tv) (An (zr (AV.vec 3)) (An (zr (some (OB.vec 53 4 (cutC cs c).length fun (i:Nat)=>cCtr ((cutC cs c).getD i default)))) tv)))
theorem cut_len {cs:List Ctr} {c:Nat} (h:c < cs.length):(cutC cs c).length + 1=cs.length:=by
 unfold cutC; rw [List.length_append,List.length_take,List.length_drop]; omega
theorem cut_get {cs:List Ctr} {c i:Nat} (h:c < cs.length):(cutC cs c).getD i default=if i < c then cs.getD i default else cs.getD (c + 1 + (i - c)) default:=by
 unfold cutC
 rw [getD_append,List.length_take,Nat.min_eq_left (by omega)]
 by_cases hi:i < c
 ·rw [if_pos hi,if_pos hi,take_getD _ _ hi]
 ·rw [if_neg hi,if_neg hi,List.getD_eq_getElem?_getD,List.getElem?_drop,← List.getD_eq_getElem?_getD]
theorem t74a (b:Nat) (cs:List Ctr) (c:Nat) (id:Nat) (hid:[b,id].Nodup:=by decide):Triple Try.prog 74 ((io74a cs c).at [(0,b),(3,id)]):=by
 apply wio74a cs c (l:=[(0,b),(3,id)]) (hl:=rfl) (hnd:=hid)
 all_goals (try delta q51)
 all_goals (rintro ⟨h1,h2⟩; have hcl:=cut_len (cs:=cs) (c:=c) (by omega))
 case o5=>exact decide_eq_false (by omega)
 case o22=>omega
 case o23 =>
  intro i hi
  rw [cut_get (by omega)]
  refine rec_lt8 (fun h=>by omega) (fun h => ?_)
  refine rec_lt8 (fun h3 => ?_) (fun h3 => ?_)
  ·rw [if_pos h,if_neg h3]; rfl
  ·rw [if_pos h3]
 all_goals omega
abbrev q52 (cs:List Ctr) (c:Nat) (P:Prop):Prop:=c + 1=cs.length/\cs.length<=64->P
theorem wio74b (cs:List Ctr) (c:Nat)
 (o0:q52 cs c (0<=(c:Int)))
 (o1:q52 cs c ((c:Int)<=(c:Int) + 1))
 (o2:q52 cs c ((c:Int) + 1<=(↑(cs.length):Int)))
 (o3:q52 cs c ((↑(cs.length):Int)<=(↑(cs.length):Int)))
 (o4:q52 cs c (0 < cs.length))
 (o5:q52 cs c (decide ((c:Int)=(c:Int) + 1)=false))
 (o6:q52 cs c (0<=(c:Int)))
 (o7:q52 cs c ((c:Int)<=(↑(cs.length):Int)))
 (o8:q52 cs c (0 < cs.length))
 (o9:q52 cs c ((c:Int) + 1=(↑(cs.length):Int)))
 (o10:q52 cs c (0 < cs.length))
 (o11:q52 cs c (0<=(c:Int)))
 (o12:q52 cs c ((c:Int)<=(↑(cs.length):Int)))
 (o13:q52 cs c ((↑(cs.length):Int)<=(↑(cs.length):Int)))
 (o14:q52 cs c ((c:Int) < (↑(cs.length):Int)))
 (o15:q52 cs c (c + (cs.length - c)=cs.length))
 (o16:q52 cs c (0 < cs.length - c))
 (o17:q52 cs c (c<=cs.length))
 (o18:q52 cs c (0 < cs.length))
 (o19:q52 cs c (c=(cutC cs c).length))
 (o20:q52 cs c (∀ (i0:Nat),i0 < c->Decidable.rec (fun (h:¬i0 < c)=>[iv 0,iv 0,iv 0,iv 0]) (fun (h:i0 < c)=>cCtr (cs.getD i0 default)) (Nat.decLt i0 c)=cCtr ((cutC cs c).getD i0 default)))
  (l:List (Nat × Nat)) (hl:l.map (·.1) = [0,3]) (hnd:(l.map (·.2)).Nodup) :
  Triple Try.prog 74 (IoSpec.at (io74b cs c) l):=by
 refine triple_io Try.func74 rfl Try.call74 T0_ok (io74b cs c) 2 l (by rw [hl]; kernel_rfl) hnd (Nat.le_of_ble_eq_true (by kernel_rfl)) (fun _ _ _ _ h=>h) ?_
 intro hpre C hC _ hE
 obtain ⟨P,w0,E0,av,hA,ro,df⟩:=C
 obtain ⟨rfl,rfl,rfl⟩:=hC
 refine swp_seq ?_
 refine zR [0,1,2] [0] (Ak 1 tv) ?_
 refine swp_seq ?_
 refine zR [0,1,2] [0] (Ak 5 (An (An (o0 hpre) (An (o1 hpre) (An (o2 hpre) (An (o3 hpre) (o4 hpre))))) tv)) ?_
 refine swp_seq ?_
 refine swp_seq ?_
 refine zR [0,1,2,16] [0] (Ak 3 tv) ?_
 refine zI (decide ((c:Int)=(c:Int) + 1)) (fun h=>by cases (h.symm.trans (o5 hpre))) (fun _ => ?_)
 refine swp_skip ?_
 refine swp_seq ?_
 refine zR [0,1,2,7] [0] (Ak 3 tv) ?_
 refine swp_seq ?_
 refine zC ([(5,focB8)]) [0,7] [0] (Ak 2 (An (An (o6 hpre) (An (o7 hpre) (o8 hpre))) (Ak 2 (An (An (o9 hpre) (o10 hpre)) (Ak 2 tv))))) ?_
 refine swp_seq ?_
 refine zR [0] [0] (Ak 4 (An (An (o11 hpre) (An (o12 hpre) (An (o13 hpre) (o14 hpre)))) (An (An (o15 hpre) (o16 hpre)) tv))) ?_
 refine swp_seq ?_
 refine zC ([(0,focM)]) [6] [218] (An (An (o17 hpre) (o18 hpre)) (Ak 1 tv)) ?_
 refine swp_ret ?_
 exact zO (ASt.mk [(6,AV.vec 3)] [(3,OB.vec 53 4 (cutC cs c).length fun (i:Nat)=>cCtr ((cutC cs c).getD i default))] 100) (zEn 2 hE [] [(3,.same 218)] [] [] (An (An (zr (some (Src.same 218))) tv) (An (An (An (zr 53) (An (zr 4) (An (o19 hpre) (fun (i0:Nat)=>(fun (y1:i0 < c)=>(o20 hpre i0 y1)))))) tv) (An (zr true) (zr true))))) (An (Ak 1 tv) (An (zr (AV.vec 3)) (An (zr (some (OB.vec 53 4 (cutC cs c).length fun (i:Nat)=>cCtr ((cutC cs c).getD i default)))) tv)))
theorem t74b (b:Nat) (cs:List Ctr) (c:Nat) (id:Nat) (hid:[b,id].Nodup:=by decide):Triple Try.prog 74 ((io74b cs c).at [(0,b),(3,id)]):=by
 apply wio74b cs c (l:=[(0,b),(3,id)]) (hl:=rfl) (hnd:=hid)
 all_goals (try delta q52)
 all_goals (rintro ⟨h1,h2⟩; have hcl:=cut_len (cs:=cs) (c:=c) (by omega))
 case o5=>exact decide_eq_false (by omega)
 case o19=>omega
 case o20 =>
  intro i hi
  rw [cut_get (by omega)]
  refine rec_lt8 (fun h=>by omega) (fun h=>by rw [if_pos h])
 all_goals omega
theorem t74 (b:Nat) (cs:List Ctr) (c:Nat) (id:Nat) (hid:[b,id].Nodup:=by decide):Triple Try.prog 74 (s74 b cs c id):=by
 by_cases h:c + 1 < cs.length
 ·exact triple_pre (q:=c < cs.length/\cs.length<=64) (t74a b cs c id hid) (fun hp=>⟨h,hp.2⟩)
 ·exact triple_pre (q:=c < cs.length/\cs.length<=64) (t74b b cs c id hid) (fun hp=>⟨by omega,hp.2⟩)
abbrev q53 (b:Book) (ls:List Int) (c:Int) (P:Prop):Prop:=smallB b/\ls.length<=60000/\(okBook b && (isCt b c && areLnB b ls))=true->P
theorem w37g (b:Book) (ls:List Int) (c:Int)
 (o0:q53 b ls c (fitsB b))
 (o1:q53 b ls c (isCt b c=true))
 (o2:q53 b ls c (ls.length<=60000))
 (o3:q53 b ls c (okBook b=true))
 (o4:q53 b ls c (areLnB b ls=true))
 (o5:q53 b ls c (SoundB b))
 (o6:q53 b ls c (GoodLn b ls))
 (o7:q53 b ls c (∀ (i5:Nat),i5 < b.ctrs.length->cCtr (ctB b i5)=cCtr (b.ctrs.getD i5 default)))
 (o8:q53 b ls c (0 < b.ctrs.length))
 (o9:q53 b ls c (b.ctrs.length<=60000))
 (o10:q53 b ls c (inI (c + 1)))
 (o11:q53 b ls c (c=(↑(c.toNat):Int)))
 (o12:q53 b ls c (c + 1=(↑(c.toNat):Int) + 1))
 (o13:q53 b ls c (c.toNat < b.ctrs.length))
 (o14:q53 b ls c (b.ctrs.length<=64))
 (o15:q53 b ls c (b.lines.length=(woC b c.toNat).lines.length))
 (o16:q53 b ls c (∀ (i9:Nat),i9 < (woC b c.toNat).lines.length->cSpan (lnB b i9)=cSpan (lnB (woC b c.toNat) i9)))
 (o17:q53 b ls c (b.shown.length=(woC b c.toNat).shown.length))
 (o18:q53 b ls c (∀ (i11:Nat),i11 < (woC b c.toNat).shown.length->cShn (shB b i11)=cShn (shB (woC b c.toNat) i11)))
 (o19:q53 b ls c (b.rate=(woC b c.toNat).rate))
 (o20:q53 b ls c (b.rep=(woC b c.toNat).rep))
 (o21:q53 b ls c ((cutC b.ctrs c.toNat).length=(woC b c.toNat).ctrs.length))
 (o22:q53 b ls c (∀ (i13:Nat),i13 < (woC b c.toNat).ctrs.length->cCtr ((cutC b.ctrs c.toNat).getD i13 default)=cCtr (ctB (woC b c.toNat) i13)))
 (o23:q53 b ls c ((stds b).length=(stds (woC b c.toNat)).length))
 (o24:q53 b ls c (∀ (i15:Nat),i15 < (stds (woC b c.toNat)).length->cSday ((stds b).getD i15 default)=cSday ((stds (woC b c.toNat)).getD i15 default)))
 (o25:q53 b ls c (SoundB (woC b c.toNat)))
 (o26:q53 b ls c (GoodLn (woC b c.toNat) ls))
 (o27:q53 b ls c (inI ((bestB (woC b c.toNat) ls).2 - (bestB b ls).2))) :
  Triple Try.prog 37 (s37g b ls c):=by
 refine triple_of Try.func37 rfl Try.call37 T0_ok _ rfl rfl rfl rfl (Nat.le_of_ble_eq_true (by kernel_rfl)) (fun _ _ _ _ h=>h) ?_
 intro hpre C hC _ hE
 obtain ⟨P,w0,E0,av,hA,ro,df⟩:=C
 obtain ⟨rfl,rfl,rfl⟩:=hC
 refine swp_seq ?_
 refine zR [1,2,3] [0] (Ak 3 tv) ?_
 refine swp_seq ?_
 refine zC ([(4,CallSpec.eq (s73 b c) [true,true]),(5,CallSpec.eq (c37c b ls c 64) [true,false,false])]) [1,2,3,8,9] [0,64] (Ak 4 (An (An (An (zr (AV.agg (cBk b))) (An (zr (iv c)) tv)) (An (t73 (b) (c)) (An (o0 hpre) (Ak 1 (fun (i0:Env)=>tv))))) (An (An (An (zr (AV.agg (cBk b))) (An (An (zr 1) (An (zr ls.length) (fun (i1:Nat)=>(fun (y2:i1 < ls.length)=>(zr ([iv (ls.getD i1 0)])))))) (An (cb (o1 hpre)) tv))) (An (t60po (b) (ls) (true) (64)) (An (An hpre.1 (An (o2 hpre) (An (o3 hpre) (An (zr true) (o4 hpre))))) (Ak 1 (fun (i3:Env)=>tv))))) (Ak 5 tv)))) ?_
 refine swp_seq ?_
 refine swp_seq ?_
 refine zR [1,2,3,8,9,24] [0,64] (Ak 2 tv) ?_
 refine zf ?_
 refine swp_skip ?_
 refine swp_seq ?_
 refine zC ([(2,CallSpec.eq (c37a b ls c 144) [true,true])]) [1,2,3,8,11] [0,64] (Ak 2 (An (An (An (zr (AV.ptr 64 [])) (An (zr (aInts ls)) tv)) (An (lendPT 89 64 0 (t72o (b) (ls) (144)) rfl (fun _ _ h=>capOK_down rfl h)) (An (An (o5 hpre) (o6 hpre)) (An (An (zr (some (OB.cells 89 (cWk b)))) tv) (fun (i4:Env)=>tv))))) (Ak 5 tv))) ?_
 refine swp_seq ?_
 refine zC ([(3,CallSpec.eq (c37l b ls c 216) [false]),(7,CallSpec.eq (c37d b ls c 248) [true,false,false])]) [1,8,11] [64,248] (Ak 3 (An (An (An (An (zr 4) (An (zr b.ctrs.length) (fun (i5:Nat)=>(fun (y6:i5 < b.ctrs.length)=>(o7 hpre i5 y6))))) tv) (An (t75o b.ctrs (216)) (An (An (o8 hpre) (o9 hpre)) (Ak 1 (fun (i7:Env)=>tv))))) (Ak 2 (An (o10 hpre) (An (An (An (zr (AV.vec 216)) (An (ci (o11 hpre)) (An (ci (o12 hpre)) tv))) (An (t74 (216) b.ctrs c.toNat (248)) (An (An (o13 hpre) (o14 hpre)) (An (An (zr (some (OB.vec 53 4 b.ctrs.length fun (i:Nat)=>cCtr (b.ctrs.getD i default)))) tv) (fun (i8:Env)=>tv))))) (Ak 4 tv)))))) ?_
 refine swp_seq ?_
 refine swp_ent (zE (st2:=ASt.mk [(1,aInts ls),(8,AV.ptr 64 []),(11,iv (bestB b ls).2)] [(64,OB.cells 89 (cWk (woC b c.toNat)))] 288) hE [248] [(64,.same 64)] [1,11] [] (An (An (An (zr (aInts ls)) (zr true)) (An (An (zr (some (Src.same 64))) (zr nilP)) (An (An (zr (iv (bestB b ls).2)) (zr true)) tv))) (An (An (An (zr 89) (An (An (An (zr 2) (An (o15 hpre) (fun (i9:Nat)=>(fun (y10:i9 < (woC b c.toNat).lines.length)=>(o16 hpre i9 y10))))) (An (An (zr 3) (An (o17 hpre) (fun (i11:Nat)=>(fun (y12:i11 < (woC b c.toNat).shown.length)=>(o18 hpre i11 y12))))) (An (An (ci (o19 hpre)) (zr nilN)) (An (An (ci (o20 hpre)) (zr nilN)) (An (An (zr 4) (An (o21 hpre) (fun (i13:Nat)=>(fun (y14:i13 < (woC b c.toNat).ctrs.length)=>(o22 hpre i13 y14))))) (An (An (zr 2) (An (o23 hpre) (fun (i15:Nat)=>(fun (y16:i15 < (stds (woC b c.toNat)).length)=>(o24 hpre i15 y16))))) tv)))))) (zr true))) tv) (An (zr true) (zr true))))) ?_
 refine zC ([(2,CallSpec.eq (c37b b ls c 304) [true,true])]) [11,13] [] (Ak 2 (An (An (An (zr (AV.ptr 64 [])) (An (zr (aInts ls)) tv)) (An (lendPT 89 64 0 (t72o (woC b c.toNat) (ls) (304)) rfl (fun _ _ h=>capOK_down rfl h)) (An (An (o25 hpre) (o26 hpre)) (An (An (zr (some (OB.cells 89 (cWk (woC b c.toNat))))) tv) (fun (i17:Env)=>tv))))) (Ak 5 tv))) ?_
 refine swp_seq ?_
 refine zR [6,7] [] (Ak 2 (An (o27 hpre) (Ak 2 tv))) ?_
 refine swp_ret ?_
 exact zT [] (An (Ak 2 tv) (An (An (An (zr (iv ((bestB (woC b c.toNat) ls).2 - (bestB b ls).2))) (zr nilN)) (An (An (zr (iv 0)) (zr nilN)) tv)) (An (zr true) (An (zr true) (zr true)))))
theorem wo_soundI {b:Book} {c:Int} (hs:SoundB b) (h:isCt b c=true):SoundB (woC b c.toNat):=wo_sound hs (by have:=isCt_iff.1 h; omega)
theorem t37g (b:Book) (ls:List Int) (c:Int):Triple Try.prog 37 (s37g b ls c):=by
 apply w37g
 all_goals (try delta q53)
 all_goals (rintro ⟨hp,h1,h2⟩; rw [Bool.and_eq_true,Bool.and_eq_true] at h2; obtain ⟨h3,h4,h5⟩:=h2; have hs:=ok_soundB h3; have hc:=isCt_iff.1 h4; have hg:=are_goodB h5; have hct:=hs.ctrs)
 case o27 =>
  have b1:=best_in hs hg
  have b2:=best_in (wo_soundI hs h4) (withC_good hg)
  simp only [inI]; omega
 all_goals (first | exact h3 | exact h4 | exact h5 | exact hs | exact hg | exact wo_soundI hs h4 | exact withC_good hg | rfl | (intro i _; rfl) | omega | (simp only [inI]; omega) | exact small_fitsB hp)
abbrev q54 (b:Book) (ls:List Int) (c:Int) (P:Prop):Prop:=smallB b/\ls.length<=60000/\(okBook b && (isCt b c && areLnB b ls))=false->P
theorem w37n (b:Book) (ls:List Int) (c:Int)
 (o0:q54 b ls c (fitsB b))
 (o1:q54 b ls c (ls.length<=60000))
 (o2:q54 b ls c ((!decide (givenE b ls (isCt b c)=0))=true)) :
  Triple Try.prog 37 (s37n b ls c):=by
 refine triple_of Try.func37 rfl Try.call37 T0_ok _ rfl rfl rfl rfl (Nat.le_of_ble_eq_true (by kernel_rfl)) (fun _ _ _ _ h=>h) ?_
 intro hpre C hC _ hE
 obtain ⟨P,w0,E0,av,hA,ro,df⟩:=C
 obtain ⟨rfl,rfl,rfl⟩:=hC
 refine swp_seq ?_
 refine zR [1,2,3] [0] (Ak 3 tv) ?_
 refine swp_seq ?_
 refine zC ([(4,CallSpec.eq (s73 b c) [true,true]),(5,CallSpec.eq (s60 b ls (isCt b c)) [true,true,true])]) [1,2,3,8,9] [0] (Ak 4 (An (An (An (zr (AV.agg (cBk b))) (An (zr (iv c)) tv)) (An (t73 (b) (c)) (An (o0 hpre) (Ak 1 (fun (i0:Env)=>tv))))) (An (An (An (zr (AV.agg (cBk b))) (An (zr (aInts ls)) (An (zr (bv (isCt b c))) tv))) (An (t60 (b) (ls) (isCt b c)) (An (An hpre.1 (o1 hpre)) (Ak 1 (fun (i1:Env)=>tv))))) (Ak 5 tv)))) ?_
 refine swp_seq ?_
 refine swp_seq ?_
 refine zR [1,2,3,8,9,24] [0] (Ak 2 tv) ?_
 refine zI (!decide (givenE b ls (isCt b c)=0)) (fun _ => ?_) (fun h=>by cases (h.symm.trans (o2 hpre)))
 refine swp_seq ?_
 refine zR [6,7] [] (Ak 3 tv) ?_
 refine swp_ret ?_
 exact zT [] (An (Ak 2 tv) (An (An (An (zr (iv 0)) (zr nilN)) (An (An (zr (iv (givenE b ls (isCt b c)))) (zr nilN)) tv)) (An (zr true) (An (zr true) (zr true)))))
theorem giv_eq2 (b:Book) (ls:List Int) (is:Bool):(!decide (givenE b ls is=0)) = !(okBook b && (is && areLnB b ls)):=by unfold givenE; exact open_ok8 b _
theorem t37n (b:Book) (ls:List Int) (c:Int):Triple Try.prog 37 (s37n b ls c):=by
 apply w37n
 all_goals (try delta q54)
 all_goals (rintro ⟨hp,h1,h2⟩)
 case o2=>rw [giv_eq2,h2]; rfl
 all_goals (first | exact h1 | exact small_fitsB hp)
theorem t37 (b:Book) (ls:List Int) (c:Int):Triple Try.prog 37 (s37 b ls c):=by
 cases e:okBook b && (isCt b c && areLnB b ls) with
 | true =>
  have:s37 b ls c = { s37g b ls c with pre:=(s37 b ls c).pre }:=by
   have e1:worthN b ls c=(bestB (woC b c.toNat) ls).2 - (bestB b ls).2:=by unfold worthN; rw [e]; rfl
   have e2:givenE b ls (isCt b c)=0:=open_zero e
   unfold s37 s37g; rw [e1,e2]
  rw [this]; exact triple_pre (t37g b ls c) (fun hp=>⟨hp.1,hp.2,e⟩)
 | false =>
  have:s37 b ls c = { s37n b ls c with pre:=(s37 b ls c).pre }:=by
   have e1:worthN b ls c=0:=by unfold worthN; rw [e]; rfl
   unfold s37 s37n; rw [e1]
  rw [this]; exact triple_pre (t37n b ls c) (fun hp=>⟨hp.1,hp.2,e⟩)
abbrev q55 (b:Book) (P:Prop):Prop:=smallB b/\okBook b=true->P
abbrev q56 (b:Book) (x1:Nat) (P:Prop):Prop:=x1<=b.lines.length->P
abbrev q57 (b:Book) (x1:Nat) (P:Prop):Prop:=q56 b x1 (decide ((x1:Int) < (↑(b.lines.length):Int))=true->P)
abbrev q58 (b:Book) (x1:Nat) (x6:Nat) (P:Prop):Prop:=x6<=lnN b x1->P
abbrev q59 (b:Book) (x1:Nat) (x6:Nat) (P:Prop):Prop:=q58 b x1 x6 (decide ((lnB b x1).lo + (x6:Int)<=(lnB b x1).hi)=true->P)
abbrev q5a (b:Book) (x1:Nat) (x6:Nat) (P:Prop):Prop:=q58 b x1 x6 (decide ((lnB b x1).lo + (x6:Int)<=(lnB b x1).hi)=false->P)
abbrev q5b (b:Book) (x1:Nat) (x6:Nat) (P:Prop):Prop:=q5a b x1 x6 ((bif decide ((measTo b x1).1 < 0) then true else decide (worstTo b x1 x6 < (measTo b x1).2))=true->P)
abbrev q5c (b:Book) (x1:Nat) (x6:Nat) (P:Prop):Prop:=q5a b x1 x6 ((bif decide ((measTo b x1).1 < 0) then true else decide (worstTo b x1 x6 < (measTo b x1).2))=false->P)
abbrev q5d (b:Book) (x1:Nat) (P:Prop):Prop:=q56 b x1 (decide ((x1:Int) < (↑(b.lines.length):Int))=false->P)
theorem w49g (b:Book)
 (o0:q55 b (-1=(measTo b 0).1))
 (o1:q55 b (0=(measTo b 0).2))
 (o2:q55 b (0=(↑0:Int)))
 (o3:q55 b (0<=b.lines.length))
 (o4:q55 b (∀ (x1:Nat),q57 b x1 (0<=(x1:Int))))
 (o5:q55 b (∀ (x1:Nat),q57 b x1 ((x1:Int) < (↑(b.lines.length):Int))))
 (o6:q55 b (∀ (x1:Nat),q57 b x1 (∀ (i3:Nat),i3 < b.lines.length->cSpan (lnB b i3)=cSpan (b.lines.getD i3 default))))
 (o7:q55 b (∀ (x1:Nat),q57 b x1 (0 < b.lines.length)))
 (o8:q55 b (∀ (x1:Nat),q57 b x1 (b.lines.length<=60000)))
 (o9:q55 b (∀ (x1:Nat),q57 b x1 (0=worstTo b x1 0)))
 (o10:q55 b (∀ (x1:Nat),q57 b x1 ((lnB b x1).lo=(lnB b x1).lo + (↑0:Int))))
 (o11:q55 b (∀ (x1:Nat),q57 b x1 (∀ (i13:Nat),i13 < b.lines.length->cSpan (b.lines.getD i13 default)=cSpan (cntTo b x1 0 i13))))
 (o12:q55 b (∀ (x1:Nat),q57 b x1 (0<=lnN b x1)))
 (o13:q55 b (∀ (x1:Nat),q57 b x1 (∀ (x6:Nat),q59 b x1 x6 (0<=(x1:Int)))))
 (o14:q55 b (∀ (x1:Nat),q57 b x1 (∀ (x6:Nat),q59 b x1 x6 ((x1:Int) < (↑(b.lines.length):Int)))))
 (o15:q55 b (∀ (x1:Nat),q57 b x1 (∀ (x6:Nat),q59 b x1 x6 (x1 < b.lines.length))))
 (o16:q55 b (∀ (x1:Nat),q57 b x1 (∀ (x6:Nat),q59 b x1 x6 (SoundB (cntB b x1 ((lnB b x1).lo + (x6:Int)))))))
 (o17:q55 b (∀ (x1:Nat),q57 b x1 (∀ (x6:Nat),q59 b x1 x6 (some (OB.cells 89 [AV.vec 10264,AV.sl 3 b.shown.length fun (i:Nat)=>cShn (shB b i),iv b.rate,iv b.rep,AV.sl 4 b.ctrs.length fun (i:Nat)=>cCtr (ctB b i),aDays (stds b)])=some (OB.cells 89 (List.set (cWk (cntB b x1 ((lnB b x1).lo + (x6:Int)))) 0 (AV.vec 10264)))))))
 (o18:q55 b (∀ (x1:Nat),q57 b x1 (∀ (x6:Nat),q59 b x1 x6 (some (OB.vec 63 2 b.lines.length fun (j:Nat)=>Decidable.rec (fun (h:¬j=x1)=>cSpan (cntTo b x1 x6 j)) (fun (h:j=x1)=>[iv ((lnB b x1).lo + (x6:Int)),iv ((lnB b x1).lo + (x6:Int))] ++ []) (instDecidableEqNat j x1))=some (OB.vec 63 2 (cntB b x1 ((lnB b x1).lo + (x6:Int))).lines.length fun (i:Nat)=>cSpan (lnB (cntB b x1 ((lnB b x1).lo + (x6:Int))) i))))))
 (o19:q55 b (∀ (x1:Nat),q57 b x1 (∀ (x6:Nat),q59 b x1 x6 (inI ((owedB (cntB b x1 ((lnB b x1).lo + (x6:Int)))).hi - (owedB (cntB b x1 ((lnB b x1).lo + (x6:Int)))).lo)))))
 (o20:q55 b (∀ (x1:Nat),q57 b x1 (∀ (x6:Nat),q59 b x1 x6 (inI ((lnB b x1).lo + (x6:Int) + 1)))))
 (o21:q55 b (∀ (x1:Nat),q57 b x1 (∀ (x6:Nat),q59 b x1 x6 (max (worstTo b x1 x6) ((owedB (cntB b x1 ((lnB b x1).lo + (x6:Int)))).hi - (owedB (cntB b x1 ((lnB b x1).lo + (x6:Int)))).lo)=worstTo b x1 (x6 + 1)))))
 (o22:q55 b (∀ (x1:Nat),q57 b x1 (∀ (x6:Nat),q59 b x1 x6 ((lnB b x1).lo + (x6:Int) + 1=(lnB b x1).lo + (↑(x6 + 1):Int)))))
 (o23:q55 b (∀ (x1:Nat),q57 b x1 (∀ (x6:Nat),q59 b x1 x6 ((cntB b x1 ((lnB b x1).lo + (x6:Int))).shown.length=b.shown.length))))
 (o24:q55 b (∀ (x1:Nat),q57 b x1 (∀ (x6:Nat),q59 b x1 x6 (∀ (i17:Nat),i17 < b.shown.length->cShn (shB (cntB b x1 ((lnB b x1).lo + (x6:Int))) i17)=cShn (shB b i17)))))
 (o25:q55 b (∀ (x1:Nat),q57 b x1 (∀ (x6:Nat),q59 b x1 x6 ((cntB b x1 ((lnB b x1).lo + (x6:Int))).rate=b.rate))))
 (o26:q55 b (∀ (x1:Nat),q57 b x1 (∀ (x6:Nat),q59 b x1 x6 ((cntB b x1 ((lnB b x1).lo + (x6:Int))).rep=b.rep))))
 (o27:q55 b (∀ (x1:Nat),q57 b x1 (∀ (x6:Nat),q59 b x1 x6 ((cntB b x1 ((lnB b x1).lo + (x6:Int))).ctrs.length=b.ctrs.length))))
 (o28:q55 b (∀ (x1:Nat),q57 b x1 (∀ (x6:Nat),q59 b x1 x6 (∀ (i19:Nat),i19 < b.ctrs.length->cCtr (ctB (cntB b x1 ((lnB b x1).lo + (x6:Int))) i19)=cCtr (ctB b i19)))))
 (o29:q55 b (∀ (x1:Nat),q57 b x1 (∀ (x6:Nat),q59 b x1 x6 ((stds (cntB b x1 ((lnB b x1).lo + (x6:Int)))).length=(stds b).length))))
 (o30:q55 b (∀ (x1:Nat),q57 b x1 (∀ (x6:Nat),q59 b x1 x6 (∀ (i21:Nat),i21 < (stds b).length->cSday ((stds (cntB b x1 ((lnB b x1).lo + (x6:Int)))).getD i21 default)=cSday ((stds b).getD i21 default)))))
 (o31:q55 b (∀ (x1:Nat),q57 b x1 (∀ (x6:Nat),q59 b x1 x6 ((cntB b x1 ((lnB b x1).lo + (x6:Int))).lines.length=b.lines.length))))
 (o32:q55 b (∀ (x1:Nat),q57 b x1 (∀ (x6:Nat),q59 b x1 x6 (∀ (i23:Nat),i23 < (cntB b x1 ((lnB b x1).lo + (x6:Int))).lines.length->cSpan (lnB (cntB b x1 ((lnB b x1).lo + (x6:Int))) i23)=cSpan (cntTo b x1 (x6 + 1) i23)))))
 (o33:q55 b (∀ (x1:Nat),q57 b x1 (∀ (x6:Nat),q59 b x1 x6 (x6 + 1<=lnN b x1))))
 (o34:q55 b (∀ (x1:Nat),q57 b x1 (∀ (x6:Nat),q59 b x1 x6 (lnN b x1 - (x6 + 1) < lnN b x1 - x6))))
 (o35:q55 b (∀ (x1:Nat),q57 b x1 (∀ (x6:Nat),q5a b x1 x6 (decide ((measTo b x1).1 < 0)=false->(!decide ((measTo b x1).1 < 0))=true))))
 (o36:q55 b (∀ (x1:Nat),q57 b x1 (∀ (x6:Nat),q5b b x1 x6 (inI ((x1:Int) + 1)))))
 (o37:q55 b (∀ (x1:Nat),q57 b x1 (∀ (x6:Nat),q5b b x1 x6 ((x1:Int)=(measTo b (x1 + 1)).1))))
 (o38:q55 b (∀ (x1:Nat),q57 b x1 (∀ (x6:Nat),q5b b x1 x6 (worstTo b x1 x6=(measTo b (x1 + 1)).2))))
 (o39:q55 b (∀ (x1:Nat),q57 b x1 (∀ (x6:Nat),q5b b x1 x6 ((x1:Int) + 1=(↑(x1 + 1):Int)))))
 (o40:q55 b (∀ (x1:Nat),q57 b x1 (∀ (x6:Nat),q5b b x1 x6 (x1 + 1<=b.lines.length))))
 (o41:q55 b (∀ (x1:Nat),q57 b x1 (∀ (x6:Nat),q5b b x1 x6 (b.lines.length - (x1 + 1) < b.lines.length - x1))))
 (o42:q55 b (∀ (x1:Nat),q57 b x1 (∀ (x6:Nat),q5c b x1 x6 (inI ((x1:Int) + 1)))))
 (o43:q55 b (∀ (x1:Nat),q57 b x1 (∀ (x6:Nat),q5c b x1 x6 ((measTo b x1).1=(measTo b (x1 + 1)).1))))
 (o44:q55 b (∀ (x1:Nat),q57 b x1 (∀ (x6:Nat),q5c b x1 x6 ((measTo b x1).2=(measTo b (x1 + 1)).2))))
 (o45:q55 b (∀ (x1:Nat),q57 b x1 (∀ (x6:Nat),q5c b x1 x6 ((x1:Int) + 1=(↑(x1 + 1):Int)))))
 (o46:q55 b (∀ (x1:Nat),q57 b x1 (∀ (x6:Nat),q5c b x1 x6 (x1 + 1<=b.lines.length))))
 (o47:q55 b (∀ (x1:Nat),q57 b x1 (∀ (x6:Nat),q5c b x1 x6 (b.lines.length - (x1 + 1) < b.lines.length - x1))))
 (o48:q55 b (∀ (x1:Nat),q5d b x1 (decide ((measTo b x1).1 < 0)=true->0=measN b)))
 (o49:q55 b (∀ (x1:Nat),q5d b x1 (decide ((measTo b x1).1 < 0)=true->3=measE b)))
 (o50:q55 b (∀ (x1:Nat),q5d b x1 (decide ((measTo b x1).1 < 0)=false->(measTo b x1).1=measN b)))
 (o51:q55 b (∀ (x1:Nat),q5d b x1 (decide ((measTo b x1).1 < 0)=false->0=measE b))) :
  Triple Try.prog 49 (s49g b):=by
 refine triple_of Try.func49 rfl Try.call49 T0_ok _ rfl rfl rfl rfl (Nat.le_of_ble_eq_true (by kernel_rfl)) (fun _ _ _ _ h=>h) ?_
 intro hpre C hC _ hE
 obtain ⟨P,w0,E0,av,hA,ro,df⟩:=C
 obtain ⟨rfl,rfl,rfl⟩:=hC
 refine swp_seq ?_
 refine zR [1] [0] (Ak 3 tv) ?_
 refine swp_seq ?_
 refine zC ([(1,CallSpec.eq (c49p b 32) [true,true])]) [1,4,5] [0,32] (Ak 1 (An (An (An (zr (AV.agg (cBk b))) (An (zr (bv true)) tv)) (An (t58po (b) (true) (32)) (An (An hpre.1 (An hpre.2 (zr true))) (Ak 1 (fun (i0:Env)=>tv))))) (Ak 5 tv))) ?_
 refine swp_seq ?_
 refine swp_seq ?_
 refine zR [1,4,5,20] [0,32] (Ak 2 tv) ?_
 refine zf ?_
 refine swp_skip ?_
 refine swp_seq ?_
 refine zR [1,4,6,7] [0,32] (Ak 2 tv) ?_
 refine swp_seq ?_
 refine swp_seq ?_
 refine zR [1,4,6,7,23,24,25] [0,32] (Ak 4 tv) ?_
 refine swp_block ?_
 refine zL (Hint.ann (h49a b) [(1,AV.ptr 0 []),(4,AV.ptr 32 []),(23,AV.sl 2 b.lines.length fun (i:Nat)=>cSpan (lnB b i)),(24,iv (↑(b.lines.length):Int))] [(0,OB.cells 26 (cBk b)),(32,OB.cells 89 (cWk b))] 10144) (zE hE [] [(0,.same 0),(32,.same 32)] [23,24] [0,32] (An (An (An (zr (some (Src.same 0))) (zr nilP)) (An (An (zr (some (Src.same 32))) (zr nilP)) (An (An (zr (AV.sl 2 b.lines.length fun (i:Nat)=>cSpan (lnB b i))) (zr true)) (An (An (zr (iv (↑(b.lines.length):Int))) (zr true)) (An (An (ci (o0 hpre)) (zr nilN)) (An (An (ci (o1 hpre)) (zr nilN)) (An (An (ci (o2 hpre)) (zr nilN)) tv))))))) (An (An (An (zr (OB.cells 26 (cBk b))) (zr true)) (An (An (zr (OB.cells 89 (cWk b))) (zr true)) tv)) (An (zr true) (zr true))))) (o3 hpre) (fun (x1:Nat) hx1 => ?_)
 refine swp_seq ?_
 refine zR [1,4,23,24,6,7,25,26] [0,32] (Ak 1 tv) ?_
 refine swp_seq ?_
 refine zI (decide ((x1:Int) < (↑(b.lines.length):Int))) (fun y2 => ?_) (fun y2 => ?_)
 ·refine swp_skip ?_
  refine swp_seq ?_
  refine swp_block ?_
  refine swp_seq ?_
  refine zR [1,4,23,24,6,7,25,9,8] [0,32,10176] (Ak 1 (An (An (o4 hpre x1 hx1 y2) (o5 hpre x1 hx1 y2)) (Ak 4 tv))) ?_
  refine swp_seq ?_
  refine zR [1,4,23,24,6,7,25,9,8,10] [0,32,10176] (Ak 1 tv) ?_
  refine swp_seq ?_
  refine zR [1,4,23,24,6,7,25,9,8,10,11] [0,32,10176,10232] (Ak 5 tv) ?_
  refine swp_seq ?_
  refine zC ([(2,CallSpec.eq (c49c b x1 10264) [false])]) [1,4,23,24,6,7,25,9,8,10,11] [0,32,10176,10232,10264] (Ak 2 (An (An (An (An (zr 2) (An (zr b.lines.length) (fun (i3:Nat)=>(fun (y4:i3 < b.lines.length)=>(o6 hpre x1 hx1 y2 i3 y4))))) tv) (An (t79o b.lines (10264)) (An (An (o7 hpre x1 hx1 y2) (o8 hpre x1 hx1 y2)) (Ak 1 (fun (i5:Env)=>tv))))) (Ak 3 tv))) ?_
  refine swp_seq ?_
  refine swp_seq ?_
  refine zR [1,4,23,24,6,7,25,9,8,10,11,12] [0,32,10176,10232,10264] (Ak 3 tv) ?_
  refine swp_block ?_
  refine zL (Hint.ann (h49b b x1) [(1,AV.ptr 0 []),(4,AV.ptr 32 []),(23,AV.sl 2 b.lines.length fun (i:Nat)=>cSpan (lnB b i)),(24,iv (↑(b.lines.length):Int)),(6,iv (measTo b x1).1),(7,iv (measTo b x1).2),(25,iv (x1:Int)),(9,AV.ptr 10176 []),(8,iv (x1:Int)),(11,AV.ptr 10232 [])] [(0,OB.cells 26 (cBk b)),(32,OB.cells 89 (cWk b)),(10176,OB.cells 63 (cSpan (lnB b x1))),(10232,OB.cells 89 [AV.vec 10264,AV.sl 3 b.shown.length fun (i:Nat)=>cShn (shB b i),iv b.rate,iv b.rep,AV.sl 4 b.ctrs.length fun (i:Nat)=>cCtr (ctB b i),aDays (stds b)])] 20320) (zE hE [] [(0,.same 0),(32,.same 32),(10176,.same 10176),(10232,.same 10232),(10264,.same 10264)] [23,24,6,7,25,8] [0,32,10176] (An (An (An (zr (some (Src.same 0))) (zr nilP)) (An (An (zr (some (Src.same 32))) (zr nilP)) (An (An (zr (AV.sl 2 b.lines.length fun (i:Nat)=>cSpan (lnB b i))) (zr true)) (An (An (zr (iv (↑(b.lines.length):Int))) (zr true)) (An (An (zr (iv (measTo b x1).1)) (zr true)) (An (An (zr (iv (measTo b x1).2)) (zr true)) (An (An (zr (iv (x1:Int))) (zr true)) (An (An (zr (some (Src.same 10176))) (zr nilP)) (An (An (zr (iv (x1:Int))) (zr true)) (An (An (zr (some (Src.same 10232))) (zr nilP)) (An (An (ci (o9 hpre x1 hx1 y2)) (zr nilN)) (An (An (ci (o10 hpre x1 hx1 y2)) (zr nilN)) tv)))))))))))) (An (An (An (zr (OB.cells 26 (cBk b))) (zr true)) (An (An (zr (OB.cells 89 (cWk b))) (zr true)) (An (An (zr (OB.cells 63 (cSpan (lnB b x1)))) (zr true)) (An (An (zr 89) (An (An (zr (some (Src.same 10264))) (An (An (zr 3) (An (zr b.shown.length) (fun (i7:Nat)=>(fun (y8:i7 < b.shown.length)=>(zr (cShn (shB b i7))))))) (An (An (zr (iv b.rate)) (zr nilN)) (An (An (zr (iv b.rep)) (zr nilN)) (An (An (zr 4) (An (zr b.ctrs.length) (fun (i9:Nat)=>(fun (y10:i9 < b.ctrs.length)=>(zr (cCtr (ctB b i9))))))) (An (An (zr 2) (An (zr (stds b).length) (fun (i11:Nat)=>(fun (y12:i11 < (stds b).length)=>(zr (cSday ((stds b).getD i11 default))))))) tv)))))) (zr true))) (An (An (zr 63) (An (zr 2) (An (zr b.lines.length) (fun (i13:Nat)=>(fun (y14:i13 < b.lines.length)=>(o11 hpre x1 hx1 y2 i13 y14)))))) tv))))) (An (zr true) (zr true))))) (o12 hpre x1 hx1 y2) (fun (x6:Nat) hx6 => ?_)
  refine swp_seq ?_
  refine swp_seq ?_
  refine zR [1,4,23,24,6,7,25,9,8,11,10,12,43] [0,32,10176,10232,10264] (Ak 4 tv) ?_
  refine zI (decide ((lnB b x1).lo + (x6:Int)<=(lnB b x1).hi)) (fun y15 => ?_) (fun y15 => ?_)
  ·refine swp_skip ?_
   refine swp_seq ?_
   refine swp_block ?_
   refine swp_seq ?_
   refine zR [1,4,23,24,6,7,25,9,8,11,10,12] [0,32,10176,10232,10264] (Ak 7 (An (An (o13 hpre x1 hx1 y2 x6 hx6 y15) (o14 hpre x1 hx1 y2 x6 hx6 y15)) (An (An (o15 hpre x1 hx1 y2 x6 hx6 y15) tv) tv))) ?_
   refine swp_seq ?_
   refine zC ([(0,CallSpec.eq (c49o b x1 x6) [true])]) [1,4,23,24,6,7,25,9,8,11,10,12,13] [0,32,10176,10232,20432,10264] (An (An (An (zr (AV.ptr 10232 [])) tv) (An (lendVT 89 63 10232 10264 0 0 (t80 (cntB b x1 ((lnB b x1).lo + (x6:Int)))) rfl rfl (fun _ _ h=>capOK_down rfl h) (by decide)) (An (o16 hpre x1 hx1 y2 x6 hx6 y15) (An (An (o17 hpre x1 hx1 y2 x6 hx6 y15) (An (o18 hpre x1 hx1 y2 x6 hx6 y15) tv)) (fun (i16:Env)=>tv))))) (Ak 2 tv)) ?_
   refine zR [1,4,23,24,6,7,25,9,8,11,10,12] [0,32,10176,10232,10264] (Ak 5 (An (o19 hpre x1 hx1 y2 x6 hx6 y15) (Ak 2 tv))) ?_
   refine zR [1,4,23,24,6,7,25,9,8,11,10,12] [0,32,10176,10232,10264] (Ak 1 (An (o20 hpre x1 hx1 y2 x6 hx6 y15) (Ak 1 tv))) ?_
   exact zn (zE hE [] [(0,.same 0),(32,.same 32),(10176,.same 10176),(10232,.same 10232),(10264,.same 10264)] [23,24,6,7,25,8] [0,32,10176] (An (An (An (zr (some (Src.same 0))) (zr nilP)) (An (An (zr (some (Src.same 32))) (zr nilP)) (An (An (zr (AV.sl 2 b.lines.length fun (i:Nat)=>cSpan (lnB b i))) (zr true)) (An (An (zr (iv (↑(b.lines.length):Int))) (zr true)) (An (An (zr (iv (measTo b x1).1)) (zr true)) (An (An (zr (iv (measTo b x1).2)) (zr true)) (An (An (zr (iv (x1:Int))) (zr true)) (An (An (zr (some (Src.same 10176))) (zr nilP)) (An (An (zr (iv (x1:Int))) (zr true)) (An (An (zr (some (Src.same 10232))) (zr nilP)) (An (An (ci (o21 hpre x1 hx1 y2 x6 hx6 y15)) (zr nilN)) (An (An (ci (o22 hpre x1 hx1 y2 x6 hx6 y15)) (zr nilN)) tv)))))))))))) (An (An (An (zr (OB.cells 26 (cBk b))) (zr true)) (An (An (zr (OB.cells 89 (cWk b))) (zr true)) (An (An (zr (OB.cells 63 (cSpan (lnB b x1)))) (zr true)) (An (An (zr 89) (An (An (zr (some (Src.same 10264))) (An (An (zr 3) (An (o23 hpre x1 hx1 y2 x6 hx6 y15) (fun (i17:Nat)=>(fun (y18:i17 < b.shown.length)=>(o24 hpre x1 hx1 y2 x6 hx6 y15 i17 y18))))) (An (An (ci (o25 hpre x1 hx1 y2 x6 hx6 y15)) (zr nilN)) (An (An (ci (o26 hpre x1 hx1 y2 x6 hx6 y15)) (zr nilN)) (An (An (zr 4) (An (o27 hpre x1 hx1 y2 x6 hx6 y15) (fun (i19:Nat)=>(fun (y20:i19 < b.ctrs.length)=>(o28 hpre x1 hx1 y2 x6 hx6 y15 i19 y20))))) (An (An (zr 2) (An (o29 hpre x1 hx1 y2 x6 hx6 y15) (fun (i21:Nat)=>(fun (y22:i21 < (stds b).length)=>(o30 hpre x1 hx1 y2 x6 hx6 y15 i21 y22))))) tv)))))) (zr true))) (An (An (zr 63) (An (zr 2) (An (o31 hpre x1 hx1 y2 x6 hx6 y15) (fun (i23:Nat)=>(fun (y24:i23 < (cntB b x1 ((lnB b x1).lo + (x6:Int))).lines.length)=>(o32 hpre x1 hx1 y2 x6 hx6 y15 i23 y24)))))) tv))))) (An (zr true) (zr true))))) (o33 hpre x1 hx1 y2 x6 hx6 y15) (o34 hpre x1 hx1 y2 x6 hx6 y15)
  ·refine swp_exit ?_
   refine swp_seq ?_
   refine zR [1,4,23,24,6,7,25,8,10,68] [0,32] (Ak 3 (An (fun (y25:(!decide ((measTo b x1).1 < 0))=true)=>(An (Ak 1 tv) tv)) (An (fun (y26:(!decide ((measTo b x1).1 < 0))=true)=>(An (Ak 1 tv) tv)) (An (fun (y27:(!decide ((measTo b x1).1 < 0))=true)=>(An (An (fun (y28:(!decide ((measTo b x1).1 < 0))=true)=>y27) (An (fun (y29:(!decide ((measTo b x1).1 < 0))=true)=>y27) tv)) tv)) (An (An (fun (y30:decide ((measTo b x1).1 < 0)=true)=>tv) (fun (y31:decide ((measTo b x1).1 < 0)=false)=>(o35 hpre x1 hx1 y2 x6 hx6 y15 y31))) tv))))) ?_
   refine zI (bif decide ((measTo b x1).1 < 0) then true else decide (worstTo b x1 x6 < (measTo b x1).2)) (fun y32 => ?_) (fun y32 => ?_)
   ·refine zR [1,4,23,24,6,7,25] [0,32] (Ak 4 tv) ?_
    refine zR [1,4,23,24,6,7,25] [0,32] (An (o36 hpre x1 hx1 y2 x6 hx6 y15 y32) (Ak 1 tv)) ?_
    exact zn (zE hE [] [(0,.same 0),(32,.same 32)] [23,24] [0,32] (An (An (An (zr (some (Src.same 0))) (zr nilP)) (An (An (zr (some (Src.same 32))) (zr nilP)) (An (An (zr (AV.sl 2 b.lines.length fun (i:Nat)=>cSpan (lnB b i))) (zr true)) (An (An (zr (iv (↑(b.lines.length):Int))) (zr true)) (An (An (ci (o37 hpre x1 hx1 y2 x6 hx6 y15 y32)) (zr nilN)) (An (An (ci (o38 hpre x1 hx1 y2 x6 hx6 y15 y32)) (zr nilN)) (An (An (ci (o39 hpre x1 hx1 y2 x6 hx6 y15 y32)) (zr nilN)) tv))))))) (An (An (An (zr (OB.cells 26 (cBk b))) (zr true)) (An (An (zr (OB.cells 89 (cWk b))) (zr true)) tv)) (An (zr true) (zr true))))) (o40 hpre x1 hx1 y2 x6 hx6 y15 y32) (o41 hpre x1 hx1 y2 x6 hx6 y15 y32)
   ·refine swp_skip ?_
    refine zR [1,4,23,24,6,7,25] [0,32] (An (o42 hpre x1 hx1 y2 x6 hx6 y15 y32) (Ak 1 tv)) ?_
    exact zn (zE hE [] [(0,.same 0),(32,.same 32)] [23,24] [0,32] (An (An (An (zr (some (Src.same 0))) (zr nilP)) (An (An (zr (some (Src.same 32))) (zr nilP)) (An (An (zr (AV.sl 2 b.lines.length fun (i:Nat)=>cSpan (lnB b i))) (zr true)) (An (An (zr (iv (↑(b.lines.length):Int))) (zr true)) (An (An (ci (o43 hpre x1 hx1 y2 x6 hx6 y15 y32)) (zr nilN)) (An (An (ci (o44 hpre x1 hx1 y2 x6 hx6 y15 y32)) (zr nilN)) (An (An (ci (o45 hpre x1 hx1 y2 x6 hx6 y15 y32)) (zr nilN)) tv))))))) (An (An (An (zr (OB.cells 26 (cBk b))) (zr true)) (An (An (zr (OB.cells 89 (cWk b))) (zr true)) tv)) (An (zr true) (zr true))))) (o46 hpre x1 hx1 y2 x6 hx6 y15 y32) (o47 hpre x1 hx1 y2 x6 hx6 y15 y32)
 ·refine swp_exit ?_
  refine swp_seq ?_
  refine swp_seq ?_
  refine zR [6,73] [] (Ak 2 tv) ?_
  refine zI (decide ((measTo b x1).1 < 0)) (fun y33 => ?_) (fun y33 => ?_)
  ·refine swp_seq ?_
   refine zR [2,3] [] (Ak 2 tv) ?_
   refine swp_ret ?_
   exact zT [] (An (Ak 2 tv) (An (An (An (ci (o48 hpre x1 hx1 y2 y33)) (zr nilN)) (An (An (ci (o49 hpre x1 hx1 y2 y33)) (zr nilN)) tv)) (An (zr true) (An (zr true) (zr true)))))
  ·refine swp_skip ?_
   refine swp_seq ?_
   refine zR [2,3] [] (Ak 3 tv) ?_
   refine swp_ret ?_
   exact zT [] (An (Ak 2 tv) (An (An (An (ci (o50 hpre x1 hx1 y2 y33)) (zr nilN)) (An (An (ci (o51 hpre x1 hx1 y2 y33)) (zr nilN)) tv)) (An (zr true) (An (zr true) (zr true)))))
theorem lnN_int {b:Book} (hs:SoundB b) {i:Nat} (h:i < b.lines.length):(lnN b i:Int)=(lnB b i).hi - (lnB b i).lo + 1:=by
 have:=hs.line i h; unfold lnN; omega
theorem cnt_all (b:Book) {i:Nat} (hi:i < b.lines.length) (n:Int) (j:Nat):lnB (cntB b i n) j=if j=i then ⟨n,n⟩ else lnB b j:=by
 show (b.lines.set i ⟨n,n⟩).getD j default=_
 rw [List.getD_eq_getElem?_getD,List.getElem?_set]
 by_cases e:i=j
 ·subst e; rw [if_pos rfl,if_pos hi,if_pos rfl]; rfl
 ·rw [if_neg e,if_neg (fun h=>e h.symm)]; unfold lnB; rw [List.getD_eq_getElem?_getD]
theorem cnt_row (b:Book) {i:Nat} (hi:i < b.lines.length) (k j:Nat):lnB (cntB b i ((lnB b i).lo + k)) j=cntTo b i (k + 1) j:=by
 rw [cnt_all _ hi]
 unfold cntTo
 by_cases e:j=i
 ·rw [if_pos e,if_pos ⟨e,by omega⟩]
  congr 1 <;> omega
 ·rw [if_neg e,if_neg (fun h=>e h.1)]
theorem t49g (b:Book):Triple Try.prog 49 (s49g b):=by
  apply w49g
  all_goals (try delta q55 q56 q57 q58 q59 q5a q5b q5c q5d)
  all_goals (rintro ⟨hp,h⟩; have hs:=ok_soundB h; have hln:=hs.lines)
  case o0 | o1 | o2 | o3=>all_goals (first | rfl | omega)
  all_goals (intro x hx hl; simp only [decide_eq_true_eq,decide_eq_false_iff_not] at hl)
  case o48 => intro h0; have : x = b.lines.length := by omega
              subst this
              unfold measN
              by_cases hz:b.lines.length=0
              · rw [h,hz]; rfl
              · obtain ⟨i,_,e,_⟩:=meas_spec b.lines.length (by omega)
                rw [e] at h0; simp only [decide_eq_true_eq] at h0; omega
  case o49 => intro h0; have : x = b.lines.length := by omega
              subst this
              unfold measE
              by_cases hz:b.lines.length=0
              · rw [h,hz]; rfl
              · obtain ⟨i,_,e,_⟩:=meas_spec b.lines.length (by omega)
                rw [e] at h0; simp only [decide_eq_true_eq] at h0; omega
  case o50 => intro h0; have : x = b.lines.length := by omega
              subst this
              unfold measN
              by_cases hz:b.lines.length=0
              · rw [hz] at h0; cases h0
              · rw [h,decide_eq_true (show 0 < b.lines.length by omega)]; rfl
  case o51 => intro h0; have : x = b.lines.length := by omega
              subst this
              unfold measE
              by_cases hz:b.lines.length=0
              · rw [hz] at h0; cases h0
              · rw [h,if_pos rfl,if_pos (show 0 < b.lines.length by omega)]
  all_goals (try (first | omega | rfl | (intro i _; rfl)))
  case o11=>intro i hi; unfold cntTo; rw [if_neg (fun h=>Nat.lt_irrefl 0 h.2)]; rfl
  all_goals (have hxl:x < b.lines.length:=by omega)
  all_goals (have hlx:=hs.line x (by omega); have hN:=lnN_int hs (i:=x) (by omega))
  all_goals (intro k hk hkl; simp only [decide_eq_true_eq,decide_eq_false_iff_not] at hkl)
  all_goals (try (first | omega | rfl | (intro i _; rfl)))
  case o16=>exact cnt_sound hs (by omega)
  case o17 =>
    have e:stds (cntB b x ((lnB b x).lo + k))=stds b:=stds_congr (cnt_len _ _) (fun _ _=>rfl)
    unfold cWk
    rw [e]; rfl
  case o18 =>
    rw [cnt_len]
    congr 2
    funext j
    rw [cnt_row b hxl k j]
    unfold cntTo
    refine rec_ei8 (fun h => ?_) (fun h => ?_)
    · rw [if_neg (fun hh=>h hh.1),if_neg (fun hh=>h hh.1)]
    · rw [if_pos ⟨h,by omega⟩]
      show [iv _,iv _] = [iv _,iv _]
      rw [show (lnB b x).lo + ((k + 1:Nat):Int) - 1=(lnB b x).lo + k by omega]
  case o19 =>
    have h4:=owed_in (cnt_sound hs (i:=x) (n:=(lnB b x).lo + k) (by omega))
    simp only [inI]; omega
  case o20=>simp only [inI]; omega
  case o29=>rw [show stds (cntB b x ((lnB b x).lo + k))=stds b from stds_congr (cnt_len _ _) (fun _ _=>rfl)]
  case o30=>intro i _; rw [show stds (cntB b x ((lnB b x).lo + k))=stds b from stds_congr (cnt_len _ _) (fun _ _=>rfl)]
  case o31=>exact cnt_len _ _
  case o32=>intro j hj; rw [cnt_row b hxl k j]
  all_goals (have hkN:k=lnN b x:=by omega)
  all_goals (intro hc; have hst:measTo b (x + 1)=if decide ((measTo b x).1 < 0) || decide (worstB b x < (measTo b x).2) then ((x:Int),worstB b x) else measTo b x:=rfl)
  case o35=>rw [hc]; rfl
  all_goals (rw [hkN,Bool.cond_true_left] at hc; try rw [hkN])
  case o36 | o42=>all_goals (simp only [inI]; omega)
  case o37 | o38=>all_goals (rw [hst]; unfold worstB; rw [if_pos hc]; try rfl)
  all_goals (rw [hst]; unfold worstB; rw [if_neg (by rw [hc]; exact Bool.false_ne_true)])
theorem w49n (b:Book)
  (o0:smallB b/\okBook b=false->(!decide (openE b true=0))=true)
  (o1:smallB b/\okBook b=false->0=measN b)
  (o2:smallB b/\okBook b=false->openE b true=measE b) :
  Triple Try.prog 49 (s49n b):=by
 refine triple_of Try.func49 rfl Try.call49 T0_ok _ rfl rfl rfl rfl (Nat.le_of_ble_eq_true (by kernel_rfl)) (fun _ _ _ _ h=>h) ?_
 intro hpre C hC _ hE
 obtain ⟨P,w0,E0,av,hA,ro,df⟩:=C
 obtain ⟨rfl,rfl,rfl⟩:=hC
 refine swp_seq ?_
 refine zR [1] [0] (Ak 3 tv) ?_
 refine swp_seq ?_
 refine zC ([(1,CallSpec.eq (s58 b true) [true,true])]) [1,4,5] [0] (Ak 1 (An (An (An (zr (AV.agg (cBk b))) (An (zr (bv true)) tv)) (An (t58 (b) (true)) (An hpre.1 (Ak 1 (fun (i0:Env)=>tv))))) (Ak 5 tv))) ?_
 refine swp_seq ?_
 refine swp_seq ?_
 refine zR [1,4,5,20] [0] (Ak 2 tv) ?_
 refine zI (!decide (openE b true=0)) (fun _ => ?_) (fun h=>by cases (h.symm.trans (o0 hpre)))
 refine swp_seq ?_
 refine zR [2,3] [] (Ak 3 tv) ?_
 refine swp_ret ?_
 exact zT [] (An (Ak 2 tv) (An (An (An (ci (o1 hpre)) (zr nilN)) (An (An (ci (o2 hpre)) (zr nilN)) tv)) (An (zr true) (An (zr true) (zr true)))))
theorem t49n (b:Book):Triple Try.prog 49 (s49n b):=by
 apply w49n
 all_goals (rintro ⟨hp,h⟩)
 case o0=>rw [open_ok8,h]; rfl
 case o1=>unfold measN; rw [h]; rfl
 case o2=>unfold measE openE; rw [h]; rfl
theorem t49 (b:Book):Triple Try.prog 49 (s49 b):=by
 cases e:okBook b with
 | true=>exact triple_pre (q:=smallB b) (t49g b) (fun hp=>⟨hp,e⟩)
 | false=>exact triple_pre (q:=smallB b) (t49n b) (fun hp=>⟨hp,e⟩)
abbrev q5e (b:Book) (P:Prop):Prop:=smallB b->P
abbrev q5f (b:Book) (c:Int) (P:Prop):Prop:=q5e b ((!decide (openE b (isCt b c)=0))=false->P)
abbrev q5g (b:Book) (x5:Nat) (P:Prop):Prop:=x5 < nTr b->P
abbrev q5h (b:Book) (x5:Nat) (x8:Nat) (P:Prop):Prop:=(x8<=b.lines.length /\ ∀ (q:Nat),q < x8->(trN b x5).getD q 0=(lnB b q).hi)->P
abbrev q5i (b:Book) (x5:Nat) (x8:Nat) (P:Prop):Prop:=q5h b x5 x8 (decide ((x8:Int) < (↑(b.lines.length):Int))=true->P)
abbrev q5j (b:Book) (x5:Nat) (x8:Nat) (P:Prop):Prop:=q5h b x5 x8 ((bif decide ((x8:Int) < (↑(b.lines.length):Int)) then decide (rowL8 b x5 x8 x8=(highsB b).getD x8 0) else false)=true->P)
abbrev q5k (b:Book) (x5:Nat) (x8:Nat) (P:Prop):Prop:=q5h b x5 x8 ((bif decide ((x8:Int) < (↑(b.lines.length):Int)) then decide (rowL8 b x5 x8 x8=(highsB b).getD x8 0) else false)=false->P)
abbrev q5l (b:Book) (x5:Nat) (x8:Nat) (P:Prop):Prop:=q5k b x5 x8 (decide ((x8:Int)=(↑(b.lines.length):Int))=false->P)
abbrev q5m (b:Book) (j3:Nat) (P:Prop):Prop:=j3 < nTr b->True->P
abbrev q5n (b:Book) (c:Int) (P:Prop):Prop:=q5f b c (decide (0=(↑(soTo b c (nTr b)):Int))=false->P)
theorem w42 (b:Book) (c:Int)
 (o0:q5e b (fitsB b))
 (o1:q5e b ((!decide (openE b (isCt b c)=0))=true->0=buyN b c))
 (o2:q5f b c ((okBook b && isCt b c)=true))
 (o3:q5f b c (SoundB b))
 (o4:q5f b c (0=(↑(soTo b c 0):Int)))
 (o5:q5f b c (0=(↑0:Int) - (↑(soTo b c 0):Int)))
 (o6:q5f b c ((lowsB b).length=(trN b 0).length))
 (o7:q5f b c (∀ (i6:Nat),i6 < (lowsB b).length -> [iv ((lowsB b).getD i6 0)] = [iv ((trN b 0).getD i6 0)]))
 (o8:q5f b c (0 < nTr b))
 (o9:q5f b c (∀ (x5:Nat),q5g b x5 (0=(↑0:Int))))
 (o10:q5f b c (∀ (x5:Nat),q5g b x5 ((trN b x5).length=b.lines.length)))
 (o11:q5f b c (∀ (x5:Nat),q5g b x5 (∀ (i9:Nat),i9 < (trN b x5).length -> [iv ((trN b x5).getD i9 0)] = [iv (rowL8 b x5 0 i9)])))
 (o12:q5f b c (∀ (x5:Nat),q5g b x5 (0<=b.lines.length /\ ∀ (q:Nat),q < 0->(trN b x5).getD q 0=(lnB b q).hi)))
 (o13:q5f b c (∀ (x5:Nat),q5g b x5 (∀ (x8:Nat),q5i b x5 x8 (0<=(x8:Int)))))
 (o14:q5f b c (∀ (x5:Nat),q5g b x5 (∀ (x8:Nat),q5i b x5 x8 ((x8:Int) < (↑(b.lines.length):Int)))))
 (o15:q5f b c (∀ (x5:Nat),q5g b x5 (∀ (x8:Nat),q5i b x5 x8 (x8 < b.lines.length))))
 (o16:q5f b c (∀ (x5:Nat),q5g b x5 (∀ (x8:Nat),q5i b x5 x8 (0<=(x8:Int)))))
 (o17:q5f b c (∀ (x5:Nat),q5g b x5 (∀ (x8:Nat),q5i b x5 x8 ((x8:Int) < (↑((highsB b).length):Int)))))
 (o18:q5f b c (∀ (x5:Nat),q5g b x5 (∀ (x8:Nat),q5i b x5 x8 (x8 < (highsB b).length))))
 (o19:q5f b c (∀ (x5:Nat),q5g b x5 (∀ (x8:Nat),q5j b x5 x8 (0<=(x8:Int)))))
 (o20:q5f b c (∀ (x5:Nat),q5g b x5 (∀ (x8:Nat),q5j b x5 x8 ((x8:Int) < (↑(b.lines.length):Int)))))
 (o21:q5f b c (∀ (x5:Nat),q5g b x5 (∀ (x8:Nat),q5j b x5 x8 (0<=(x8:Int)))))
 (o22:q5f b c (∀ (x5:Nat),q5g b x5 (∀ (x8:Nat),q5j b x5 x8 ((x8:Int) < (↑(b.lines.length):Int)))))
 (o23:q5f b c (∀ (x5:Nat),q5g b x5 (∀ (x8:Nat),q5j b x5 x8 (x8 < b.lines.length))))
 (o24:q5f b c (∀ (x5:Nat),q5g b x5 (∀ (x8:Nat),q5j b x5 x8 (inI ((x8:Int) + 1)))))
 (o25:q5f b c (∀ (x5:Nat),q5g b x5 (∀ (x8:Nat),q5j b x5 x8 ((x8:Int) + 1=(↑(x8 + 1):Int)))))
 (o26:q5f b c (∀ (x5:Nat),q5g b x5 (∀ (x8:Nat),q5j b x5 x8 (∀ (i31:Nat),i31 < b.lines.length->Decidable.rec (fun (h:¬i31=x8)=>[iv (rowL8 b x5 x8 i31)]) (fun (h:i31=x8)=>[iv (lnB b x8).lo] ++ []) (instDecidableEqNat i31 x8) = [iv (rowL8 b x5 (x8 + 1) i31)]))))
 (o27:q5f b c (∀ (x5:Nat),q5g b x5 (∀ (x8:Nat),q5j b x5 x8 (x8 + 1<=b.lines.length /\ ∀ (q:Nat),q < x8 + 1->(trN b x5).getD q 0=(lnB b q).hi))))
 (o28:q5f b c (∀ (x5:Nat),q5g b x5 (∀ (x8:Nat),q5j b x5 x8 (b.lines.length - (x8 + 1) < b.lines.length - x8))))
 (o29:q5f b c (∀ (x5:Nat),q5g b x5 (∀ (x8:Nat),q5k b x5 x8 (decide ((x8:Int)=(↑(b.lines.length):Int))=true->(↑(soTo b c (x5 + 1)):Int)=(↑(soTo b c (nTr b)):Int)))))
 (o30:q5f b c (∀ (x5:Nat),q5g b x5 (∀ (x8:Nat),q5k b x5 x8 (decide ((x8:Int)=(↑(b.lines.length):Int))=true->(↑(x5 + 1):Int) - (↑(soTo b c (x5 + 1)):Int)=(↑(nTr b):Int) - (↑(soTo b c (nTr b)):Int)))))
 (o31:q5f b c (∀ (x5:Nat),q5g b x5 (∀ (x8:Nat),q5l b x5 x8 (0<=(x8:Int)))))
 (o32:q5f b c (∀ (x5:Nat),q5g b x5 (∀ (x8:Nat),q5l b x5 x8 ((x8:Int) < (↑(b.lines.length):Int)))))
 (o33:q5f b c (∀ (x5:Nat),q5g b x5 (∀ (x8:Nat),q5l b x5 x8 (x8 < b.lines.length))))
 (o34:q5f b c (∀ (x5:Nat),q5g b x5 (∀ (x8:Nat),q5l b x5 x8 (inI (rowL8 b x5 x8 x8 + 1)))))
 (o35:q5f b c (∀ (x5:Nat),q5g b x5 (∀ (x8:Nat),q5l b x5 x8 (0<=(x8:Int)))))
 (o36:q5f b c (∀ (x5:Nat),q5g b x5 (∀ (x8:Nat),q5l b x5 x8 ((x8:Int) < (↑(b.lines.length):Int)))))
 (o37:q5f b c (∀ (x5:Nat),q5g b x5 (∀ (x8:Nat),q5l b x5 x8 (x8 < b.lines.length))))
 (o38:q5f b c (∀ (x5:Nat),q5g b x5 (∀ (x8:Nat),q5l b x5 x8 (b.lines.length=(trN b (x5 + 1)).length))))
 (o39:q5f b c (∀ (x5:Nat),q5g b x5 (∀ (x8:Nat),q5l b x5 x8 (∀ (i34:Nat),i34 < b.lines.length->Decidable.rec (fun (h:¬i34=x8)=>[iv (rowL8 b x5 x8 i34)]) (fun (h:i34=x8)=>[iv (rowL8 b x5 x8 x8 + 1)] ++ []) (instDecidableEqNat i34 x8) = [iv ((trN b (x5 + 1)).getD i34 0)]))))
 (o40:q5f b c (∀ (x5:Nat),q5g b x5 (∀ (x8:Nat),q5l b x5 x8 (x5 + 1 < nTr b))))
 (o41:q5f b c (∀ (x5:Nat),q5g b x5 (∀ (x8:Nat),q5l b x5 x8 (nTr b - (x5 + 1) < nTr b - x5))))
 (o42:q5f b c (∀ (j3:Nat),q5m b j3 ((okBook b && isCt b c)=true)))
 (o43:q5f b c (∀ (j3:Nat),q5m b j3 (SoundB b)))
 (o44:q5f b c (∀ (j3:Nat),q5m b j3 (GoodLn b (trN b j3))))
 (o45:q5f b c (∀ (j3:Nat),q5m b j3 ((boughtB b (trN b j3)).length<=65536)))
 (o46:q5f b c (∀ (j3:Nat),q5m b j3 (hasG (boughtB b (trN b j3)) c=true->inI ((↑(soTo b c j3):Int) + 1))))
 (o47:q5f b c (∀ (j3:Nat),q5m b j3 (hasG (boughtB b (trN b j3)) c=true->(↑(soTo b c j3):Int) + 1=(↑(soTo b c (j3 + 1)):Int))))
 (o48:q5f b c (∀ (j3:Nat),q5m b j3 (hasG (boughtB b (trN b j3)) c=true->(j3:Int) - (↑(soTo b c j3):Int)=(↑(j3 + 1):Int) - (↑(soTo b c (j3 + 1)):Int))))
 (o49:q5f b c (∀ (j3:Nat),q5m b j3 (hasG (boughtB b (trN b j3)) c=false->inI ((j3:Int) - (↑(soTo b c j3):Int) + 1))))
 (o50:q5f b c (∀ (j3:Nat),q5m b j3 (hasG (boughtB b (trN b j3)) c=false->(↑(soTo b c j3):Int)=(↑(soTo b c (j3 + 1)):Int))))
 (o51:q5f b c (∀ (j3:Nat),q5m b j3 (hasG (boughtB b (trN b j3)) c=false->(j3:Int) - (↑(soTo b c j3):Int) + 1=(↑(j3 + 1):Int) - (↑(soTo b c (j3 + 1)):Int))))
 (o52:q5f b c (decide (0=(↑(soTo b c (nTr b)):Int))=true->2=buyN b c))
 (o53:q5f b c (decide (0=(↑(soTo b c (nTr b)):Int))=true->0=openE b (isCt b c)))
 (o54:q5n b c (decide (0=(↑(nTr b):Int) - (↑(soTo b c (nTr b)):Int))=true->1=buyN b c))
 (o55:q5n b c (decide (0=(↑(nTr b):Int) - (↑(soTo b c (nTr b)):Int))=true->0=openE b (isCt b c)))
 (o56:q5n b c (decide (0=(↑(nTr b):Int) - (↑(soTo b c (nTr b)):Int))=false->3=buyN b c))
 (o57:q5n b c (decide (0=(↑(nTr b):Int) - (↑(soTo b c (nTr b)):Int))=false->0=openE b (isCt b c))) :
  Triple Try.prog 42 (s42 b c):=by
 refine triple_of Try.func42 rfl Try.call42 T0_ok _ rfl rfl rfl rfl (Nat.le_of_ble_eq_true (by kernel_rfl)) (fun _ _ _ _ h=>h) ?_
 intro hpre C hC _ hE
 obtain ⟨P,w0,E0,av,hA,ro,df⟩:=C
 obtain ⟨rfl,rfl,rfl⟩:=hC
 refine swp_seq ?_
 refine zC ([(1,focB8)]) [2,3] [0] (Ak 4 tv) ?_
 refine swp_seq ?_
 refine zC ([(3,CallSpec.eq (s73 b c) [true,true]),(4,CallSpec.eq (s58 b (isCt b c)) [true,true])]) [3,6,7] [96] (Ak 3 (An (An (An (zr (AV.agg (cBk b))) (An (zr (iv c)) tv)) (An (t73 (b) (c)) (An (o0 hpre) (Ak 1 (fun (i0:Env)=>tv))))) (An (An (An (zr (AV.agg (cBk b))) (An (zr (bv (isCt b c))) tv)) (An (t58 (b) (isCt b c)) (An hpre (Ak 1 (fun (i1:Env)=>tv))))) (Ak 6 tv)))) ?_
 refine swp_seq ?_
 refine swp_seq ?_
 refine zR [3,6,7,20] [96] (Ak 2 tv) ?_
 refine zI (!decide (openE b (isCt b c)=0)) (fun y2 => ?_) (fun y2 => ?_)
 ·refine swp_seq ?_
  refine zR [4,5] [] (Ak 3 tv) ?_
  refine swp_ret ?_
  exact zT [] (An (Ak 2 tv) (An (An (An (ci (o1 hpre y2)) (zr nilN)) (An (An (zr (iv (openE b (isCt b c)))) (zr nilN)) tv)) (An (zr true) (An (zr true) (zr true)))))
 ·refine swp_skip ?_
  refine swp_seq ?_
  refine zR [3,6,8,9] [96,136,144] (Ak 4 tv) ?_
  refine swp_seq ?_
  refine swp_seq ?_
  refine zR [3,6,8,9,23] [96,136,144] (Ak 1 (An (o2 hpre y2) tv)) ?_
  refine swp_block ?_
  refine zGm (r42 b c) 184 2000184 0 [3,6,8,9] (cWk b) Try.func76 Try.call76 rfl (fun C hC hY3 hE => ?_) (fun (j3:Nat) hj3 hp3 C hC hE => ?_) ?_
  ·obtain ⟨P,w0,E0,av,hA,ro,df⟩:=C
   subst hC
   refine swp_seq ?_
   refine zC ([(1,CallSpec.eq (c42e b c 192) [true])]) [0,1,4,5] [96,136,144,192,193] (Ak 1 (An (An (An (zr (AV.rp (cWk b))) tv) (An (t95o (b) (192)) (An (o3 hpre y2) (Ak 1 (fun (i4:Env)=>tv))))) (Ak 5 tv))) ?_
   refine swp_block ?_
   refine zL (Hint.ann (h42a b c) [(0,AV.rp (cWk b)),(1,AV.fn 0),(5,AV.vec 193)] [(193,OB.vec 3 1 (highsB b).length fun (i:Nat)=>[iv ((highsB b).getD i 0)])] 10240) (zEn 184 hE [] [(96,.same 96),(136,.same 136),(144,.same 144),(193,.same 193),(5000,.same 192)] [0,1] [193,96] (An (An (An (zr (AV.rp (cWk b))) (zr true)) (An (An (zr (AV.fn 0)) (zr true)) (An (zr (some (Src.same 193))) (An (zr (some (Src.same 192))) tv)))) (An (An (An (zr (OB.vec 3 1 (highsB b).length fun (i:Nat)=>[iv ((highsB b).getD i 0)])) (zr true)) (An (An (zr (OB.cells 85 [AV.opt (okBook b && isCt b c) (cWk b)])) (zr true)) (An (An (zr 3) (An (An (An (ci (o4 hpre y2)) (zr nilN)) tv) (zr true))) (An (An (zr 3) (An (An (An (ci (o5 hpre y2)) (zr nilN)) tv) (zr true))) (An (An (zr 3) (An (zr 1) (An (o6 hpre y2) (fun (i6:Nat)=>(fun (y7:i6 < (lowsB b).length)=>(o7 hpre y2 i6 y7)))))) tv))))) (An (zr true) (zr true))))) (o8 hpre y2) (fun (x5:Nat) hx5 => ?_)
   refine swp_block ?_
   refine swp_seq ?_
   refine swp_seq ?_
   refine zC ([(2,CallSpec.eq (y42 b c x5) [true])]) [0,1,5,4,15] [96,136,144,193,5000] (Ak 2 (An (An (An (zr (AV.vec 5000)) tv) (An (hY3 x5 hx5) (Ak 1 (An (zr (some (OB.cells 85 [AV.opt (okBook b && isCt b c) (cWk b)]))) (An (zr (some (OB.cells 3 [iv (↑(soTo b c x5):Int)]))) (An (zr (some (OB.cells 3 [iv ((x5:Int) - (↑(soTo b c x5):Int))]))) (An (zr (some (OB.vec 3 1 (trN b x5).length fun (i:Nat)=>[iv ((trN b x5).getD i 0)]))) tv))))))) (Ak 1 tv))) ?_
   refine zf ?_
   refine swp_skip ?_
   refine swp_seq ?_
   refine zR [0,1,5,4,6] [96,136,144,193,5000] (Ak 1 tv) ?_
   refine swp_seq ?_
   refine swp_block ?_
   refine zL (Hint.ann (h42b b c x5) [(0,AV.rp (cWk b)),(1,AV.fn 0),(5,AV.vec 193),(4,AV.vec 5000)] [(96,OB.cells 85 [AV.opt (okBook b && isCt b c) (cWk b)]),(136,OB.cells 3 [iv (↑(soTo b c (x5 + 1)):Int)]),(144,OB.cells 3 [iv ((↑(x5 + 1):Int) - (↑(soTo b c (x5 + 1)):Int))]),(193,OB.vec 3 1 (highsB b).length fun (i:Nat)=>[iv ((highsB b).getD i 0)])] 20280) (zEn 184 hE [] [(96,.same 96),(136,.same 136),(144,.same 144),(193,.same 193),(5000,.same 5000)] [0,1] [96,136,144,193] (An (An (An (zr (AV.rp (cWk b))) (zr true)) (An (An (zr (AV.fn 0)) (zr true)) (An (zr (some (Src.same 193))) (An (zr (some (Src.same 5000))) (An (An (ci (o9 hpre y2 x5 hx5)) (zr nilN)) tv))))) (An (An (An (zr (OB.cells 85 [AV.opt (okBook b && isCt b c) (cWk b)])) (zr true)) (An (An (zr (OB.cells 3 [iv (↑(soTo b c (x5 + 1)):Int)])) (zr true)) (An (An (zr (OB.cells 3 [iv ((↑(x5 + 1):Int) - (↑(soTo b c (x5 + 1)):Int))])) (zr true)) (An (An (zr (OB.vec 3 1 (highsB b).length fun (i:Nat)=>[iv ((highsB b).getD i 0)])) (zr true)) (An (An (zr 3) (An (zr 1) (An (o10 hpre y2 x5 hx5) (fun (i9:Nat)=>(fun (y10:i9 < (trN b x5).length)=>(o11 hpre y2 x5 hx5 i9 y10)))))) tv))))) (An (zr true) (zr true))))) (o12 hpre y2 x5 hx5) (fun (x8:Nat) hx8 => ?_)
   refine swp_seq ?_
   refine swp_seq ?_
   refine zR [0,1,5,4,6,30] [96,136,144,193,5000] (Ak 5 (An (fun (y11:decide ((x8:Int) < (↑(b.lines.length):Int))=true)=>(An (Ak 1 tv) tv)) (An (fun (y12:decide ((x8:Int) < (↑(b.lines.length):Int))=true)=>(An (Ak 1 tv) tv)) (An (fun (y13:decide ((x8:Int) < (↑(b.lines.length):Int))=true)=>(An (An (fun (y14:decide ((x8:Int) < (↑(b.lines.length):Int))=true)=>y13) (An (fun (y15:decide ((x8:Int) < (↑(b.lines.length):Int))=true)=>y13) tv)) (An (o13 hpre y2 x5 hx5 x8 hx8 y13) (o14 hpre y2 x5 hx5 x8 hx8 y13)))) (An (fun (y16:decide ((x8:Int) < (↑(b.lines.length):Int))=true)=>(An (An (fun (y17:decide ((x8:Int) < (↑(b.lines.length):Int))=true)=>y16) tv) (An (o15 hpre y2 x5 hx5 x8 hx8 y16) tv))) (An (fun (y18:decide ((x8:Int) < (↑(b.lines.length):Int))=true)=>(An (Ak 1 tv) tv)) (An (fun (y19:decide ((x8:Int) < (↑(b.lines.length):Int))=true)=>(An (Ak 1 tv) tv)) (An (fun (y20:decide ((x8:Int) < (↑(b.lines.length):Int))=true)=>(An (An (fun (y21:decide ((x8:Int) < (↑(b.lines.length):Int))=true)=>y20) (An (fun (y22:decide ((x8:Int) < (↑(b.lines.length):Int))=true)=>y20) tv)) (An (o16 hpre y2 x5 hx5 x8 hx8 y20) (o17 hpre y2 x5 hx5 x8 hx8 y20)))) (An (fun (y23:decide ((x8:Int) < (↑(b.lines.length):Int))=true)=>(An (An (fun (y24:decide ((x8:Int) < (↑(b.lines.length):Int))=true)=>y23) tv) (An (o18 hpre y2 x5 hx5 x8 hx8 y23) tv))) (An (fun (y25:decide ((x8:Int) < (↑(b.lines.length):Int))=true)=>(An (An (fun (y26:decide ((x8:Int) < (↑(b.lines.length):Int))=true)=>y25) (An (fun (y27:decide ((x8:Int) < (↑(b.lines.length):Int))=true)=>y25) tv)) tv)) (An (An (fun (y28:decide ((x8:Int) < (↑(b.lines.length):Int))=true)=>y28) (fun (y29:decide ((x8:Int) < (↑(b.lines.length):Int))=false)=>tv)) tv))))))))))) ?_
   refine zI (bif decide ((x8:Int) < (↑(b.lines.length):Int)) then decide (rowL8 b x5 x8 x8=(highsB b).getD x8 0) else false) (fun y30 => ?_) (fun y30 => ?_)
   ·refine swp_skip ?_
    refine swp_seq ?_
    refine swp_block ?_
    refine zR [0,1,5,4,6] [96,136,144,193,5000] (Ak 8 (An (An (o19 hpre y2 x5 hx5 x8 hx8 y30) (o20 hpre y2 x5 hx5 x8 hx8 y30)) (Ak 2 (An (An (o21 hpre y2 x5 hx5 x8 hx8 y30) (o22 hpre y2 x5 hx5 x8 hx8 y30)) (An (An (o23 hpre y2 x5 hx5 x8 hx8 y30) tv) tv))))) ?_
    refine zR [0,1,5,4,6] [96,136,144,193,5000] (Ak 1 (An (o24 hpre y2 x5 hx5 x8 hx8 y30) (Ak 1 tv))) ?_
    exact zn (zEn 184 hE [] [(96,.same 96),(136,.same 136),(144,.same 144),(193,.same 193),(5000,.same 5000)] [0,1] [96,136,144,193] (An (An (An (zr (AV.rp (cWk b))) (zr true)) (An (An (zr (AV.fn 0)) (zr true)) (An (zr (some (Src.same 193))) (An (zr (some (Src.same 5000))) (An (An (ci (o25 hpre y2 x5 hx5 x8 hx8 y30)) (zr nilN)) tv))))) (An (An (An (zr (OB.cells 85 [AV.opt (okBook b && isCt b c) (cWk b)])) (zr true)) (An (An (zr (OB.cells 3 [iv (↑(soTo b c (x5 + 1)):Int)])) (zr true)) (An (An (zr (OB.cells 3 [iv ((↑(x5 + 1):Int) - (↑(soTo b c (x5 + 1)):Int))])) (zr true)) (An (An (zr (OB.vec 3 1 (highsB b).length fun (i:Nat)=>[iv ((highsB b).getD i 0)])) (zr true)) (An (An (zr 3) (An (zr 1) (An (zr b.lines.length) (fun (i31:Nat)=>(fun (y32:i31 < b.lines.length)=>(o26 hpre y2 x5 hx5 x8 hx8 y30 i31 y32)))))) tv))))) (An (zr true) (zr true))))) (o27 hpre y2 x5 hx5 x8 hx8 y30) (o28 hpre y2 x5 hx5 x8 hx8 y30)
   ·refine swp_exit ?_
    refine swp_seq ?_
    refine swp_seq ?_
    refine zR [0,1,5,4,6,48] [96,136,144,193,5000] (Ak 4 tv) ?_
    refine zI (decide ((x8:Int)=(↑(b.lines.length):Int))) (fun y33 => ?_) (fun y33 => ?_)
    ·refine swp_ret ?_
     exact zM (zEn 184 hE [] [(96,.same 96),(136,.same 136),(144,.same 144)] [] [96] (Ak 1 (An (An (An (zr (OB.cells 85 [AV.opt (okBook b && isCt b c) (cWk b)])) (zr true)) (An (An (zr 3) (An (An (An (ci (o29 hpre y2 x5 hx5 x8 hx8 y30 y33)) (zr nilN)) tv) (zr true))) (An (An (zr 3) (An (An (An (ci (o30 hpre y2 x5 hx5 x8 hx8 y30 y33)) (zr nilN)) tv) (zr true))) tv))) (An (zr true) (zr true)))))
    ·refine swp_skip ?_
     refine zR [0,1,5,4] [96,136,144,193,5000] (Ak 2 (An (An (o31 hpre y2 x5 hx5 x8 hx8 y30 y33) (o32 hpre y2 x5 hx5 x8 hx8 y30 y33)) (An (An (o33 hpre y2 x5 hx5 x8 hx8 y30 y33) tv) (An (o34 hpre y2 x5 hx5 x8 hx8 y30 y33) (An (An (o35 hpre y2 x5 hx5 x8 hx8 y30 y33) (o36 hpre y2 x5 hx5 x8 hx8 y30 y33)) (An (An (o37 hpre y2 x5 hx5 x8 hx8 y30 y33) tv) tv)))))) ?_
     exact zn (zEn 184 hE [] [(96,.same 96),(136,.same 136),(144,.same 144),(193,.same 193),(5000,.same 5000)] [0,1] [193,96,136,144] (An (An (An (zr (AV.rp (cWk b))) (zr true)) (An (An (zr (AV.fn 0)) (zr true)) (An (zr (some (Src.same 193))) (An (zr (some (Src.same 5000))) tv)))) (An (An (An (zr (OB.vec 3 1 (highsB b).length fun (i:Nat)=>[iv ((highsB b).getD i 0)])) (zr true)) (An (An (zr (OB.cells 85 [AV.opt (okBook b && isCt b c) (cWk b)])) (zr true)) (An (An (zr (OB.cells 3 [iv (↑(soTo b c (x5 + 1)):Int)])) (zr true)) (An (An (zr (OB.cells 3 [iv ((↑(x5 + 1):Int) - (↑(soTo b c (x5 + 1)):Int))])) (zr true)) (An (An (zr 3) (An (zr 1) (An (o38 hpre y2 x5 hx5 x8 hx8 y30 y33) (fun (i34:Nat)=>(fun (y35:i34 < b.lines.length)=>(o39 hpre y2 x5 hx5 x8 hx8 y30 y33 i34 y35)))))) tv))))) (An (zr true) (zr true))))) (o40 hpre y2 x5 hx5 x8 hx8 y30 y33) (o41 hpre y2 x5 hx5 x8 hx8 y30 y33)
  ·obtain ⟨P,w0,E0,av,hA,ro,df⟩:=C
   subst hC
   refine zR [3,6,8,9,10] [96,136,144,5000] (Ak 1 tv) ?_
   intro C hC hE
   obtain ⟨P,w0,E0,av,hA,ro,df⟩:=C
   subst hC
   refine swp_block ?_
   refine swp_seq ?_
   refine zC ([(2,CallSpec.eq (c42b b c j3 6024) [false,true]),(4,CallSpec.eq (c42c b c j3) [false,true])]) [8,9,29] [96,136,144,5000] (Ak 2 (An (An (An (An (o42 hpre y2 j3 hj3 hp3) (zr (cWk b))) (An (zr (AV.vec 5000)) tv)) (An (lendT 3 5000 1 (none) (t78o (b) (trN b j3) (6024))) (An (An (o43 hpre y2 j3 hj3 hp3) (o44 hpre y2 j3 hj3 hp3)) (An (An (zr (some (OB.vec 3 1 (trN b j3).length fun (i:Nat)=>[iv ((trN b j3).getD i 0)]))) tv) (fun (i36:Env)=>tv))))) (Ak 1 (An (An (An (An (zr 1) (An (zr (boughtB b (trN b j3)).length) (fun (i37:Nat)=>(fun (y38:i37 < (boughtB b (trN b j3)).length)=>(zr ([iv ((boughtB b (trN b j3)).getD i37 0)])))))) (An (zr (iv c)) tv)) (An (t77 (boughtB b (trN b j3)) (c)) (An (o45 hpre y2 j3 hj3 hp3) (Ak 1 (fun (i39:Env)=>tv))))) tv)))) ?_
   refine zI (hasG (boughtB b (trN b j3)) c) (fun y40 => ?_) (fun y40 => ?_)
   ·refine zR [] [96,136,144,5000] (Ak 1 (An (o46 hpre y2 j3 hj3 hp3 y40) (Ak 1 tv))) ?_
    exact zN 1006000 (zEn 6000 hE [] [(96,.same 96),(136,.same 136),(144,.same 144),(5000,.same 5000)] [] [96,5000] (Ak 1 (An (An (An (zr (OB.cells 85 [AV.opt (okBook b && isCt b c) (cWk b)])) (zr true)) (An (An (zr 3) (An (An (An (ci (o47 hpre y2 j3 hj3 hp3 y40)) (zr nilN)) tv) (zr true))) (An (An (zr 3) (An (An (An (ci (o48 hpre y2 j3 hj3 hp3 y40)) (zr nilN)) tv) (zr true))) (An (An (zr (OB.vec 3 1 (trN b j3).length fun (i:Nat)=>[iv ((trN b j3).getD i 0)])) (zr true)) tv)))) (An (zr true) (zr true)))))
   ·refine zR [] [96,136,144,5000] (Ak 1 (An (o49 hpre y2 j3 hj3 hp3 y40) (Ak 1 tv))) ?_
    exact zN 1006000 (zEn 6000 hE [] [(96,.same 96),(136,.same 136),(144,.same 144),(5000,.same 5000)] [] [96,5000] (Ak 1 (An (An (An (zr (OB.cells 85 [AV.opt (okBook b && isCt b c) (cWk b)])) (zr true)) (An (An (zr 3) (An (An (An (ci (o50 hpre y2 j3 hj3 hp3 y40)) (zr nilN)) tv) (zr true))) (An (An (zr 3) (An (An (An (ci (o51 hpre y2 j3 hj3 hp3 y40)) (zr nilN)) tv) (zr true))) (An (An (zr (OB.vec 3 1 (trN b j3).length fun (i:Nat)=>[iv ((trN b j3).getD i 0)])) (zr true)) tv)))) (An (zr true) (zr true)))))
  ·refine swp_seq ?_
   refine swp_block ?_
   refine swp_seq ?_
   refine zR [9,34] [144] (Ak 3 tv) ?_
   refine zI (decide (0=(↑(soTo b c (nTr b)):Int))) (fun y41 => ?_) (fun y41 => ?_)
   ·refine swp_seq ?_
    refine zR [4,5] [] (Ak 2 tv) ?_
    refine swp_ret ?_
    exact zT [] (An (Ak 2 tv) (An (An (An (ci (o52 hpre y2 y41)) (zr nilN)) (An (An (ci (o53 hpre y2 y41)) (zr nilN)) tv)) (An (zr true) (An (zr true) (zr true)))))
   ·refine swp_seq ?_
    refine zR [37] [] (Ak 3 tv) ?_
    refine zI (decide (0=(↑(nTr b):Int) - (↑(soTo b c (nTr b)):Int))) (fun y42 => ?_) (fun y42 => ?_)
    ·refine swp_seq ?_
     refine zR [4,5] [] (Ak 2 tv) ?_
     refine swp_ret ?_
     exact zT [] (An (Ak 2 tv) (An (An (An (ci (o54 hpre y2 y41 y42)) (zr nilN)) (An (An (ci (o55 hpre y2 y41 y42)) (zr nilN)) tv)) (An (zr true) (An (zr true) (zr true)))))
    ·refine swp_skip ?_
     refine swp_seq ?_
     refine zR [4,5] [] (Ak 2 tv) ?_
     refine swp_ret ?_
     exact zT [] (An (Ak 2 tv) (An (An (An (ci (o56 hpre y2 y41 y42)) (zr nilN)) (An (An (ci (o57 hpre y2 y41 y42)) (zr nilN)) tv)) (An (zr true) (An (zr true) (zr true)))))
theorem bought_len (b:Book) (ls:List Int):(boughtB b ls).length<=b.ctrs.length:=by
 unfold boughtB; exact Nat.le_trans (List.length_filterMap_le _ _) (by rw [List.length_range]; omega)
theorem trN_len (b:Book) (i:Nat):(trN b i).length=b.lines.length:=lineN_len _ _
theorem tr_zero (b:Book) {q:Nat} (h:q < b.lines.length):(trN b 0).getD q 0=(lnB b q).lo:=lineN_zero q h
theorem t42 (b:Book) (c:Int):Triple Try.prog 42 (s42 b c):=by
  apply w42
  all_goals (try delta q5e q5f q5g q5h q5i q5j q5k q5l q5m q5n)
  case o0=>exact fun hp=>small_fitsB hp
  all_goals (intro hp h; rw [open_ok8] at h)
  case o1=>simp only [Bool.not_eq_true'] at h; unfold buyN; rw [h]; rfl
  all_goals (simp only [Bool.not_eq_false'] at h; have hh:=h; rw [Bool.and_eq_true] at hh; have hs:=ok_soundB hh.1; have hct:=isCt_iff.1 hh.2; have hln:=hs.lines; have hris:=hs.ris; have hnt:=nTr_le hs; have hnp:=nTr_pos hs)
  case o2=>exact h
  case o3=>exact hs
  case o4 | o5=>all_goals rfl
  case o6=>rw [lows_len,trN_len]
  case o7=>intro i hi; rw [lows_len] at hi; rw [lows_get hi,tr_zero b hi]
  case o8=>exact hnp
  case o52=>intro h0; have:=of_decide_eq_true h0; unfold buyN buyB; rw [h,if_pos rfl,if_pos (by omega)]
  case o53 | o55 | o57=>all_goals (intros; exact (open_zero h).symm)
  case o54=>intro h0 h1; have:=of_decide_eq_false h0; have h1:=of_decide_eq_true h1; have hle:=soTo_le b c (nTr b); unfold buyN buyB; rw [h,if_pos rfl,if_neg (by omega),if_pos (by omega)]
  case o56=>intro h0 h1; have:=of_decide_eq_false h0; have h1:=of_decide_eq_false h1; have hle:=soTo_le b c (nTr b); unfold buyN buyB; rw [h,if_pos rfl,if_neg (by omega),if_neg (by omega)]
  case o42=>intros; exact h
  case o43=>intros; exact hs
  case o44=>intro j hj _; exact tr_good hs j
  case o45=>intro j hj _; exact Nat.le_trans (bought_len b _) (by have:=hs.ctrs; omega)
  case o46 | o47 | o48 | o49 | o50 | o51=>all_goals (
    intro j hj _ hb
    have hb:isIn (boughtB b (trN b j)) c=_:=hb
    have h1:=soTo_succ b c j
    rw [hb] at h1
    have h2:=soTo_le b c j
    simp only [if_true,if_false,Bool.false_eq_true] at h1
    first | omega | (simp only [inI]; omega))
  all_goals (intro x hx)
  case o9=>rfl
  case o10=>exact trN_len b x
  case o11=>intro i _; rfl
  case o12=>exact ⟨Nat.zero_le _,fun q hq=>absurd hq (Nat.not_lt_zero _)⟩
  all_goals (rintro n ⟨hn,hfull⟩ hc)
  all_goals (have hhl:=highs_len b)
  case o13 | o14 | o15 | o16 | o17 | o18=>all_goals (have:=of_decide_eq_true hc; omega)
  case o19 | o20 | o21 | o22 | o23 | o24 | o25 | o26 | o27 | o28=>all_goals (
    rw [Bool.cond_false_right,Bool.and_eq_true,decide_eq_true_eq,decide_eq_true_eq] at hc
    obtain ⟨hc1,hc2⟩:=hc
    first
    | omega
    | (simp only [inI]; omega)
    | (intro i hi
       unfold rowL8 rowL
       refine rec_ei8 (fun h => ?_) (fun h => ?_)
       · by_cases hin:i < n
         · rw [if_pos hin,if_pos (by omega)]
         · rw [if_neg hin,if_neg (by omega)]
       · rw [h,if_pos (by omega)]; rfl)
    | (refine ⟨by omega,lt_succ_cases hfull ?_⟩
       unfold rowL8 rowL at hc2
       rw [if_neg (Nat.lt_irrefl n),highs_get (by omega)] at hc2
       exact hc2))
  case o29 | o30=>all_goals (
    intro h0
    have h0:=of_decide_eq_true h0
    have:=lineN_full hris hx (fun q hq=>hfull q (by omega))
    have e:x + 1=nTr b:=this
    rw [e])
  all_goals (intro h0; have h0:=of_decide_eq_false h0; have hnl:n < b.lines.length:=by omega)
  all_goals (rw [Bool.cond_false_right,decide_eq_true (show (n:Int) < b.lines.length by omega),Bool.true_and,decide_eq_false_iff_not] at hc; unfold rowL8 rowL at hc; rw [if_neg (Nat.lt_irrefl n),highs_get hnl] at hc)
  all_goals (obtain ⟨g1,g2⟩:=lineN_next hris hx hnl hfull hc)
  case o34 =>
    have h1:=(tr_in hs x).2 n hnl
    have h2:=hs.line n hnl
    unfold rowL8 rowL
    rw [if_neg (Nat.lt_irrefl n)]
    show inI ((trN b x).getD n 0 + 1)
    simp only [inI]; omega
  case o38=>exact (trN_len b _).symm
  case o39 =>
    intro i hi
    show _ = [iv ((lineN b.lines (x + 1)).getD i 0)]
    rw [g2 i hi]
    unfold rowL8 rowL
    refine rec_ei8 (fun h => ?_) (fun h => ?_)
    · rw [if_neg h]
    · rw [if_pos h,if_neg (Nat.lt_irrefl n),h]; rfl
  case o40=>exact g1
  all_goals (first | omega | (have:x + 1 < nTr b:=g1; omega))
end Go.Ab
namespace Go.Sh
open Go.Ab
end Go.Sh
namespace Go.Ab
open Go Go.RowKit Go.Proofs Go.Sh Go.En
def ou16 (b:Book):OutSpec:={ args:=[vBk b],pre:=smallB b,res := .agg [.vec 0,.vec 1,iv b.rate,iv b.rep,.vec 2],hout:=[(0,.vec 63 2 b.lines.length (fun i=>cSpan (lnB b i))),(1,.vec 70 3 b.shown.length (fun i=>cShn (shB b i))),(2,.vec 53 4 b.ctrs.length (fun i=>cCtr (ctB b i)))] }
def s16o (b:Book) (id:Nat):CallSpec:=(ou16 b).at [(0,id),(1,id + 1),(2,id + 2)]
end Go.Ab
namespace Go.Ab
open Go Go.RowKit Go.Proofs Go.Sh Go.En
theorem sound_smallB {b:Book} (hs:SoundB b):smallB b:=by
 have h1:=hs.lines
 have h2:=hs.shown
 have h3:=hs.ctrs
 exact ⟨by omega,by omega,by omega⟩
theorem wo16 (b:Book)
  (o0:smallB b->0 + List.length (Book.lines b)<=65536)
  (o1:smallB b->0 + List.length (Book.shown b)<=65536)
  (o2:smallB b->0 + List.length (Book.ctrs b)<=65536)
  (o3:smallB b->0 + b.lines.length=b.lines.length)
  (o4:smallB b->0 + b.shown.length=b.shown.length)
  (o5:smallB b->0 + b.ctrs.length=b.ctrs.length)
  (l:List (Nat × Nat)) (hl:l.map (·.1)=(OutSpec.hout (ou16 b)).map (·.1)) (hnd:(l.map (·.2)).Nodup) :
  Triple Try.prog 16 (OutSpec.at (ou16 b) l):=by
 refine triple_out Try.func16 rfl Try.call16 T0_ok _ _ _ _ l rfl (Nat.le_of_ble_eq_true (by kernel_rfl)) hl hnd (by kernel_rfl) (by kernel_rfl) (by kernel_rfl) ?_
 intro hpre C hC hE
 obtain ⟨P,w0,E0,av,hA,ro,df⟩:=C
 obtain ⟨rfl,rfl,rfl⟩:=hC
 refine swp_seq ?_
 refine zR [1,2] [0,8] (Ak 2 tv) ?_
 refine swp_seq ?_
 refine zR [2] [8,40,72,136] (Ak 3 (An (o0 hpre) (Ak 3 (An (o1 hpre) (Ak 7 (An (o2 hpre) (Ak 2 tv))))))) ?_
 refine swp_ret ?_
 exact zO (ASt.mk [(2,AV.ptr 90 [])] [(90,OB.cells 26 [AV.vec 0,AV.vec 1,iv b.rate,iv b.rep,AV.vec 2]),(0,OB.vec 63 2 b.lines.length fun (i:Nat)=>cSpan (lnB b i)),(1,OB.vec 70 3 b.shown.length fun (i:Nat)=>cShn (shB b i)),(2,OB.vec 53 4 b.ctrs.length fun (i:Nat)=>cCtr (ctB b i))] 100) (zE hE [] [(90,.same 8),(0,.same 40),(1,.same 72),(2,.same 136)] [] [] (An (An (An (zr (some (Src.same 8))) (zr nilP)) tv) (An (An (An (zr 26) (An (An (zr (some (Src.same 40))) (An (zr (some (Src.same 72))) (An (An (zr (iv b.rate)) (zr nilN)) (An (An (zr (iv b.rep)) (zr nilN)) (An (zr (some (Src.same 136))) tv))))) (zr true))) (An (An (zr 63) (An (zr 2) (An (o3 hpre) (fun (i0:Nat)=>(fun (y1:i0 < 0 + b.lines.length)=>(zr (cSpan (lnB b i0)))))))) (An (An (zr 70) (An (zr 3) (An (o4 hpre) (fun (i2:Nat)=>(fun (y3:i2 < 0 + b.shown.length)=>(zr (cShn (shB b i2)))))))) (An (An (zr 53) (An (zr 4) (An (o5 hpre) (fun (i4:Nat)=>(fun (y5:i4 < 0 + b.ctrs.length)=>(zr (cCtr (ctB b i4)))))))) tv)))) (An (zr true) (zr true))))) (An (Ak 1 tv) (An (zr (AV.agg [AV.vec 0,AV.vec 1,iv b.rate,iv b.rep,AV.vec 2])) (An (zr (some (OB.vec 63 2 b.lines.length fun (i:Nat)=>cSpan (lnB b i)))) (An (zr (some (OB.vec 70 3 b.shown.length fun (i:Nat)=>cShn (shB b i)))) (An (zr (some (OB.vec 53 4 b.ctrs.length fun (i:Nat)=>cCtr (ctB b i)))) tv)))))
theorem to16 (b:Book) (l:List (Nat × Nat)) (hl:l.map (·.1) = [0,1,2]) (hnd:(l.map (·.2)).Nodup):Triple Try.prog 16 ((ou16 b).at l):=by
 apply wo16 (l:=l) (hl:=hl) (hnd:=hnd)
 all_goals (rintro ⟨a1,a2,a3⟩; omega)
theorem t16o (b:Book) (id:Nat):Triple Try.prog 16 (s16o b id):=to16 b _ rfl (by simp)
end Go.Ab
namespace Go.Sh
open Go.Ab
def exB:Book:=⟨[⟨2,3⟩,⟨4,4⟩],[⟨0,1,0⟩,⟨0,1,2⟩,⟨0,2,0⟩,⟨1,2,0⟩,⟨1,5,1⟩],3,2,[⟨1,2,8,15⟩,⟨2,7,20,20⟩]⟩
def exD:List Sday:=[⟨0,1⟩,⟨1,5⟩,⟨0,1⟩,⟨1,1⟩]
def prodTo (b:Book) (i:Nat):Int:=(prodW (b.lines.take i):Nat)
def farB (b:Book):Bool:=hugeB b || (okBook b && (decide (prodTo b b.lines.length > 12) || decide (((stds b).length:Int) > 4)))
def readyB (b:Book):Bool := !farB b && okBook b
def gvnB (b:Book) (ls:List Int):Bool:=readyB b && decide ((ls.length:Int)<=40) && areLnB b ls
structure NewC where
 ctr:Int
 more:Ctr
 cheap:Int
 room:Int
structure DearX where
 times:Int
 ctr:Int
end Go.Sh
namespace Go.En
open Go Go.Ab Go.Sh
end Go.En
namespace Go.Ab
open Go Go.RowKit Go.Proofs Go.Sh Go.En
def s53 (a d:Int):CallSpec:={ args:=[iv a,iv d],res:=vSday ⟨a,d⟩ }
def s83 (a d e:Int):CallSpec:={ args:=[iv a,iv d,iv e],res:=vShn ⟨a,d,e⟩ }
def s51:CallSpec:={ args:=[],res:=vBk exB }
def s51o (b:Book):CallSpec:={ args:=[],res:=vBk b,pre:=b=exB }
def sw15 (b:Book):CallSpec:={ args:=[],res:=bv true,pre:=b=exB }
def s15:CallSpec:={ args:=[],res:=bv true }
def c15e (b:Book):CallSpec:=s51o b
def c15c (b:Book):CallSpec:=s21 b [2,4] [0,0,-1,-1]
def c15b (b:Book):CallSpec:=s35 b [2,4]
def c15w (b:Book):CallSpec:=s37 b [2,4] 1
def c15t (b:Book):CallSpec:=s26 b exD
def c15x (b:Book):CallSpec:=s25 (billL b [2,4]) [-1,1,1,1]
def c15y (b:Book):CallSpec:=s25 (twL b exD) [2,3]
def s71 (b:Book):CallSpec:={ args:=[vBk b],res:=bv (farB b),pre:=fitsB b }
def h71 (b:Book):Hint:={ X:=Nat,M:=fun i=>[(3,iv (prodTo b i)),(4,iv i)],I:=fun i=>i<=b.lines.length,mu:=fun i=>b.lines.length - i,x0:=(0:Nat),nx:=fun i=>i + 1 }
def s34 (b:Book):CallSpec:={ args:=[vBk b],res:=bv (readyB b),pre:=fitsB b }
def s30 (b:Book) (ls:List Int):CallSpec:={ args:=[vBk b,aInts ls],res:=bv (gvnB b ls),pre:=fitsB b/\ls.length<=big }
def s41 (b:Book):CallSpec:={ args:=[vBk b],res := .tup [vSpan (owedB b),bv true],pre:=okBook b=true }
end Go.Ab
namespace Go.Ab
open Go Go.RowKit Go.Proofs Go.Sh Go.En
theorem w53 (a:Int) (d:Int) :
  Triple Try.prog 53 (s53 a d):=by
 refine triple_of Try.func53 rfl Try.call53 T0_ok _ rfl rfl rfl rfl (Nat.le_of_ble_eq_true (by kernel_rfl)) (fun _ _ _ _ h=>h) ?_
 intro _ C hC _ hE
 obtain ⟨P,w0,E0,av,hA,ro,df⟩:=C
 obtain ⟨rfl,rfl,rfl⟩:=hC
 refine swp_seq ?_
 refine zR [0,1,4] [0] (Ak 1 tv) ?_
 refine swp_seq ?_
 refine zR [4] [0] (Ak 4 tv) ?_
 refine swp_ret ?_
 exact zT [] (An (Ak 1 tv) (An (An (An (zr (iv a)) (zr nilN)) (An (An (zr (iv d)) (zr nilN)) tv)) (An (zr true) (An (zr true) (zr true)))))
theorem t53 (a d:Int):Triple Try.prog 53 (s53 a d):=by
 apply w53
theorem w83 (a:Int) (d:Int) (e:Int) :
  Triple Try.prog 83 (s83 a d e):=by
 refine triple_of Try.func83 rfl Try.call83 T0_ok _ rfl rfl rfl rfl (Nat.le_of_ble_eq_true (by kernel_rfl)) (fun _ _ _ _ h=>h) ?_
 intro _ C hC _ hE
 obtain ⟨P,w0,E0,av,hA,ro,df⟩:=C
 obtain ⟨rfl,rfl,rfl⟩:=hC
 refine swp_seq ?_
 refine zR [0,1,2,6] [0] (Ak 1 tv) ?_
 refine swp_seq ?_
 refine zR [6] [0] (Ak 5 tv) ?_
 refine swp_ret ?_
 exact zT [] (An (Ak 1 tv) (An (An (An (zr (iv a)) (zr nilN)) (An (An (zr (iv d)) (zr nilN)) (An (An (zr (iv e)) (zr nilN)) tv))) (An (zr true) (An (zr true) (zr true)))))
theorem t83 (a d e:Int):Triple Try.prog 83 (s83 a d e):=by
 apply w83
theorem w51 
  (o0:∀ (i5:Nat),i5 < exB.lines.length->List.getD [[iv 2,iv 3],[iv 4,iv 4]] i5 (TI.za ti63)=cSpan (lnB exB i5))
  (o1:∀ (i7:Nat),i7 < exB.shown.length->List.getD [[iv 0,iv 1,iv 0],[iv 0,iv 1,iv 2],[iv 0,iv 2,iv 0],[iv 1,iv 2,iv 0],[iv 1,iv 5,iv 1]] i7 (TI.za ti70)=cShn (shB exB i7))
  (o2:3=Book.rate exB)
  (o3:2=Book.rep exB)
  (o4:∀ (i9:Nat),i9 < exB.ctrs.length->List.getD [[iv 1,iv 2,iv 8,iv 15],[iv 2,iv 7,iv 20,iv 20]] i9 (TI.za ti53)=cCtr (ctB exB i9)) :
  Triple Try.prog 51 (s51):=by
 refine triple_of Try.func51 rfl Try.call51 T0_ok _ rfl rfl rfl rfl (Nat.le_of_ble_eq_true (by kernel_rfl)) (fun _ _ _ _ h=>h) ?_
 intro _ C hC _ hE
 obtain ⟨P,w0,E0,av,hA,ro,df⟩:=C
 obtain ⟨rfl,rfl,rfl⟩:=hC
 refine swp_seq ?_
 refine zR [0] [0] (Ak 1 tv) ?_
 refine swp_seq ?_
 refine zC ([(3,CallSpec.eq (s83 0 1 0) [true,true,true]),(4,CallSpec.eq (s83 0 1 2) [true,true,true]),(5,CallSpec.eq (s83 0 2 0) [true,true,true]),(6,CallSpec.eq (s83 1 2 0) [true,true,true]),(7,CallSpec.eq (s83 1 5 1) [true,true,true])]) [0] [0,24,72,96] (Ak 3 (An (An (An (zr (iv 0)) (An (zr (iv 1)) (An (zr (iv 0)) tv))) (An (t83 (0) (1) (0)) (Ak 2 (fun (i0:Env)=>tv)))) (An (An (An (zr (iv 0)) (An (zr (iv 1)) (An (zr (iv 2)) tv))) (An (t83 (0) (1) (2)) (Ak 2 (fun (i1:Env)=>tv)))) (An (An (An (zr (iv 0)) (An (zr (iv 2)) (An (zr (iv 0)) tv))) (An (t83 (0) (2) (0)) (Ak 2 (fun (i2:Env)=>tv)))) (An (An (An (zr (iv 1)) (An (zr (iv 2)) (An (zr (iv 0)) tv))) (An (t83 (1) (2) (0)) (Ak 2 (fun (i3:Env)=>tv)))) (An (An (An (zr (iv 1)) (An (zr (iv 5)) (An (zr (iv 1)) tv))) (An (t83 (1) (5) (1)) (Ak 2 (fun (i4:Env)=>tv)))) (Ak 6 tv))))))) ?_
 refine swp_ret ?_
 exact zT [24,72,96] (An (Ak 1 tv) (An (An (An (zr 2) (An (by decide:2=exB.lines.length) (fun (i5:Nat)=>(fun (y6:i5 < exB.lines.length)=>(o0 i5 y6))))) (An (An (zr 3) (An (by decide:5=exB.shown.length) (fun (i7:Nat)=>(fun (y8:i7 < exB.shown.length)=>(o1 i7 y8))))) (An (An (ci (o2)) (zr nilN)) (An (An (ci (o3)) (zr nilN)) (An (An (zr 4) (An (by decide:2=exB.ctrs.length) (fun (i9:Nat)=>(fun (y10:i9 < exB.ctrs.length)=>(o4 i9 y10))))) tv))))) (An (zr true) (An (zr true) (zr true)))))
theorem t51:Triple Try.prog 51 s51:=by
 apply w51
 case o0 =>
  intro i hi
  have:i=0 ∨ i=1:=by simp [exB] at hi; omega
  rcases this with rfl | rfl <;> rfl
 case o1 =>
  intro i hi
  have:i=0 ∨ i=1 ∨ i=2 ∨ i=3 ∨ i=4:=by simp [exB] at hi; omega
  rcases this with rfl | rfl | rfl | rfl | rfl <;> rfl
 case o4 =>
  intro i hi
  have:i=0 ∨ i=1:=by simp [exB] at hi; omega
  rcases this with rfl | rfl <;> rfl
 all_goals rfl
theorem t51o (b:Book):Triple Try.prog 51 (s51o b):=⟨t51.1,fun h=>by cases h; exact t51.2 trivial⟩
abbrev q5o (b:Book) (P:Prop):Prop:=b=exB->(bif bif bif bif bif bif decide (costE b [2,4] [0,0,-1,-1]=0) then decide (givenE b [2,4] true=0) else false then decide (givenE b [2,4] (isCt b 1)=0) else false then decide (checkB b=0) else false then decide (openE b (isCt b 1)=0) else false then decide (twE b exD=0) else false then decide (costN b [2,4] [0,0,-1,-1]=39) else false)=true->P
abbrev q5p (b:Book) (P:Prop):Prop:=b=exB->(bif bif bif bif bif bif bif bif bif bif decide (costE b [2,4] [0,0,-1,-1]=0) then decide (givenE b [2,4] true=0) else false then decide (givenE b [2,4] (isCt b 1)=0) else false then decide (checkB b=0) else false then decide (openE b (isCt b 1)=0) else false then decide (twE b exD=0) else false then decide (costN b [2,4] [0,0,-1,-1]=39) else false then sameInts (billL b [2,4]) [-1,1,1,1] else false then decide (worthN b [2,4] 1=1) else false then decide ((owedN b).lo=26) && (decide ((owedN b).hi=29) && true) else false then decide (buyN b 1=1) else false)=true->P
theorem w15 (b:Book)
 (o0:b=exB -> ∀ (i1:Nat),i1 < List.length [2,4]->List.getD [[iv 2],[iv 4]] i1 (TI.za ti3) = [iv (List.getD [2,4] i1 0)])
 (o1:b=exB -> ∀ (i3:Nat),i3 < List.length [0,0,-1,-1]->List.getD [[iv 0],[iv 0],[iv (-1)],[iv (-1)]] i3 (TI.za ti3) = [iv (List.getD [0,0,-1,-1] i3 0)])
 (o2:b=exB->smallB b)
 (o3:b=exB -> ∀ (i6:Nat),i6 < List.length [2,4]->List.getD [[iv 2],[iv 4]] i6 (TI.za ti3) = [iv (List.getD [2,4] i6 0)])
 (o4:b=exB->smallB b)
 (o5:b=exB -> ∀ (i9:Nat),i9 < List.length [2,4]->List.getD [[iv 2],[iv 4]] i9 (TI.za ti3) = [iv (List.getD [2,4] i9 0)])
 (o6:b=exB->smallB b)
 (o7:b=exB->smallB b)
 (o8:b=exB->smallB b)
 (o9:b=exB -> ∀ (i18:Nat),i18 < exD.length->List.getD [[iv 0,iv 1],[iv 1,iv 5],[iv 0,iv 1],[iv 1,iv 1]] i18 (TI.za ti61)=cSday (exD.getD i18 default))
 (o10:b=exB->smallB b)
 (o11:q5o b (∀ (i58:Nat),i58 < List.length [-1,1,1,1]->List.getD [[iv (-1)],[iv 1],[iv 1],[iv 1]] i58 (TI.za ti3) = [iv (List.getD [-1,1,1,1] i58 0)]))
 (o12:q5o b ((billL b [2,4]).length<=big))
 (o13:q5p b (∀ (i87:Nat),i87 < List.length [2,3]->List.getD [[iv 2],[iv 3]] i87 (TI.za ti3) = [iv (List.getD [2,3] i87 0)]))
 (o14:q5p b ((twL b exD).length<=big))
 (o15:b=exB->(bif bif bif bif bif bif bif bif bif bif bif decide (costE b [2,4] [0,0,-1,-1]=0) then decide (givenE b [2,4] true=0) else false then decide (givenE b [2,4] (isCt b 1)=0) else false then decide (checkB b=0) else false then decide (openE b (isCt b 1)=0) else false then decide (twE b exD=0) else false then decide (costN b [2,4] [0,0,-1,-1]=39) else false then sameInts (billL b [2,4]) [-1,1,1,1] else false then decide (worthN b [2,4] 1=1) else false then decide ((owedN b).lo=26) && (decide ((owedN b).hi=29) && true) else false then decide (buyN b 1=1) else false then sameInts (twL b exD) [2,3] else false)=true) :
  Triple Try.prog 15 (sw15 b):=by
 refine triple_of Try.func15 rfl Try.call15 T0_ok _ rfl rfl rfl rfl (Nat.le_of_ble_eq_true (by kernel_rfl)) (fun _ _ _ _ h=>h) ?_
 intro hpre C hC _ hE
 obtain ⟨P,w0,E0,av,hA,ro,df⟩:=C
 obtain ⟨rfl,rfl,rfl⟩:=hC
 refine swp_seq ?_
 refine zR [] [] (Ak 1 tv) ?_
 refine swp_seq ?_
 refine zC ([(0,CallSpec.eq (c15e b) [])]) [1] [16] (An (Ak 1 (An (t51o (b)) (An hpre (Ak 1 (fun (i0:Env)=>tv))))) (Ak 2 tv)) ?_
 refine swp_seq ?_
 refine zC ([(3,CallSpec.eq (c15c b) [true,false,false])]) [1,2,3] [16] (Ak 3 (An (An (An (zr (AV.agg (cBk b))) (An (An (zr 1) (An (zr 2) (fun (i1:Nat)=>(fun (y2:i1 < List.length [2,4])=>(o0 hpre i1 y2))))) (An (An (zr 1) (An (zr 4) (fun (i3:Nat)=>(fun (y4:i3 < List.length [0,0,-1,-1])=>(o1 hpre i3 y4))))) tv))) (An (t21 (b) ([2,4]) ([0,0,-1,-1])) (An (An (o2 hpre) (An (by decide:List.length [2,4]<=60000) (by decide:List.length [0,0,-1,-1]<=60000))) (Ak 1 (fun (i5:Env)=>tv))))) (Ak 5 tv))) ?_
 refine swp_seq ?_
 refine zC ([(2,CallSpec.eq (c15b b) [true,false])]) [1,2,3,4,5] [16] (Ak 2 (An (An (An (zr (AV.agg (cBk b))) (An (An (zr 1) (An (zr 2) (fun (i6:Nat)=>(fun (y7:i6 < List.length [2,4])=>(o3 hpre i6 y7))))) tv)) (An (t35 (b) ([2,4])) (An (An (o4 hpre) (by decide:List.length [2,4]<=60000)) (Ak 1 (fun (i8:Env)=>tv))))) (Ak 5 tv))) ?_
 refine swp_seq ?_
 refine zC ([(2,CallSpec.eq (c15w b) [true,false,true])]) [1,2,3,4,5,6,7] [16] (Ak 2 (An (An (An (zr (AV.agg (cBk b))) (An (An (zr 1) (An (zr 2) (fun (i9:Nat)=>(fun (y10:i9 < List.length [2,4])=>(o5 hpre i9 y10))))) (An (zr (iv 1)) tv))) (An (t37 (b) ([2,4]) (1)) (An (An (o6 hpre) (by decide:List.length [2,4]<=60000)) (Ak 1 (fun (i11:Env)=>tv))))) (Ak 5 tv))) ?_
 refine swp_seq ?_
 refine zC ([(1,CallSpec.eq (s52 b) [true])]) [1,2,3,4,5,6,7,8,9] [16,272] (Ak 1 (An (An (An (zr (AV.agg (cBk b))) tv) (An (t52 (b)) (An (o7 hpre) (Ak 1 (fun (i12:Env)=>tv))))) (Ak 6 tv))) ?_
 refine swp_seq ?_
 refine zC ([(1,CallSpec.eq (s42 b 1) [true,true])]) [1,2,3,4,5,6,7,8,9,10,11] [16,272] (Ak 1 (An (An (An (zr (AV.agg (cBk b))) (An (zr (iv 1)) tv)) (An (t42 (b) (1)) (An (o8 hpre) (Ak 1 (fun (i13:Env)=>tv))))) (Ak 5 tv))) ?_
 refine swp_seq ?_
 refine zC ([(1,CallSpec.eq (s53 0 1) [true,true]),(2,CallSpec.eq (s53 1 5) [true,true]),(3,CallSpec.eq (s53 0 1) [true,true]),(4,CallSpec.eq (s53 1 1) [true,true]),(6,CallSpec.eq (c15t b) [true,false])]) [2,3,4,5,6,7,8,9,10,11,12,13] [272] (Ak 1 (An (An (An (zr (iv 0)) (An (zr (iv 1)) tv)) (An (t53 (0) (1)) (Ak 2 (fun (i14:Env)=>tv)))) (An (An (An (zr (iv 1)) (An (zr (iv 5)) tv)) (An (t53 (1) (5)) (Ak 2 (fun (i15:Env)=>tv)))) (An (An (An (zr (iv 0)) (An (zr (iv 1)) tv)) (An (t53 (0) (1)) (Ak 2 (fun (i16:Env)=>tv)))) (An (An (An (zr (iv 1)) (An (zr (iv 1)) tv)) (An (t53 (1) (1)) (Ak 2 (fun (i17:Env)=>tv)))) (Ak 1 (An (An (An (zr (AV.agg (cBk b))) (An (An (zr 2) (An (by decide:4=exD.length) (fun (i18:Nat)=>(fun (y19:i18 < exD.length)=>(o9 hpre i18 y19))))) tv)) (An (t26 (b) (exD)) (An (An (o10 hpre) (by decide:exD.length<=60000)) (Ak 1 (fun (i20:Env)=>tv))))) (Ak 5 tv)))))))) ?_
 refine swp_seq ?_
 refine zC ([(29,CallSpec.eq (c15x b) [false,false]),(47,CallSpec.eq (c15y b) [false,false])]) [0] [] (Ak 3 (An (fun (y21:decide (costE b [2,4] [0,0,-1,-1]=0)=true)=>(An (Ak 1 tv) tv)) (An (fun (y22:decide (costE b [2,4] [0,0,-1,-1]=0)=true)=>(An (An (fun (y23:decide (costE b [2,4] [0,0,-1,-1]=0)=true)=>y22) (Ak 1 tv)) tv)) (An (An (fun (y24:decide (costE b [2,4] [0,0,-1,-1]=0)=true)=>y24) (fun (y25:decide (costE b [2,4] [0,0,-1,-1]=0)=false)=>tv)) (Ak 1 (An (fun (y26:(bif decide (costE b [2,4] [0,0,-1,-1]=0) then decide (givenE b [2,4] true=0) else false)=true)=>(An (Ak 1 tv) tv)) (An (fun (y27:(bif decide (costE b [2,4] [0,0,-1,-1]=0) then decide (givenE b [2,4] true=0) else false)=true)=>(An (An (fun (y28:(bif decide (costE b [2,4] [0,0,-1,-1]=0) then decide (givenE b [2,4] true=0) else false)=true)=>y27) (Ak 1 tv)) tv)) (An (An (fun (y29:(bif decide (costE b [2,4] [0,0,-1,-1]=0) then decide (givenE b [2,4] true=0) else false)=true)=>y29) (fun (y30:(bif decide (costE b [2,4] [0,0,-1,-1]=0) then decide (givenE b [2,4] true=0) else false)=false)=>tv)) (Ak 1 (An (fun (y31:(bif bif decide (costE b [2,4] [0,0,-1,-1]=0) then decide (givenE b [2,4] true=0) else false then decide (givenE b [2,4] (isCt b 1)=0) else false)=true)=>(An (Ak 1 tv) tv)) (An (fun (y32:(bif bif decide (costE b [2,4] [0,0,-1,-1]=0) then decide (givenE b [2,4] true=0) else false then decide (givenE b [2,4] (isCt b 1)=0) else false)=true)=>(An (An (fun (y33:(bif bif decide (costE b [2,4] [0,0,-1,-1]=0) then decide (givenE b [2,4] true=0) else false then decide (givenE b [2,4] (isCt b 1)=0) else false)=true)=>y32) (Ak 1 tv)) tv)) (An (An (fun (y34:(bif bif decide (costE b [2,4] [0,0,-1,-1]=0) then decide (givenE b [2,4] true=0) else false then decide (givenE b [2,4] (isCt b 1)=0) else false)=true)=>y34) (fun (y35:(bif bif decide (costE b [2,4] [0,0,-1,-1]=0) then decide (givenE b [2,4] true=0) else false then decide (givenE b [2,4] (isCt b 1)=0) else false)=false)=>tv)) (Ak 1 (An (fun (y36:(bif bif bif decide (costE b [2,4] [0,0,-1,-1]=0) then decide (givenE b [2,4] true=0) else false then decide (givenE b [2,4] (isCt b 1)=0) else false then decide (checkB b=0) else false)=true)=>(An (Ak 1 tv) tv)) (An (fun (y37:(bif bif bif decide (costE b [2,4] [0,0,-1,-1]=0) then decide (givenE b [2,4] true=0) else false then decide (givenE b [2,4] (isCt b 1)=0) else false then decide (checkB b=0) else false)=true)=>(An (An (fun (y38:(bif bif bif decide (costE b [2,4] [0,0,-1,-1]=0) then decide (givenE b [2,4] true=0) else false then decide (givenE b [2,4] (isCt b 1)=0) else false then decide (checkB b=0) else false)=true)=>y37) (Ak 1 tv)) tv)) (An (An (fun (y39:(bif bif bif decide (costE b [2,4] [0,0,-1,-1]=0) then decide (givenE b [2,4] true=0) else false then decide (givenE b [2,4] (isCt b 1)=0) else false then decide (checkB b=0) else false)=true)=>y39) (fun (y40:(bif bif bif decide (costE b [2,4] [0,0,-1,-1]=0) then decide (givenE b [2,4] true=0) else false then decide (givenE b [2,4] (isCt b 1)=0) else false then decide (checkB b=0) else false)=false)=>tv)) (Ak 1 (An (fun (y41:(bif bif bif bif decide (costE b [2,4] [0,0,-1,-1]=0) then decide (givenE b [2,4] true=0) else false then decide (givenE b [2,4] (isCt b 1)=0) else false then decide (checkB b=0) else false then decide (openE b (isCt b 1)=0) else false)=true)=>(An (Ak 1 tv) tv)) (An (fun (y42:(bif bif bif bif decide (costE b [2,4] [0,0,-1,-1]=0) then decide (givenE b [2,4] true=0) else false then decide (givenE b [2,4] (isCt b 1)=0) else false then decide (checkB b=0) else false then decide (openE b (isCt b 1)=0) else false)=true)=>(An (An (fun (y43:(bif bif bif bif decide (costE b [2,4] [0,0,-1,-1]=0) then decide (givenE b [2,4] true=0) else false then decide (givenE b [2,4] (isCt b 1)=0) else false then decide (checkB b=0) else false then decide (openE b (isCt b 1)=0) else false)=true)=>y42) (Ak 1 tv)) tv)) (An (An (fun (y44:(bif bif bif bif decide (costE b [2,4] [0,0,-1,-1]=0) then decide (givenE b [2,4] true=0) else false then decide (givenE b [2,4] (isCt b 1)=0) else false then decide (checkB b=0) else false then decide (openE b (isCt b 1)=0) else false)=true)=>y44) (fun (y45:(bif bif bif bif decide (costE b [2,4] [0,0,-1,-1]=0) then decide (givenE b [2,4] true=0) else false then decide (givenE b [2,4] (isCt b 1)=0) else false then decide (checkB b=0) else false then decide (openE b (isCt b 1)=0) else false)=false)=>tv)) (Ak 1 (An (fun (y46:(bif bif bif bif bif decide (costE b [2,4] [0,0,-1,-1]=0) then decide (givenE b [2,4] true=0) else false then decide (givenE b [2,4] (isCt b 1)=0) else false then decide (checkB b=0) else false then decide (openE b (isCt b 1)=0) else false then decide (twE b exD=0) else false)=true)=>(An (Ak 1 tv) tv)) (An (fun (y47:(bif bif bif bif bif decide (costE b [2,4] [0,0,-1,-1]=0) then decide (givenE b [2,4] true=0) else false then decide (givenE b [2,4] (isCt b 1)=0) else false then decide (checkB b=0) else false then decide (openE b (isCt b 1)=0) else false then decide (twE b exD=0) else false)=true)=>(An (An (fun (y48:(bif bif bif bif bif decide (costE b [2,4] [0,0,-1,-1]=0) then decide (givenE b [2,4] true=0) else false then decide (givenE b [2,4] (isCt b 1)=0) else false then decide (checkB b=0) else false then decide (openE b (isCt b 1)=0) else false then decide (twE b exD=0) else false)=true)=>y47) (Ak 1 tv)) tv)) (An (An (fun (y49:(bif bif bif bif bif decide (costE b [2,4] [0,0,-1,-1]=0) then decide (givenE b [2,4] true=0) else false then decide (givenE b [2,4] (isCt b 1)=0) else false then decide (checkB b=0) else false then decide (openE b (isCt b 1)=0) else false then decide (twE b exD=0) else false)=true)=>y49) (fun (y50:(bif bif bif bif bif decide (costE b [2,4] [0,0,-1,-1]=0) then decide (givenE b [2,4] true=0) else false then decide (givenE b [2,4] (isCt b 1)=0) else false then decide (checkB b=0) else false then decide (openE b (isCt b 1)=0) else false then decide (twE b exD=0) else false)=false)=>tv)) (Ak 1 (An (fun (y51:(bif bif bif bif bif bif decide (costE b [2,4] [0,0,-1,-1]=0) then decide (givenE b [2,4] true=0) else false then decide (givenE b [2,4] (isCt b 1)=0) else false then decide (checkB b=0) else false then decide (openE b (isCt b 1)=0) else false then decide (twE b exD=0) else false then decide (costN b [2,4] [0,0,-1,-1]=39) else false)=true)=>(An (Ak 1 tv) tv)) (An (fun (y52:(bif bif bif bif bif bif decide (costE b [2,4] [0,0,-1,-1]=0) then decide (givenE b [2,4] true=0) else false then decide (givenE b [2,4] (isCt b 1)=0) else false then decide (checkB b=0) else false then decide (openE b (isCt b 1)=0) else false then decide (twE b exD=0) else false then decide (costN b [2,4] [0,0,-1,-1]=39) else false)=true)=>(An (Ak 4 tv) tv)) (An (fun (y53:(bif bif bif bif bif bif decide (costE b [2,4] [0,0,-1,-1]=0) then decide (givenE b [2,4] true=0) else false then decide (givenE b [2,4] (isCt b 1)=0) else false then decide (checkB b=0) else false then decide (openE b (isCt b 1)=0) else false then decide (twE b exD=0) else false then decide (costN b [2,4] [0,0,-1,-1]=39) else false)=true)=>(An (Ak 1 (An (fun (y54:(bif bif bif bif bif bif decide (costE b [2,4] [0,0,-1,-1]=0) then decide (givenE b [2,4] true=0) else false then decide (givenE b [2,4] (isCt b 1)=0) else false then decide (checkB b=0) else false then decide (openE b (isCt b 1)=0) else false then decide (twE b exD=0) else false then decide (costN b [2,4] [0,0,-1,-1]=39) else false)=true)=>y53) (An (fun (y55:(bif bif bif bif bif bif decide (costE b [2,4] [0,0,-1,-1]=0) then decide (givenE b [2,4] true=0) else false then decide (givenE b [2,4] (isCt b 1)=0) else false then decide (checkB b=0) else false then decide (openE b (isCt b 1)=0) else false then decide (twE b exD=0) else false then decide (costN b [2,4] [0,0,-1,-1]=39) else false)=true)=>y53) tv))) (An (An (An (zr 1) (An (zr (billL b [2,4]).length) (fun (i56:Nat)=>(fun (y57:i56 < (billL b [2,4]).length)=>(zr ([iv ((billL b [2,4]).getD i56 0)])))))) (An (An (zr 1) (An (zr 4) (fun (i58:Nat)=>(fun (y59:i58 < List.length [-1,1,1,1])=>(o11 hpre y53 i58 y59))))) tv)) (An (t25 (billL b [2,4]) ([-1,1,1,1])) (An (o12 hpre y53) (Ak 1 (fun (i60:Env)=>tv))))))) (An (An (fun (y61:(bif bif bif bif bif bif decide (costE b [2,4] [0,0,-1,-1]=0) then decide (givenE b [2,4] true=0) else false then decide (givenE b [2,4] (isCt b 1)=0) else false then decide (checkB b=0) else false then decide (openE b (isCt b 1)=0) else false then decide (twE b exD=0) else false then decide (costN b [2,4] [0,0,-1,-1]=39) else false)=true)=>y61) (fun (y62:(bif bif bif bif bif bif decide (costE b [2,4] [0,0,-1,-1]=0) then decide (givenE b [2,4] true=0) else false then decide (givenE b [2,4] (isCt b 1)=0) else false then decide (checkB b=0) else false then decide (openE b (isCt b 1)=0) else false then decide (twE b exD=0) else false then decide (costN b [2,4] [0,0,-1,-1]=39) else false)=false)=>tv)) (Ak 1 (An (fun (y63:(bif bif bif bif bif bif bif decide (costE b [2,4] [0,0,-1,-1]=0) then decide (givenE b [2,4] true=0) else false then decide (givenE b [2,4] (isCt b 1)=0) else false then decide (checkB b=0) else false then decide (openE b (isCt b 1)=0) else false then decide (twE b exD=0) else false then decide (costN b [2,4] [0,0,-1,-1]=39) else false then sameInts (billL b [2,4]) [-1,1,1,1] else false)=true)=>(An (Ak 1 tv) tv)) (An (fun (y64:(bif bif bif bif bif bif bif decide (costE b [2,4] [0,0,-1,-1]=0) then decide (givenE b [2,4] true=0) else false then decide (givenE b [2,4] (isCt b 1)=0) else false then decide (checkB b=0) else false then decide (openE b (isCt b 1)=0) else false then decide (twE b exD=0) else false then decide (costN b [2,4] [0,0,-1,-1]=39) else false then sameInts (billL b [2,4]) [-1,1,1,1] else false)=true)=>(An (An (fun (y65:(bif bif bif bif bif bif bif decide (costE b [2,4] [0,0,-1,-1]=0) then decide (givenE b [2,4] true=0) else false then decide (givenE b [2,4] (isCt b 1)=0) else false then decide (checkB b=0) else false then decide (openE b (isCt b 1)=0) else false then decide (twE b exD=0) else false then decide (costN b [2,4] [0,0,-1,-1]=39) else false then sameInts (billL b [2,4]) [-1,1,1,1] else false)=true)=>y64) (Ak 1 tv)) tv)) (An (An (fun (y66:(bif bif bif bif bif bif bif decide (costE b [2,4] [0,0,-1,-1]=0) then decide (givenE b [2,4] true=0) else false then decide (givenE b [2,4] (isCt b 1)=0) else false then decide (checkB b=0) else false then decide (openE b (isCt b 1)=0) else false then decide (twE b exD=0) else false then decide (costN b [2,4] [0,0,-1,-1]=39) else false then sameInts (billL b [2,4]) [-1,1,1,1] else false)=true)=>y66) (fun (y67:(bif bif bif bif bif bif bif decide (costE b [2,4] [0,0,-1,-1]=0) then decide (givenE b [2,4] true=0) else false then decide (givenE b [2,4] (isCt b 1)=0) else false then decide (checkB b=0) else false then decide (openE b (isCt b 1)=0) else false then decide (twE b exD=0) else false then decide (costN b [2,4] [0,0,-1,-1]=39) else false then sameInts (billL b [2,4]) [-1,1,1,1] else false)=false)=>tv)) (Ak 1 (An (fun (y68:(bif bif bif bif bif bif bif bif decide (costE b [2,4] [0,0,-1,-1]=0) then decide (givenE b [2,4] true=0) else false then decide (givenE b [2,4] (isCt b 1)=0) else false then decide (checkB b=0) else false then decide (openE b (isCt b 1)=0) else false then decide (twE b exD=0) else false then decide (costN b [2,4] [0,0,-1,-1]=39) else false then sameInts (billL b [2,4]) [-1,1,1,1] else false then decide (worthN b [2,4] 1=1) else false)=true)=>(An (Ak 1 tv) tv)) (An (fun (y69:(bif bif bif bif bif bif bif bif decide (costE b [2,4] [0,0,-1,-1]=0) then decide (givenE b [2,4] true=0) else false then decide (givenE b [2,4] (isCt b 1)=0) else false then decide (checkB b=0) else false then decide (openE b (isCt b 1)=0) else false then decide (twE b exD=0) else false then decide (costN b [2,4] [0,0,-1,-1]=39) else false then sameInts (billL b [2,4]) [-1,1,1,1] else false then decide (worthN b [2,4] 1=1) else false)=true)=>(An (Ak 2 tv) tv)) (An (fun (y70:(bif bif bif bif bif bif bif bif decide (costE b [2,4] [0,0,-1,-1]=0) then decide (givenE b [2,4] true=0) else false then decide (givenE b [2,4] (isCt b 1)=0) else false then decide (checkB b=0) else false then decide (openE b (isCt b 1)=0) else false then decide (twE b exD=0) else false then decide (costN b [2,4] [0,0,-1,-1]=39) else false then sameInts (billL b [2,4]) [-1,1,1,1] else false then decide (worthN b [2,4] 1=1) else false)=true)=>(An (An (fun (y71:(bif bif bif bif bif bif bif bif decide (costE b [2,4] [0,0,-1,-1]=0) then decide (givenE b [2,4] true=0) else false then decide (givenE b [2,4] (isCt b 1)=0) else false then decide (checkB b=0) else false then decide (openE b (isCt b 1)=0) else false then decide (twE b exD=0) else false then decide (costN b [2,4] [0,0,-1,-1]=39) else false then sameInts (billL b [2,4]) [-1,1,1,1] else false then decide (worthN b [2,4] 1=1) else false)=true)=>y70) (An (fun (y72:(bif bif bif bif bif bif bif bif decide (costE b [2,4] [0,0,-1,-1]=0) then decide (givenE b [2,4] true=0) else false then decide (givenE b [2,4] (isCt b 1)=0) else false then decide (checkB b=0) else false then decide (openE b (isCt b 1)=0) else false then decide (twE b exD=0) else false then decide (costN b [2,4] [0,0,-1,-1]=39) else false then sameInts (billL b [2,4]) [-1,1,1,1] else false then decide (worthN b [2,4] 1=1) else false)=true)=>y70) tv)) tv)) (An (An (fun (y73:(bif bif bif bif bif bif bif bif decide (costE b [2,4] [0,0,-1,-1]=0) then decide (givenE b [2,4] true=0) else false then decide (givenE b [2,4] (isCt b 1)=0) else false then decide (checkB b=0) else false then decide (openE b (isCt b 1)=0) else false then decide (twE b exD=0) else false then decide (costN b [2,4] [0,0,-1,-1]=39) else false then sameInts (billL b [2,4]) [-1,1,1,1] else false then decide (worthN b [2,4] 1=1) else false)=true)=>y73) (fun (y74:(bif bif bif bif bif bif bif bif decide (costE b [2,4] [0,0,-1,-1]=0) then decide (givenE b [2,4] true=0) else false then decide (givenE b [2,4] (isCt b 1)=0) else false then decide (checkB b=0) else false then decide (openE b (isCt b 1)=0) else false then decide (twE b exD=0) else false then decide (costN b [2,4] [0,0,-1,-1]=39) else false then sameInts (billL b [2,4]) [-1,1,1,1] else false then decide (worthN b [2,4] 1=1) else false)=false)=>tv)) (Ak 1 (An (fun (y75:(bif bif bif bif bif bif bif bif bif decide (costE b [2,4] [0,0,-1,-1]=0) then decide (givenE b [2,4] true=0) else false then decide (givenE b [2,4] (isCt b 1)=0) else false then decide (checkB b=0) else false then decide (openE b (isCt b 1)=0) else false then decide (twE b exD=0) else false then decide (costN b [2,4] [0,0,-1,-1]=39) else false then sameInts (billL b [2,4]) [-1,1,1,1] else false then decide (worthN b [2,4] 1=1) else false then decide ((owedN b).lo=26) && (decide ((owedN b).hi=29) && true) else false)=true)=>(An (Ak 1 tv) tv)) (An (fun (y76:(bif bif bif bif bif bif bif bif bif decide (costE b [2,4] [0,0,-1,-1]=0) then decide (givenE b [2,4] true=0) else false then decide (givenE b [2,4] (isCt b 1)=0) else false then decide (checkB b=0) else false then decide (openE b (isCt b 1)=0) else false then decide (twE b exD=0) else false then decide (costN b [2,4] [0,0,-1,-1]=39) else false then sameInts (billL b [2,4]) [-1,1,1,1] else false then decide (worthN b [2,4] 1=1) else false then decide ((owedN b).lo=26) && (decide ((owedN b).hi=29) && true) else false)=true)=>(An (An (fun (y77:(bif bif bif bif bif bif bif bif bif decide (costE b [2,4] [0,0,-1,-1]=0) then decide (givenE b [2,4] true=0) else false then decide (givenE b [2,4] (isCt b 1)=0) else false then decide (checkB b=0) else false then decide (openE b (isCt b 1)=0) else false then decide (twE b exD=0) else false then decide (costN b [2,4] [0,0,-1,-1]=39) else false then sameInts (billL b [2,4]) [-1,1,1,1] else false then decide (worthN b [2,4] 1=1) else false then decide ((owedN b).lo=26) && (decide ((owedN b).hi=29) && true) else false)=true)=>y76) (Ak 1 tv)) tv)) (An (An (fun (y78:(bif bif bif bif bif bif bif bif bif decide (costE b [2,4] [0,0,-1,-1]=0) then decide (givenE b [2,4] true=0) else false then decide (givenE b [2,4] (isCt b 1)=0) else false then decide (checkB b=0) else false then decide (openE b (isCt b 1)=0) else false then decide (twE b exD=0) else false then decide (costN b [2,4] [0,0,-1,-1]=39) else false then sameInts (billL b [2,4]) [-1,1,1,1] else false then decide (worthN b [2,4] 1=1) else false then decide ((owedN b).lo=26) && (decide ((owedN b).hi=29) && true) else false)=true)=>y78) (fun (y79:(bif bif bif bif bif bif bif bif bif decide (costE b [2,4] [0,0,-1,-1]=0) then decide (givenE b [2,4] true=0) else false then decide (givenE b [2,4] (isCt b 1)=0) else false then decide (checkB b=0) else false then decide (openE b (isCt b 1)=0) else false then decide (twE b exD=0) else false then decide (costN b [2,4] [0,0,-1,-1]=39) else false then sameInts (billL b [2,4]) [-1,1,1,1] else false then decide (worthN b [2,4] 1=1) else false then decide ((owedN b).lo=26) && (decide ((owedN b).hi=29) && true) else false)=false)=>tv)) (Ak 1 (An (fun (y80:(bif bif bif bif bif bif bif bif bif bif decide (costE b [2,4] [0,0,-1,-1]=0) then decide (givenE b [2,4] true=0) else false then decide (givenE b [2,4] (isCt b 1)=0) else false then decide (checkB b=0) else false then decide (openE b (isCt b 1)=0) else false then decide (twE b exD=0) else false then decide (costN b [2,4] [0,0,-1,-1]=39) else false then sameInts (billL b [2,4]) [-1,1,1,1] else false then decide (worthN b [2,4] 1=1) else false then decide ((owedN b).lo=26) && (decide ((owedN b).hi=29) && true) else false then decide (buyN b 1=1) else false)=true)=>(An (Ak 1 tv) tv)) (An (fun (y81:(bif bif bif bif bif bif bif bif bif bif decide (costE b [2,4] [0,0,-1,-1]=0) then decide (givenE b [2,4] true=0) else false then decide (givenE b [2,4] (isCt b 1)=0) else false then decide (checkB b=0) else false then decide (openE b (isCt b 1)=0) else false then decide (twE b exD=0) else false then decide (costN b [2,4] [0,0,-1,-1]=39) else false then sameInts (billL b [2,4]) [-1,1,1,1] else false then decide (worthN b [2,4] 1=1) else false then decide ((owedN b).lo=26) && (decide ((owedN b).hi=29) && true) else false then decide (buyN b 1=1) else false)=true)=>(An (Ak 2 tv) tv)) (An (fun (y82:(bif bif bif bif bif bif bif bif bif bif decide (costE b [2,4] [0,0,-1,-1]=0) then decide (givenE b [2,4] true=0) else false then decide (givenE b [2,4] (isCt b 1)=0) else false then decide (checkB b=0) else false then decide (openE b (isCt b 1)=0) else false then decide (twE b exD=0) else false then decide (costN b [2,4] [0,0,-1,-1]=39) else false then sameInts (billL b [2,4]) [-1,1,1,1] else false then decide (worthN b [2,4] 1=1) else false then decide ((owedN b).lo=26) && (decide ((owedN b).hi=29) && true) else false then decide (buyN b 1=1) else false)=true)=>(An (Ak 1 (An (fun (y83:(bif bif bif bif bif bif bif bif bif bif decide (costE b [2,4] [0,0,-1,-1]=0) then decide (givenE b [2,4] true=0) else false then decide (givenE b [2,4] (isCt b 1)=0) else false then decide (checkB b=0) else false then decide (openE b (isCt b 1)=0) else false then decide (twE b exD=0) else false then decide (costN b [2,4] [0,0,-1,-1]=39) else false then sameInts (billL b [2,4]) [-1,1,1,1] else false then decide (worthN b [2,4] 1=1) else false then decide ((owedN b).lo=26) && (decide ((owedN b).hi=29) && true) else false then decide (buyN b 1=1) else false)=true)=>y82) (An (fun (y84:(bif bif bif bif bif bif bif bif bif bif decide (costE b [2,4] [0,0,-1,-1]=0) then decide (givenE b [2,4] true=0) else false then decide (givenE b [2,4] (isCt b 1)=0) else false then decide (checkB b=0) else false then decide (openE b (isCt b 1)=0) else false then decide (twE b exD=0) else false then decide (costN b [2,4] [0,0,-1,-1]=39) else false then sameInts (billL b [2,4]) [-1,1,1,1] else false then decide (worthN b [2,4] 1=1) else false then decide ((owedN b).lo=26) && (decide ((owedN b).hi=29) && true) else false then decide (buyN b 1=1) else false)=true)=>y82) tv))) (An (An (An (zr 1) (An (zr (twL b exD).length) (fun (i85:Nat)=>(fun (y86:i85 < (twL b exD).length)=>(zr ([iv ((twL b exD).getD i85 0)])))))) (An (An (zr 1) (An (zr 2) (fun (i87:Nat)=>(fun (y88:i87 < List.length [2,3])=>(o13 hpre y82 i87 y88))))) tv)) (An (t25 (twL b exD) ([2,3])) (An (o14 hpre y82) (Ak 1 (fun (i89:Env)=>tv))))))) (An (An (fun (y90:(bif bif bif bif bif bif bif bif bif bif decide (costE b [2,4] [0,0,-1,-1]=0) then decide (givenE b [2,4] true=0) else false then decide (givenE b [2,4] (isCt b 1)=0) else false then decide (checkB b=0) else false then decide (openE b (isCt b 1)=0) else false then decide (twE b exD=0) else false then decide (costN b [2,4] [0,0,-1,-1]=39) else false then sameInts (billL b [2,4]) [-1,1,1,1] else false then decide (worthN b [2,4] 1=1) else false then decide ((owedN b).lo=26) && (decide ((owedN b).hi=29) && true) else false then decide (buyN b 1=1) else false)=true)=>y90) (fun (y91:(bif bif bif bif bif bif bif bif bif bif decide (costE b [2,4] [0,0,-1,-1]=0) then decide (givenE b [2,4] true=0) else false then decide (givenE b [2,4] (isCt b 1)=0) else false then decide (checkB b=0) else false then decide (openE b (isCt b 1)=0) else false then decide (twE b exD=0) else false then decide (costN b [2,4] [0,0,-1,-1]=39) else false then sameInts (billL b [2,4]) [-1,1,1,1] else false then decide (worthN b [2,4] 1=1) else false then decide ((owedN b).lo=26) && (decide ((owedN b).hi=29) && true) else false then decide (buyN b 1=1) else false)=false)=>tv)) (Ak 1 tv)))))))))))))))))))))))))))))))))))))))))))))))) ?_
 refine swp_ret ?_
 exact zT [] (An (Ak 1 tv) (An (An (cb (o15 hpre)) (zr nilN)) (An (zr true) (An (zr true) (zr true)))))
set_option maxRecDepth 4000
theorem x8_cost:costE exB [2,4] [0,0,-1,-1]=0/\costN exB [2,4] [0,0,-1,-1]=39:=by decide +kernel
theorem x8_bill:givenE exB [2,4] true=0/\billL exB [2,4] = [-1,1,1,1]:=by decide +kernel
theorem x8_worth:givenE exB [2,4] (isCt exB 1)=0/\worthN exB [2,4] 1=1:=by decide +kernel
theorem x8_owed:checkB exB=0/\(owedN exB).lo=26/\(owedN exB).hi=29:=by decide +kernel
theorem x8_buy:openE exB (isCt exB 1)=0/\buyN exB 1=1:=by decide +kernel
theorem x8_twice:twE exB exD=0/\twL exB exD = [2,3]:=by decide +kernel
theorem two_get (x y:Int):∀ i,i < [x,y].length->List.getD [[iv x],[iv y]] i (TI.za ti3) = [iv ([x,y].getD i 0)]:=by
 intro i hi
 have:i=0 ∨ i=1:=by simp at hi; omega
 rcases this with rfl | rfl <;> rfl
theorem four_get (x y z t:Int):∀ i,i < [x,y,z,t].length->List.getD [[iv x],[iv y],[iv z],[iv t]] i (TI.za ti3) = [iv ([x,y,z,t].getD i 0)]:=by
 intro i hi
 have:i=0 ∨ i=1 ∨ i=2 ∨ i=3:=by simp at hi; omega
 rcases this with rfl | rfl | rfl | rfl <;> rfl
theorem small_exB:smallB exB:=by unfold smallB; decide
theorem tw15 (b:Book):Triple Try.prog 15 (sw15 b):=by
 apply w15
 all_goals (try delta q5o q5p)
 all_goals (rintro rfl)
 case o0 | o3 | o5=>all_goals exact two_get 2 4
 case o1=>exact four_get 0 0 (-1) (-1)
 case o9 =>
  intro i hi
  have:i=0 ∨ i=1 ∨ i=2 ∨ i=3:=by simp [exD] at hi; omega
  rcases this with rfl | rfl | rfl | rfl <;> rfl
 case o11=>intro _; exact four_get (-1) 1 1 1
 case o13=>intro _; exact two_get 2 3
 all_goals (first | exact small_exB | skip)
 all_goals (
  obtain ⟨a1,a2⟩:=x8_cost
  obtain ⟨b1,b2⟩:=x8_bill
  obtain ⟨c1,c2⟩:=x8_worth
  obtain ⟨d1,d2,d3⟩:=x8_owed
  obtain ⟨e1,e2⟩:=x8_buy
  obtain ⟨g1,g2⟩:=x8_twice
  try simp only [a1,a2,b1,b2,c1,c2,d1,d2,d3,e1,e2,g1,g2]
  intros; first | rfl | decide)
theorem t15:Triple Try.prog 15 s15:=⟨(tw15 exB).1,fun _=>(tw15 exB).2 rfl⟩
abbrev q5q (b:Book) (P:Prop):Prop:=fitsB b->hugeB b=false->P
abbrev q5r (b:Book) (P:Prop):Prop:=q5q b ((!decide (checkB b=0))=false->P)
abbrev q5s (b:Book) (x4:Nat) (P:Prop):Prop:=x4<=b.lines.length->P
abbrev q5t (b:Book) (x4:Nat) (P:Prop):Prop:=q5s b x4 (decide ((x4:Int) < (↑(b.lines.length):Int))=true->P)
abbrev q5u (b:Book) (x4:Nat) (P:Prop):Prop:=q5s b x4 (decide ((x4:Int) < (↑(b.lines.length):Int))=false->P)
theorem w71 (b:Book)
 (o0:fitsB b->hugeB b=true->true=farB b)
 (o1:q5q b ((!decide (checkB b=0))=true->false=farB b))
 (o2:q5r b (1=prodTo b 0))
 (o3:q5r b (0=(↑0:Int)))
 (o4:q5r b (0<=b.lines.length))
 (o5:q5r b (∀ (x4:Nat),q5t b x4 (0<=(x4:Int))))
 (o6:q5r b (∀ (x4:Nat),q5t b x4 ((x4:Int) < (↑(b.lines.length):Int))))
 (o7:q5r b (∀ (x4:Nat),q5t b x4 (0<=(x4:Int))))
 (o8:q5r b (∀ (x4:Nat),q5t b x4 ((x4:Int) < (↑(b.lines.length):Int))))
 (o9:q5r b (∀ (x4:Nat),q5t b x4 (inI ((lnB b x4).hi - (lnB b x4).lo))))
 (o10:q5r b (∀ (x4:Nat),q5t b x4 (inI ((lnB b x4).hi - (lnB b x4).lo + 1))))
 (o11:q5r b (∀ (x4:Nat),q5t b x4 (inI (prodTo b x4 * ((lnB b x4).hi - (lnB b x4).lo + 1)))))
 (o12:q5r b (∀ (x4:Nat),q5t b x4 (inI ((x4:Int) + 1))))
 (o13:q5r b (∀ (x4:Nat),q5t b x4 (prodTo b x4 * ((lnB b x4).hi - (lnB b x4).lo + 1)=prodTo b (x4 + 1))))
 (o14:q5r b (∀ (x4:Nat),q5t b x4 ((x4:Int) + 1=(↑(x4 + 1):Int))))
 (o15:q5r b (∀ (x4:Nat),q5t b x4 (x4 + 1<=b.lines.length)))
 (o16:q5r b (∀ (x4:Nat),q5t b x4 (b.lines.length - (x4 + 1) < b.lines.length - x4)))
 (o17:q5r b (∀ (x4:Nat),q5u b x4 ((!decide (12 < prodTo b x4))=true->smallB b)))
 (o18:q5r b (∀ (x4:Nat),q5u b x4 (decide (12 < prodTo b x4)=false->(!decide (12 < prodTo b x4))=true)))
 (o19:q5r b (∀ (x4:Nat),q5u b x4 ((bif decide (12 < prodTo b x4) then true else decide (4 < (↑((stds b).length):Int)))=farB b))) :
  Triple Try.prog 71 (s71 b):=by
 refine triple_of Try.func71 rfl Try.call71 T0_ok _ rfl rfl rfl rfl (Nat.le_of_ble_eq_true (by kernel_rfl)) (fun _ _ _ _ h=>h) ?_
 intro hpre C hC _ hE
 obtain ⟨P,w0,E0,av,hA,ro,df⟩:=C
 obtain ⟨rfl,rfl,rfl⟩:=hC
 refine swp_seq ?_
 refine zR [1] [0] (Ak 2 tv) ?_
 refine swp_seq ?_
 refine swp_seq ?_
 refine zC ([(1,CallSpec.eq (s14 b) [true])]) [1,6] [0] (Ak 1 (An (An (An (zr (AV.agg (cBk b))) tv) (An (t14 (b)) (An hpre (Ak 1 (fun (i0:Env)=>tv))))) tv)) ?_
 refine zI (hugeB b) (fun y1 => ?_) (fun y1 => ?_)
 ·refine swp_seq ?_
  refine zR [2] [] (Ak 1 tv) ?_
  refine swp_ret ?_
  exact zT [] (An (Ak 1 tv) (An (An (cb (o0 hpre y1)) (zr nilN)) (An (zr true) (An (zr true) (zr true)))))
 ·refine swp_skip ?_
  refine swp_seq ?_
  refine swp_seq ?_
  refine zC ([(1,CallSpec.eq (s18 b) [true])]) [1,9] [0] (Ak 1 (An (An (An (zr (AV.agg (cBk b))) tv) (An (t18 (b)) (An hpre (Ak 1 (fun (i2:Env)=>tv))))) (Ak 1 tv))) ?_
  refine zI (!decide (checkB b=0)) (fun y3 => ?_) (fun y3 => ?_)
  ·refine swp_seq ?_
   refine zR [2] [] (Ak 1 tv) ?_
   refine swp_ret ?_
   exact zT [] (An (Ak 1 tv) (An (An (cb (o1 hpre y1 y3)) (zr nilN)) (An (zr true) (An (zr true) (zr true)))))
  ·refine swp_skip ?_
   refine swp_seq ?_
   refine zR [1,3] [0] (Ak 1 tv) ?_
   refine swp_seq ?_
   refine swp_seq ?_
   refine zR [1,3,4] [0] (Ak 1 tv) ?_
   refine swp_block ?_
   refine zL (Hint.ann (h71 b) [(1,AV.ptr 0 [])] [(0,OB.cells 26 (cBk b))] 10072) (zE hE [] [(0,.same 0)] [] [0] (An (An (An (zr (some (Src.same 0))) (zr nilP)) (An (An (ci (o2 hpre y1 y3)) (zr nilN)) (An (An (ci (o3 hpre y1 y3)) (zr nilN)) tv))) (An (An (An (zr (OB.cells 26 (cBk b))) (zr true)) tv) (An (zr true) (zr true))))) (o4 hpre y1 y3) (fun (x4:Nat) hx4 => ?_)
   refine swp_seq ?_
   refine swp_seq ?_
   refine zR [1,3,4,14] [0] (Ak 5 tv) ?_
   refine zI (decide ((x4:Int) < (↑(b.lines.length):Int))) (fun y5 => ?_) (fun y5 => ?_)
   ·refine swp_skip ?_
    refine swp_seq ?_
    refine swp_block ?_
    refine zR [1,3,4] [0] (Ak 4 (An (An (o5 hpre y1 y3 x4 hx4 y5) (o6 hpre y1 y3 x4 hx4 y5)) (Ak 5 (An (An (o7 hpre y1 y3 x4 hx4 y5) (o8 hpre y1 y3 x4 hx4 y5)) (Ak 2 (An (o9 hpre y1 y3 x4 hx4 y5) (An (o10 hpre y1 y3 x4 hx4 y5) (An (o11 hpre y1 y3 x4 hx4 y5) (Ak 1 tv))))))))) ?_
    refine zR [1,3,4] [0] (Ak 1 (An (o12 hpre y1 y3 x4 hx4 y5) (Ak 1 tv))) ?_
    exact zn (zE hE [] [(0,.same 0)] [] [0] (An (An (An (zr (some (Src.same 0))) (zr nilP)) (An (An (ci (o13 hpre y1 y3 x4 hx4 y5)) (zr nilN)) (An (An (ci (o14 hpre y1 y3 x4 hx4 y5)) (zr nilN)) tv))) (An (An (An (zr (OB.cells 26 (cBk b))) (zr true)) tv) (An (zr true) (zr true))))) (o15 hpre y1 y3 x4 hx4 y5) (o16 hpre y1 y3 x4 hx4 y5)
   ·refine swp_exit ?_
    refine swp_seq ?_
    refine zC ([(4,CallSpec.eq (s59 b) [true])]) [2] [] (Ak 3 (An (fun (y6:(!decide (12 < prodTo b x4))=true)=>(An (Ak 1 tv) tv)) (An (fun (y7:(!decide (12 < prodTo b x4))=true)=>(An (Ak 1 (An (fun (y8:(!decide (12 < prodTo b x4))=true)=>y7) tv)) (An (An (zr (AV.agg (cBk b))) tv) (An (t59 (b)) (An (o17 hpre y1 y3 x4 hx4 y5 y7) (Ak 1 (fun (i9:Env)=>tv))))))) (An (fun (y10:(!decide (12 < prodTo b x4))=true)=>(An (An (fun (y11:(!decide (12 < prodTo b x4))=true)=>y10) tv) tv)) (An (fun (y12:(!decide (12 < prodTo b x4))=true)=>(An (An (fun (y13:(!decide (12 < prodTo b x4))=true)=>y12) (Ak 1 tv)) tv)) (An (An (fun (y14:decide (12 < prodTo b x4)=true)=>tv) (fun (y15:decide (12 < prodTo b x4)=false)=>(o18 hpre y1 y3 x4 hx4 y5 y15))) (Ak 1 tv))))))) ?_
    refine swp_ret ?_
    exact zT [] (An (Ak 1 tv) (An (An (cb (o19 hpre y1 y3 x4 hx4 y5)) (zr nilN)) (An (zr true) (An (zr true) (zr true)))))
theorem not_huge {b:Book} (h:hugeB b=false):smallB b:=by
 unfold hugeB at h
 simp only [Bool.or_eq_false_iff,decide_eq_false_iff_not] at h
 exact ⟨by omega,by omega,by omega⟩
theorem prodW_snoc (l:List Span) (s:Span):prodW (l ++ [s])=prodW l * widS s:=by
 induction l with
 | nil=>show widS s * 1=1 * widS s; omega
 | cons x l ih=>show widS x * prodW (l ++ [s])=widS x * prodW l * widS s; rw [ih,Nat.mul_assoc]
theorem prodTo_succ {b:Book} (hs:SoundB b) {i:Nat} (h:i < b.lines.length):prodTo b (i + 1)=prodTo b i * ((lnB b i).hi - (lnB b i).lo + 1):=by
 have hl:=hs.line i h
 unfold prodTo
 rw [take_succ _ default h,prodW_snoc,Int.natCast_mul]
 congr 1
 show ((widS (lnB b i):Nat):Int)=_
 unfold widS; omega
theorem prodTo_in {b:Book} (hs:SoundB b):∀ i,i<=b.lines.length->0<=prodTo b i/\prodTo b i<=10 ^ i:=by
 intro i
 induction i with
 | zero=>intro _; show (0:Int)<=1/\(1:Int)<=1; omega
 | succ i ih =>
  intro h
  have h1:=ih (by omega)
  have hl:=hs.line i (by omega)
  rw [prodTo_succ hs (by omega),Int.pow_succ]
  have h3:(0:Int)<=10 ^ i:=Int.le_trans h1.1 h1.2
  exact ⟨Int.mul_nonneg h1.1 (by omega),Int.mul_le_mul h1.2 (by omega) (by omega) h3⟩
theorem t71 (b:Book):Triple Try.prog 71 (s71 b):=by
  apply w71
  all_goals (try delta q5q q5r q5s q5t q5u)
  case o0=>intro hp h; unfold farB; rw [h]; rfl
  all_goals (intro hp h h1; rw [chk_b] at h1)
  case o1=>simp only [Bool.not_eq_true'] at h1; unfold farB; rw [h,h1]; rfl
  all_goals (simp only [Bool.not_eq_false'] at h1; have hs:=ok_soundB h1; have hln:=hs.lines)
  case o2=>rfl
  case o4=>omega
  all_goals (intro x hx hl; simp only [decide_eq_true_eq,decide_eq_false_iff_not] at hl)
  case o17=>intro _; exact not_huge h
  case o18=>intro h2; rw [h2]; rfl
  case o19 => have : x = b.lines.length := by omega
              unfold farB; rw [h,h1,this,Bool.cond_true_left]; rfl
  case o13=>exact (prodTo_succ hs (by omega)).symm
  all_goals (have hlx:=hs.line x (by omega))
  case o11 =>
    have h2:=prodTo_in hs (x + 1) (by omega)
    rw [prodTo_succ hs (by omega)] at h2
    have h3:(10:Int) ^ (x + 1)<=1000:=by
      have:x=0 ∨ x=1 ∨ x=2:=by omega
      rcases this with rfl | rfl | rfl <;> decide
    simp only [inI]; omega
  all_goals (first | omega | (simp only [inI]; omega))
theorem w34 (b:Book)
  (o0:fitsB b->(bif !farB b then decide (checkB b=0) else false)=readyB b) :
  Triple Try.prog 34 (s34 b):=by
 refine triple_of Try.func34 rfl Try.call34 T0_ok _ rfl rfl rfl rfl (Nat.le_of_ble_eq_true (by kernel_rfl)) (fun _ _ _ _ h=>h) ?_
 intro hpre C hC _ hE
 obtain ⟨P,w0,E0,av,hA,ro,df⟩:=C
 obtain ⟨rfl,rfl,rfl⟩:=hC
 refine swp_seq ?_
 refine zR [1] [0] (Ak 2 tv) ?_
 refine swp_seq ?_
 refine zC ([(1,CallSpec.eq (s71 b) [true]),(5,CallSpec.eq (s18 b) [true])]) [2] [] (Ak 1 (An (An (An (zr (AV.agg (cBk b))) tv) (An (t71 (b)) (An hpre (Ak 1 (fun (i0:Env)=>tv))))) (Ak 2 (An (fun (y1:(!farB b)=true)=>(An (Ak 1 tv) tv)) (An (fun (y2:(!farB b)=true)=>(An (Ak 1 (An (fun (y3:(!farB b)=true)=>y2) tv)) (An (An (zr (AV.agg (cBk b))) tv) (An (t18 (b)) (An hpre (Ak 1 (fun (i4:Env)=>tv))))))) (An (fun (y5:(!farB b)=true)=>(An (An (fun (y6:(!farB b)=true)=>y5) (Ak 1 tv)) tv)) (An (An (fun (y7:(!farB b)=true)=>y7) (fun (y8:(!farB b)=false)=>tv)) (Ak 1 tv)))))))) ?_
 refine swp_ret ?_
 exact zT [] (An (Ak 1 tv) (An (An (cb (o0 hpre)) (zr nilN)) (An (zr true) (An (zr true) (zr true)))))
theorem t34 (b:Book):Triple Try.prog 34 (s34 b):=by
 apply w34
 all_goals (intro hp; first | (unfold readyB checkB; cases farB b <;> cases okBook b <;> rfl) | (intros; exact hp))
theorem w30 (b:Book) (ls:List Int)
  (o0:fitsB b/\ls.length<=big->(bif bif readyB b then decide ((↑(ls.length):Int)<=40) else false then areLnB b ls else false)=gvnB b ls) :
  Triple Try.prog 30 (s30 b ls):=by
 refine triple_of Try.func30 rfl Try.call30 T0_ok _ rfl rfl rfl rfl (Nat.le_of_ble_eq_true (by kernel_rfl)) (fun _ _ _ _ h=>h) ?_
 intro hpre C hC _ hE
 obtain ⟨P,w0,E0,av,hA,ro,df⟩:=C
 obtain ⟨rfl,rfl,rfl⟩:=hC
 refine swp_seq ?_
 refine zR [1,2] [0] (Ak 2 tv) ?_
 refine swp_seq ?_
 refine zC ([(1,CallSpec.eq (s34 b) [true]),(10,CallSpec.eq (s69 b ls) [true,false])]) [4] [] (Ak 1 (An (An (An (zr (AV.agg (cBk b))) tv) (An (t34 (b)) (An hpre.1 (Ak 1 (fun (i0:Env)=>tv))))) (Ak 1 (An (fun (y1:readyB b=true)=>(An (Ak 1 tv) tv)) (An (fun (y2:readyB b=true)=>(An (An (fun (y3:readyB b=true)=>y2) tv) tv)) (An (fun (y4:readyB b=true)=>(An (An (fun (y5:readyB b=true)=>y4) (Ak 1 tv)) tv)) (An (An (fun (y6:readyB b=true)=>y6) (fun (y7:readyB b=false)=>tv)) (Ak 1 (An (fun (y8:(bif readyB b then decide ((↑(ls.length):Int)<=40) else false)=true)=>(An (Ak 1 tv) tv)) (An (fun (y9:(bif readyB b then decide ((↑(ls.length):Int)<=40) else false)=true)=>(An (Ak 1 tv) tv)) (An (fun (y10:(bif readyB b then decide ((↑(ls.length):Int)<=40) else false)=true)=>(An (Ak 1 (An (fun (y11:(bif readyB b then decide ((↑(ls.length):Int)<=40) else false)=true)=>y10) (An (fun (y12:(bif readyB b then decide ((↑(ls.length):Int)<=40) else false)=true)=>y10) tv))) (An (An (zr (AV.agg (cBk b))) (An (An (zr 1) (An (zr ls.length) (fun (i13:Nat)=>(fun (y14:i13 < ls.length)=>(zr ([iv (ls.getD i13 0)])))))) tv)) (An (t69 (b) (ls)) (An (An hpre.1 hpre.2) (Ak 1 (fun (i15:Env)=>tv))))))) (An (An (fun (y16:(bif readyB b then decide ((↑(ls.length):Int)<=40) else false)=true)=>y16) (fun (y17:(bif readyB b then decide ((↑(ls.length):Int)<=40) else false)=false)=>tv)) (Ak 1 tv))))))))))))) ?_
 refine swp_ret ?_
 exact zT [] (An (Ak 1 tv) (An (An (cb (o0 hpre)) (zr nilN)) (An (zr true) (An (zr true) (zr true)))))
theorem t30 (b:Book) (ls:List Int):Triple Try.prog 30 (s30 b ls):=by
 apply w30
 all_goals (intro hp; first | (unfold gvnB; cases readyB b <;> cases decide ((ls.length:Int)<=40) <;> rfl) | (intros; first | exact hp | exact hp.1 | exact hp.2))
theorem w41 (b:Book)
  (o0:okBook b=true->smallB b)
  (o1:okBook b=true->(owedN b).lo=(owedB b).lo)
  (o2:okBook b=true->(owedN b).hi=(owedB b).hi)
  (o3:okBook b=true->(bif bif bif decide (checkB b=0) then decide (0<=(owedN b).lo) else false then decide ((owedN b).lo<=(owedN b).hi) else false then decide ((owedN b).hi<=783) else false)=true) :
  Triple Try.prog 41 (s41 b):=by
 refine triple_of Try.func41 rfl Try.call41 T0_ok _ rfl rfl rfl rfl (Nat.le_of_ble_eq_true (by kernel_rfl)) (fun _ _ _ _ h=>h) ?_
 intro hpre C hC _ hE
 obtain ⟨P,w0,E0,av,hA,ro,df⟩:=C
 obtain ⟨rfl,rfl,rfl⟩:=hC
 refine swp_seq ?_
 refine zR [1,2] [0,8] (Ak 3 tv) ?_
 refine swp_seq ?_
 refine zC ([(1,CallSpec.eq (s52 b) [true])]) [2,4,5] [8,64] (Ak 1 (An (An (An (zr (AV.agg (cBk b))) tv) (An (t52 (b)) (An (o0 hpre) (Ak 1 (fun (i0:Env)=>tv))))) (Ak 6 tv))) ?_
 refine swp_seq ?_
 refine zR [2,3] [8] (Ak 4 (An (fun (y1:decide (checkB b=0)=true)=>(An (Ak 1 tv) tv)) (An (fun (y2:decide (checkB b=0)=true)=>(An (An (fun (y3:decide (checkB b=0)=true)=>y2) tv) tv)) (An (fun (y4:decide (checkB b=0)=true)=>(An (An (fun (y5:decide (checkB b=0)=true)=>y4) (Ak 1 tv)) tv)) (An (An (fun (y6:decide (checkB b=0)=true)=>y6) (fun (y7:decide (checkB b=0)=false)=>tv)) (Ak 1 (An (fun (y8:(bif decide (checkB b=0) then decide (0<=(owedN b).lo) else false)=true)=>(An (Ak 1 tv) tv)) (An (fun (y9:(bif decide (checkB b=0) then decide (0<=(owedN b).lo) else false)=true)=>(An (An (fun (y10:(bif decide (checkB b=0) then decide (0<=(owedN b).lo) else false)=true)=>y9) tv) tv)) (An (fun (y11:(bif decide (checkB b=0) then decide (0<=(owedN b).lo) else false)=true)=>(An (Ak 1 tv) tv)) (An (fun (y12:(bif decide (checkB b=0) then decide (0<=(owedN b).lo) else false)=true)=>(An (An (fun (y13:(bif decide (checkB b=0) then decide (0<=(owedN b).lo) else false)=true)=>y12) tv) tv)) (An (fun (y14:(bif decide (checkB b=0) then decide (0<=(owedN b).lo) else false)=true)=>(An (An (fun (y15:(bif decide (checkB b=0) then decide (0<=(owedN b).lo) else false)=true)=>y14) (An (fun (y16:(bif decide (checkB b=0) then decide (0<=(owedN b).lo) else false)=true)=>y14) tv)) tv)) (An (An (fun (y17:(bif decide (checkB b=0) then decide (0<=(owedN b).lo) else false)=true)=>y17) (fun (y18:(bif decide (checkB b=0) then decide (0<=(owedN b).lo) else false)=false)=>tv)) (Ak 1 (An (fun (y19:(bif bif decide (checkB b=0) then decide (0<=(owedN b).lo) else false then decide ((owedN b).lo<=(owedN b).hi) else false)=true)=>(An (Ak 1 tv) tv)) (An (fun (y20:(bif bif decide (checkB b=0) then decide (0<=(owedN b).lo) else false then decide ((owedN b).lo<=(owedN b).hi) else false)=true)=>(An (An (fun (y21:(bif bif decide (checkB b=0) then decide (0<=(owedN b).lo) else false then decide ((owedN b).lo<=(owedN b).hi) else false)=true)=>y20) tv) tv)) (An (fun (y22:(bif bif decide (checkB b=0) then decide (0<=(owedN b).lo) else false then decide ((owedN b).lo<=(owedN b).hi) else false)=true)=>(An (An (fun (y23:(bif bif decide (checkB b=0) then decide (0<=(owedN b).lo) else false then decide ((owedN b).lo<=(owedN b).hi) else false)=true)=>y22) (Ak 1 tv)) tv)) (An (An (fun (y24:(bif bif decide (checkB b=0) then decide (0<=(owedN b).lo) else false then decide ((owedN b).lo<=(owedN b).hi) else false)=true)=>y24) (fun (y25:(bif bif decide (checkB b=0) then decide (0<=(owedN b).lo) else false then decide ((owedN b).lo<=(owedN b).hi) else false)=false)=>tv)) (Ak 2 tv)))))))))))))))))) ?_
 refine swp_ret ?_
 exact zT [] (An (Ak 2 tv) (An (An (An (An (ci (o1 hpre)) (zr nilN)) (An (An (ci (o2 hpre)) (zr nilN)) tv)) (An (An (cb (o3 hpre)) (zr nilN)) tv)) (An (zr true) (An (zr true) (zr true)))))
theorem owedN_ok {b:Book} (h:okBook b=true):owedN b=owedB b:=by unfold owedN; rw [h]; rfl
theorem chk_zero {b:Book} (h:okBook b=true):checkB b=0:=by unfold checkB; rw [h]; rfl
theorem t41 (b:Book):Triple Try.prog 41 (s41 b):=by
 apply w41
 all_goals (intro hp; have hs:=ok_soundB hp; have hin:=owed_in hs)
 case o0=>exact sound_smallB hs
 all_goals (rw [owedN_ok hp])
 rw [chk_zero hp,decide_eq_true hin.1,decide_eq_true hin.2.1,decide_eq_true hin.2.2]; rfl
end Go.Ab
namespace Go.Sh
open Go.Ab
def lateSTo (b:Book) (k:Int) (i j:Nat):Shn:=if j < i then lateS k (shB b j) else shB b j
def lateCTo (b:Book) (k:Int) (i j:Nat):Ctr:=if j < i then lateC k (ctB b j) else ctB b j
end Go.Sh
namespace Go.Ab
open Go Go.RowKit Go.Proofs Go.Sh Go.En
def s13 (b:Book) (ls:List Int) (k:Int):CallSpec:={ args:=[vBk b,aInts ls,iv k],res:=bv true,pre:=fitsB b/\ls.length<=big }
def c13o (b:Book) (ls:List Int) (k:Int) (id:Nat):CallSpec:=s16o b id
def h13a (b:Book) (ls:List Int) (k:Int):Hint:={ X:=Nat,M:=fun i=>[(8,iv i)],H:=fun i=>[(97,.vec 70 3 b.shown.length (fun j=>cShn (lateSTo b k i j)))],I:=fun i=>i<=b.shown.length,mu:=fun i=>b.shown.length - i,x0:=(0:Nat),nx:=fun i=>i + 1 }
def h13b (b:Book) (ls:List Int) (k:Int):Hint:={ X:=Nat,M:=fun i=>[(10,iv i)],H:=fun i=>[(98,.vec 53 4 b.ctrs.length (fun j=>cCtr (lateCTo b k i j)))],I:=fun i=>i<=b.ctrs.length,mu:=fun i=>b.ctrs.length - i,x0:=(0:Nat),nx:=fun i=>i + 1 }
def c13p (b:Book) (ls:List Int) (k:Int):CallSpec:=s35 b ls
def c13q (b:Book) (ls:List Int) (k:Int):CallSpec:=s35 (lateB b k) ls
def h13c (b:Book) (ls:List Int) (k:Int):Hint:={ X:=Nat,M:=fun i=>[(26,iv i)],I:=fun i=>i<=(stds b).length,mu:=fun i=>(stds b).length - i,x0:=(0:Nat),nx:=fun i=>i + 1 }
end Go.Ab
namespace Go.Sh
open Go.Ab
end Go.Sh
namespace Go.Ab
open Go Go.RowKit Go.Proofs Go.Sh Go.En
def h8 (b:Book) (ls:List Int) (c:Int):Hint:={ X:=Nat,M:=fun i=>[(10,.vec 5000),(11,.vec 5001),(12,iv i)],H:=fun i=>[(5000,rowZ ((lowsB b).take i)),(5001,rowZ ((highsB b).take i))],I:=fun i=>i<=b.lines.length,mu:=fun i=>b.lines.length - i,x0:=(0:Nat),nx:=fun i=>i + 1 }
end Go.Ab
namespace Go.Sh
open Go.Ab
def dearTo (b:Book) (t:Int) (i j:Nat):Ctr:=if j < i then dearC t (ctB b j) else ctB b j
end Go.Sh
namespace Go.Ab
open Go Go.RowKit Go.Proofs Go.Sh Go.En
def s3 (b:Book) (ls l:List Int):CallSpec:={ args:=[vBk b,aInts ls,aInts l],res:=bv true,pre:=fitsB b/\ls.length<=big/\l.length<=big }
def e3 (b:Book) (ls l:List Int):List (Nat × OB):=[(176,.cells 26 (cBk b))]
def e4 (b:Book) (l:List Sday):List (Nat × OB):=[(112,.cells 26 (cBk b))]
def e5 (b:Book) (ls:List Int):List (Nat × OB):=[(10096,.cells 26 (cBk (withC b [])))]
def h6 (b:Book) (ls:List Int) (x:DearX):Hint:={ X:=Nat,M:=fun i=>[(8,iv i)],H:=fun i=>[(114,.vec 53 4 b.ctrs.length (fun j=>cCtr (dearTo b x.times i j)))],I:=fun i=>i<=b.ctrs.length,mu:=fun i=>b.ctrs.length - i,x0:=(0:Nat),nx:=fun i=>i + 1 }
def e6 (b:Book) (ls:List Int) (x:DearX):List (Nat × OB):=[(120,.cells 26 (cBk (dearB b x.times)))]
end Go.Ab
namespace Go.Ab
open Go Go.RowKit Go.Proofs Go.Sh Go.En
theorem cond1 {p q:Bool} (h:(bif p then true else q)=false):p=false/\q=false:=by cases p <;> cases q <;> simp_all
theorem big_ge:100000<=big:=by decide
theorem gvn_ok {b:Book} {ls:List Int} (h:(!gvnB b ls)=false):okBook b=true/\areLnB b ls=true/\ls.length<=40:=by
 simp only [Bool.not_eq_false'] at h
 unfold gvnB readyB at h
 simp only [Bool.and_eq_true,decide_eq_true_eq] at h
 exact ⟨h.1.1.2,h.2,by omega⟩
theorem ready_okB {b:Book} (h:(!readyB b)=false):okBook b=true:=by
 simp only [Bool.not_eq_false'] at h
 unfold readyB at h
 rw [Bool.and_eq_true] at h
 exact h.2
theorem bill_ok2 {b:Book} {ls:List Int} (h1:okBook b=true) (h2:areLnB b ls=true):billL b ls=(bestB b ls).1/\givenE b ls true=0:=by
 unfold billL givenE openE; rw [h1,h2]; exact ⟨rfl,rfl⟩
end Go.Ab
namespace Go.Ab
open Go Go.RowKit Go.Proofs Go.Sh Go.En
end Go.Ab
namespace Go.Ab
open Go Go.RowKit Go.Proofs Go.Sh Go.En
theorem late_owed {b:Book} {k:Int} (hs:SoundB b) (ho:SoundB (lateB b k)):owedB (lateB b k)=owedB b:=by
 unfold owedB
 rw [show lowsB (lateB b k)=lowsB b from rfl,show highsB (lateB b k)=highsB b from rfl,late_best hs ho (lows_good hs),late_best hs ho (highs_good hs)]
theorem late_worst {b:Book} {k:Int} (hs:SoundB b) (ho:SoundB (lateB b k)) {i:Nat} (hi:i < b.lines.length):∀ n,n<=lnN b i->worstTo (lateB b k) i n=worstTo b i n:=by
 intro n
 induction n with
 | zero=>intro _; rfl
 | succ n ih =>
  intro hn
  have hN:=lnN_int hs hi
  have hl:=hs.line i hi
  have h1:SoundB (cntB b i ((lnB b i).lo + n)):=cnt_sound hs (by omega)
  have h2:SoundB (cntB (lateB b k) i ((lnB b i).lo + n)):=cnt_sound ho (by omega)
  have e:owedB (cntB (lateB b k) i ((lnB b i).lo + n))=owedB (cntB b i ((lnB b i).lo + n)):=late_owed (b:=cntB b i ((lnB b i).lo + n)) h1 h2
  show max (worstTo (lateB b k) i n) (widB (owedB (cntB (lateB b k) i ((lnB b i).lo + n))))=max (worstTo b i n) _
  rw [ih (by omega),e]
theorem late_meas {b:Book} {k:Int} (hs:SoundB b) (ho:SoundB (lateB b k)):∀ n,n<=b.lines.length->measTo (lateB b k) n=measTo b n:=by
 intro n
 induction n with
 | zero=>intro _; rfl
 | succ n ih =>
  intro hn
  have e:worstB (lateB b k) n=worstB b n:=late_worst hs ho (by omega) _ (Nat.le_refl _)
  show (if decide ((measTo (lateB b k) n).1 < 0) || decide (worstB (lateB b k) n < (measTo (lateB b k) n).2) then ((n:Int),worstB (lateB b k) n) else measTo (lateB b k) n)=_
  rw [ih (by omega),e]; rfl
abbrev q5v (b:Book) (ls:List Int) (P:Prop):Prop:=fitsB b/\ls.length<=big->P
abbrev q5w (b:Book) (ls:List Int) (k:Int) (P:Prop):Prop:=q5v b ls ((bif !gvnB b ls then true else !within k 0 13)=false->P)
abbrev q5x (b:Book) (x12:Nat) (P:Prop):Prop:=x12<=b.shown.length->P
abbrev q5y (b:Book) (x12:Nat) (P:Prop):Prop:=q5x b x12 (decide ((x12:Int) < (↑(b.shown.length):Int))=true->P)
abbrev q5z (b:Book) (x12:Nat) (P:Prop):Prop:=q5x b x12 (decide ((x12:Int) < (↑(b.shown.length):Int))=false->P)
abbrev q60 (b:Book) (x18:Nat) (P:Prop):Prop:=x18<=b.ctrs.length->P
abbrev q61 (b:Book) (x18:Nat) (P:Prop):Prop:=q60 b x18 (decide ((x18:Int) < (↑(b.ctrs.length):Int))=true->P)
abbrev q62 (b:Book) (x18:Nat) (P:Prop):Prop:=q60 b x18 (decide ((x18:Int) < (↑(b.ctrs.length):Int))=false->P)
abbrev q63 (b:Book) (k:Int) (x18:Nat) (P:Prop):Prop:=q62 b x18 ((!readyB (lateB b k))=false->P)
abbrev q64 (b:Book) (ls:List Int) (k:Int) (x18:Nat) (P:Prop):Prop:=q63 b k x18 ((bif bif bif bif bif !decide (givenE b ls true=0) then true else !decide (givenE (lateB b k) ls true=0) then true else false then true else false then true else !(decide ((owedB b).lo=(owedB (lateB b k)).lo) && (decide ((owedB b).hi=(owedB (lateB b k)).hi) && true)) then true else !sameInts (billL b ls) (billL (lateB b k) ls))=false->P)
abbrev q65 (b:Book) (ls:List Int) (k:Int) (x18:Nat) (P:Prop):Prop:=q64 b ls k x18 ((bif bif bif bif bif !decide (measN b=measN (lateB b k)) then true else !decide (measE b=measE (lateB b k)) then true else !decide (checkB b=0) then true else !decide (checkB (lateB b k)=0) then true else !decide ((↑((if okBook b=true then stds b else []).length):Int)=(↑((if okBook (lateB b k)=true then stds (lateB b k) else []).length):Int)) then true else decide (6 < (↑((if okBook b=true then stds b else []).length):Int)))=false->P)
abbrev q66 (b:Book) (x118:Nat) (P:Prop):Prop:=x118<=(stds b).length->decide ((x118:Int) < (↑((if okBook b=true then stds b else []).length):Int))=true->P
abbrev q67 (b:Book) (k:Int) (x118:Nat) (P:Prop):Prop:=q66 b x118 ((!!decide (((if okBook b=true then stds b else []).getD x118 default).ad=((if okBook (lateB b k)=true then stds (lateB b k) else []).getD x118 default).ad))=true->P)
abbrev q68 (b:Book) (k:Int) (x118:Nat) (P:Prop):Prop:=q66 b x118 ((!bif !decide (((if okBook b=true then stds b else []).getD x118 default).ad=((if okBook (lateB b k)=true then stds (lateB b k) else []).getD x118 default).ad) then true else !within ((if okBook b=true then stds b else []).getD x118 default).day 0 13)=true->P)
abbrev q69 (b:Book) (k:Int) (x118:Nat) (P:Prop):Prop:=q66 b x118 ((bif bif !decide (((if okBook b=true then stds b else []).getD x118 default).ad=((if okBook (lateB b k)=true then stds (lateB b k) else []).getD x118 default).ad) then true else !within ((if okBook b=true then stds b else []).getD x118 default).day 0 13 then true else !decide (((if okBook (lateB b k)=true then stds (lateB b k) else []).getD x118 default).day=((if okBook b=true then stds b else []).getD x118 default).day + k))=false->P)
theorem w13 (b:Book) (ls:List Int) (k:Int)
 (o0:q5v b ls ((!gvnB b ls)=false->(!!gvnB b ls)=true))
 (o1:q5w b ls k (smallB b))
 (o2:q5w b ls k (0=(↑0:Int)))
 (o3:q5w b ls k (∀ (i13:Nat),i13 < b.shown.length->cShn (shB b i13)=cShn (lateSTo b k 0 i13)))
 (o4:q5w b ls k (0<=b.shown.length))
 (o5:q5w b ls k (∀ (x12:Nat),q5y b x12 (0<=(x12:Int))))
 (o6:q5w b ls k (∀ (x12:Nat),q5y b x12 ((x12:Int) < (↑(b.shown.length):Int))))
 (o7:q5w b ls k (∀ (x12:Nat),q5y b x12 (x12 < b.shown.length)))
 (o8:q5w b ls k (∀ (x12:Nat),q5y b x12 (inI ((lateSTo b k x12 x12).day + k))))
 (o9:q5w b ls k (∀ (x12:Nat),q5y b x12 (0<=(x12:Int))))
 (o10:q5w b ls k (∀ (x12:Nat),q5y b x12 ((x12:Int) < (↑(b.shown.length):Int))))
 (o11:q5w b ls k (∀ (x12:Nat),q5y b x12 (x12 < b.shown.length)))
 (o12:q5w b ls k (∀ (x12:Nat),q5y b x12 (inI ((x12:Int) + 1))))
 (o13:q5w b ls k (∀ (x12:Nat),q5y b x12 ((x12:Int) + 1=(↑(x12 + 1):Int))))
 (o14:q5w b ls k (∀ (x12:Nat),q5y b x12 (∀ (i16:Nat),i16 < b.shown.length->Decidable.rec (fun (h:¬i16=x12)=>cShn (lateSTo b k x12 i16)) (fun (h:i16=x12)=>[iv (lateSTo b k x12 x12).ad,iv ((lateSTo b k x12 x12).day + k),iv (lateSTo b k x12 x12).ed] ++ []) (instDecidableEqNat i16 x12)=cShn (lateSTo b k (x12 + 1) i16))))
 (o15:q5w b ls k (∀ (x12:Nat),q5y b x12 (x12 + 1<=b.shown.length)))
 (o16:q5w b ls k (∀ (x12:Nat),q5y b x12 (b.shown.length - (x12 + 1) < b.shown.length - x12)))
 (o17:q5w b ls k (∀ (x12:Nat),q5z b x12 (0=(↑0:Int))))
 (o18:q5w b ls k (∀ (x12:Nat),q5z b x12 (∀ (i19:Nat),i19 < b.ctrs.length->cCtr (ctB b i19)=cCtr (lateCTo b k 0 i19))))
 (o19:q5w b ls k (∀ (x12:Nat),q5z b x12 (0<=b.ctrs.length)))
 (o20:q5w b ls k (∀ (x12:Nat),q5z b x12 (∀ (x18:Nat),q61 b x18 (0<=(x18:Int)))))
 (o21:q5w b ls k (∀ (x12:Nat),q5z b x12 (∀ (x18:Nat),q61 b x18 ((x18:Int) < (↑(b.ctrs.length):Int)))))
 (o22:q5w b ls k (∀ (x12:Nat),q5z b x12 (∀ (x18:Nat),q61 b x18 (x18 < b.ctrs.length))))
 (o23:q5w b ls k (∀ (x12:Nat),q5z b x12 (∀ (x18:Nat),q61 b x18 (inI ((lateCTo b k x18 x18).frm + k)))))
 (o24:q5w b ls k (∀ (x12:Nat),q5z b x12 (∀ (x18:Nat),q61 b x18 (0<=(x18:Int)))))
 (o25:q5w b ls k (∀ (x12:Nat),q5z b x12 (∀ (x18:Nat),q61 b x18 ((x18:Int) < (↑(b.ctrs.length):Int)))))
 (o26:q5w b ls k (∀ (x12:Nat),q5z b x12 (∀ (x18:Nat),q61 b x18 (x18 < b.ctrs.length))))
 (o27:q5w b ls k (∀ (x12:Nat),q5z b x12 (∀ (x18:Nat),q61 b x18 (inI ((x18:Int) + 1)))))
 (o28:q5w b ls k (∀ (x12:Nat),q5z b x12 (∀ (x18:Nat),q61 b x18 ((x18:Int) + 1=(↑(x18 + 1):Int)))))
 (o29:q5w b ls k (∀ (x12:Nat),q5z b x12 (∀ (x18:Nat),q61 b x18 (∀ (i22:Nat),i22 < b.ctrs.length->Decidable.rec (fun (h:¬i22=x18)=>cCtr (lateCTo b k x18 i22)) (fun (h:i22=x18)=>[iv ((lateCTo b k x18 x18).frm + k),iv (lateCTo b k x18 x18).days,iv (lateCTo b k x18 x18).room,iv (lateCTo b k x18 x18).pence] ++ []) (instDecidableEqNat i22 x18)=cCtr (lateCTo b k (x18 + 1) i22)))))
 (o30:q5w b ls k (∀ (x12:Nat),q5z b x12 (∀ (x18:Nat),q61 b x18 (x18 + 1<=b.ctrs.length))))
 (o31:q5w b ls k (∀ (x12:Nat),q5z b x12 (∀ (x18:Nat),q61 b x18 (b.ctrs.length - (x18 + 1) < b.ctrs.length - x18))))
 (o32:q5w b ls k (∀ (x12:Nat),q5z b x12 (∀ (x18:Nat),q62 b x18 (b.lines.length=(lateB b k).lines.length))))
 (o33:q5w b ls k (∀ (x12:Nat),q5z b x12 (∀ (x18:Nat),q62 b x18 (∀ (i24:Nat),i24 < (lateB b k).lines.length->cSpan (lnB b i24)=cSpan (lnB (lateB b k) i24)))))
 (o34:q5w b ls k (∀ (x12:Nat),q5z b x12 (∀ (x18:Nat),q62 b x18 (b.shown.length=(lateB b k).shown.length))))
 (o35:q5w b ls k (∀ (x12:Nat),q5z b x12 (∀ (x18:Nat),q62 b x18 (∀ (i26:Nat),i26 < (lateB b k).shown.length->cShn (lateSTo b k x12 i26)=cShn (shB (lateB b k) i26)))))
 (o36:q5w b ls k (∀ (x12:Nat),q5z b x12 (∀ (x18:Nat),q62 b x18 (b.rate=(lateB b k).rate))))
 (o37:q5w b ls k (∀ (x12:Nat),q5z b x12 (∀ (x18:Nat),q62 b x18 (b.rep=(lateB b k).rep))))
 (o38:q5w b ls k (∀ (x12:Nat),q5z b x12 (∀ (x18:Nat),q62 b x18 (b.ctrs.length=(lateB b k).ctrs.length))))
 (o39:q5w b ls k (∀ (x12:Nat),q5z b x12 (∀ (x18:Nat),q62 b x18 (∀ (i28:Nat),i28 < (lateB b k).ctrs.length->cCtr (lateCTo b k x18 i28)=cCtr (ctB (lateB b k) i28)))))
 (o40:q5w b ls k (∀ (x12:Nat),q5z b x12 (∀ (x18:Nat),q62 b x18 (fitsB (lateB b k)))))
 (o41:q5w b ls k (∀ (x12:Nat),q5z b x12 (∀ (x18:Nat),q63 b k x18 (0 + ls.length<=65536))))
 (o42:q5w b ls k (∀ (x12:Nat),q5z b x12 (∀ (x18:Nat),q63 b k x18 (0 + ls.length=ls.length))))
 (o43:q5w b ls k (∀ (x12:Nat),q5z b x12 (∀ (x18:Nat),q63 b k x18 (smallB b))))
 (o44:q5w b ls k (∀ (x12:Nat),q5z b x12 (∀ (x18:Nat),q63 b k x18 (ls.length<=60000))))
 (o45:q5w b ls k (∀ (x12:Nat),q5z b x12 (∀ (x18:Nat),q63 b k x18 (0 + ls.length<=65536))))
 (o46:q5w b ls k (∀ (x12:Nat),q5z b x12 (∀ (x18:Nat),q63 b k x18 (0 + ls.length=ls.length))))
 (o47:q5w b ls k (∀ (x12:Nat),q5z b x12 (∀ (x18:Nat),q63 b k x18 (smallB (lateB b k)))))
 (o48:q5w b ls k (∀ (x12:Nat),q5z b x12 (∀ (x18:Nat),q63 b k x18 (ls.length<=60000))))
 (o49:q5w b ls k (∀ (x12:Nat),q5z b x12 (∀ (x18:Nat),q63 b k x18 (okBook b=true))))
 (o50:q5w b ls k (∀ (x12:Nat),q5z b x12 (∀ (x18:Nat),q63 b k x18 (okBook (lateB b k)=true))))
 (o51:q5w b ls k (∀ (x12:Nat),q5z b x12 (∀ (x18:Nat),q63 b k x18 ((!decide (givenE b ls true=0))=false->(!!decide (givenE b ls true=0))=true))))
 (o52:q5w b ls k (∀ (x12:Nat),q5z b x12 (∀ (x18:Nat),q63 b k x18 ((bif !decide (givenE b ls true=0) then true else !decide (givenE (lateB b k) ls true=0))=false->(!bif !decide (givenE b ls true=0) then true else !decide (givenE (lateB b k) ls true=0))=true))))
 (o53:q5w b ls k (∀ (x12:Nat),q5z b x12 (∀ (x18:Nat),q63 b k x18 ((bif bif !decide (givenE b ls true=0) then true else !decide (givenE (lateB b k) ls true=0) then true else false)=false->(!bif bif !decide (givenE b ls true=0) then true else !decide (givenE (lateB b k) ls true=0) then true else false)=true))))
 (o54:q5w b ls k (∀ (x12:Nat),q5z b x12 (∀ (x18:Nat),q63 b k x18 ((bif bif bif !decide (givenE b ls true=0) then true else !decide (givenE (lateB b k) ls true=0) then true else false then true else false)=false->(!bif bif bif !decide (givenE b ls true=0) then true else !decide (givenE (lateB b k) ls true=0) then true else false then true else false)=true))))
 (o55:q5w b ls k (∀ (x12:Nat),q5z b x12 (∀ (x18:Nat),q63 b k x18 ((!bif bif bif bif !decide (givenE b ls true=0) then true else !decide (givenE (lateB b k) ls true=0) then true else false then true else false then true else !(decide ((owedB b).lo=(owedB (lateB b k)).lo) && (decide ((owedB b).hi=(owedB (lateB b k)).hi) && true)))=true->(billL b ls).length<=big))))
 (o56:q5w b ls k (∀ (x12:Nat),q5z b x12 (∀ (x18:Nat),q63 b k x18 ((bif bif bif bif !decide (givenE b ls true=0) then true else !decide (givenE (lateB b k) ls true=0) then true else false then true else false then true else !(decide ((owedB b).lo=(owedB (lateB b k)).lo) && (decide ((owedB b).hi=(owedB (lateB b k)).hi) && true)))=false->(!bif bif bif bif !decide (givenE b ls true=0) then true else !decide (givenE (lateB b k) ls true=0) then true else false then true else false then true else !(decide ((owedB b).lo=(owedB (lateB b k)).lo) && (decide ((owedB b).hi=(owedB (lateB b k)).hi) && true)))=true))))
 (o57:q5w b ls k (∀ (x12:Nat),q5z b x12 (∀ (x18:Nat),q63 b k x18 ((bif bif bif bif bif !decide (givenE b ls true=0) then true else !decide (givenE (lateB b k) ls true=0) then true else false then true else false then true else !(decide ((owedB b).lo=(owedB (lateB b k)).lo) && (decide ((owedB b).hi=(owedB (lateB b k)).hi) && true)) then true else !sameInts (billL b ls) (billL (lateB b k) ls))=true->false=true))))
 (o58:q5w b ls k (∀ (x12:Nat),q5z b x12 (∀ (x18:Nat),q64 b ls k x18 (smallB b))))
 (o59:q5w b ls k (∀ (x12:Nat),q5z b x12 (∀ (x18:Nat),q64 b ls k x18 (smallB (lateB b k)))))
 (o60:q5w b ls k (∀ (x12:Nat),q5z b x12 (∀ (x18:Nat),q64 b ls k x18 (smallB b))))
 (o61:q5w b ls k (∀ (x12:Nat),q5z b x12 (∀ (x18:Nat),q64 b ls k x18 (smallB (lateB b k)))))
 (o62:q5w b ls k (∀ (x12:Nat),q5z b x12 (∀ (x18:Nat),q64 b ls k x18 ((!decide (measN b=measN (lateB b k)))=false->(!!decide (measN b=measN (lateB b k)))=true))))
 (o63:q5w b ls k (∀ (x12:Nat),q5z b x12 (∀ (x18:Nat),q64 b ls k x18 ((bif !decide (measN b=measN (lateB b k)) then true else !decide (measE b=measE (lateB b k)))=false->(!bif !decide (measN b=measN (lateB b k)) then true else !decide (measE b=measE (lateB b k)))=true))))
 (o64:q5w b ls k (∀ (x12:Nat),q5z b x12 (∀ (x18:Nat),q64 b ls k x18 ((bif bif !decide (measN b=measN (lateB b k)) then true else !decide (measE b=measE (lateB b k)) then true else !decide (checkB b=0))=false->(!bif bif !decide (measN b=measN (lateB b k)) then true else !decide (measE b=measE (lateB b k)) then true else !decide (checkB b=0))=true))))
 (o65:q5w b ls k (∀ (x12:Nat),q5z b x12 (∀ (x18:Nat),q64 b ls k x18 ((bif bif bif !decide (measN b=measN (lateB b k)) then true else !decide (measE b=measE (lateB b k)) then true else !decide (checkB b=0) then true else !decide (checkB (lateB b k)=0))=false->(!bif bif bif !decide (measN b=measN (lateB b k)) then true else !decide (measE b=measE (lateB b k)) then true else !decide (checkB b=0) then true else !decide (checkB (lateB b k)=0))=true))))
 (o66:q5w b ls k (∀ (x12:Nat),q5z b x12 (∀ (x18:Nat),q64 b ls k x18 ((bif bif bif bif !decide (measN b=measN (lateB b k)) then true else !decide (measE b=measE (lateB b k)) then true else !decide (checkB b=0) then true else !decide (checkB (lateB b k)=0) then true else !decide ((↑((if okBook b=true then stds b else []).length):Int)=(↑((if okBook (lateB b k)=true then stds (lateB b k) else []).length):Int)))=false->(!bif bif bif bif !decide (measN b=measN (lateB b k)) then true else !decide (measE b=measE (lateB b k)) then true else !decide (checkB b=0) then true else !decide (checkB (lateB b k)=0) then true else !decide ((↑((if okBook b=true then stds b else []).length):Int)=(↑((if okBook (lateB b k)=true then stds (lateB b k) else []).length):Int)))=true))))
 (o67:q5w b ls k (∀ (x12:Nat),q5z b x12 (∀ (x18:Nat),q64 b ls k x18 ((bif bif bif bif bif !decide (measN b=measN (lateB b k)) then true else !decide (measE b=measE (lateB b k)) then true else !decide (checkB b=0) then true else !decide (checkB (lateB b k)=0) then true else !decide ((↑((if okBook b=true then stds b else []).length):Int)=(↑((if okBook (lateB b k)=true then stds (lateB b k) else []).length):Int)) then true else decide (6 < (↑((if okBook b=true then stds b else []).length):Int)))=true->false=true))))
 (o68:q5w b ls k (∀ (x12:Nat),q5z b x12 (∀ (x18:Nat),q65 b ls k x18 (0=(↑0:Int)))))
 (o69:q5w b ls k (∀ (x12:Nat),q5z b x12 (∀ (x18:Nat),q65 b ls k x18 (0<=(stds b).length))))
 (o70:q5w b ls k (∀ (x12:Nat),q5z b x12 (∀ (x18:Nat),q65 b ls k x18 (∀ (x118:Nat),q66 b x118 (0<=(x118:Int))))))
 (o71:q5w b ls k (∀ (x12:Nat),q5z b x12 (∀ (x18:Nat),q65 b ls k x18 (∀ (x118:Nat),q66 b x118 ((x118:Int) < (↑((if okBook b=true then stds b else []).length):Int))))))
 (o72:q5w b ls k (∀ (x12:Nat),q5z b x12 (∀ (x18:Nat),q65 b ls k x18 (∀ (x118:Nat),q66 b x118 (0<=(x118:Int))))))
 (o73:q5w b ls k (∀ (x12:Nat),q5z b x12 (∀ (x18:Nat),q65 b ls k x18 (∀ (x118:Nat),q66 b x118 ((x118:Int) < (↑((if okBook (lateB b k)=true then stds (lateB b k) else []).length):Int))))))
 (o74:q5w b ls k (∀ (x12:Nat),q5z b x12 (∀ (x18:Nat),q65 b ls k x18 (∀ (x118:Nat),q67 b k x118 (0<=(x118:Int))))))
 (o75:q5w b ls k (∀ (x12:Nat),q5z b x12 (∀ (x18:Nat),q65 b ls k x18 (∀ (x118:Nat),q67 b k x118 ((x118:Int) < (↑((if okBook b=true then stds b else []).length):Int))))))
 (o76:q5w b ls k (∀ (x12:Nat),q5z b x12 (∀ (x18:Nat),q65 b ls k x18 (∀ (x118:Nat),q66 b x118 ((!decide (((if okBook b=true then stds b else []).getD x118 default).ad=((if okBook (lateB b k)=true then stds (lateB b k) else []).getD x118 default).ad))=false->(!!decide (((if okBook b=true then stds b else []).getD x118 default).ad=((if okBook (lateB b k)=true then stds (lateB b k) else []).getD x118 default).ad))=true)))))
 (o77:q5w b ls k (∀ (x12:Nat),q5z b x12 (∀ (x18:Nat),q65 b ls k x18 (∀ (x118:Nat),q68 b k x118 (0<=(x118:Int))))))
 (o78:q5w b ls k (∀ (x12:Nat),q5z b x12 (∀ (x18:Nat),q65 b ls k x18 (∀ (x118:Nat),q68 b k x118 ((x118:Int) < (↑((if okBook (lateB b k)=true then stds (lateB b k) else []).length):Int))))))
 (o79:q5w b ls k (∀ (x12:Nat),q5z b x12 (∀ (x18:Nat),q65 b ls k x18 (∀ (x118:Nat),q68 b k x118 (0<=(x118:Int))))))
 (o80:q5w b ls k (∀ (x12:Nat),q5z b x12 (∀ (x18:Nat),q65 b ls k x18 (∀ (x118:Nat),q68 b k x118 ((x118:Int) < (↑((if okBook b=true then stds b else []).length):Int))))))
 (o81:q5w b ls k (∀ (x12:Nat),q5z b x12 (∀ (x18:Nat),q65 b ls k x18 (∀ (x118:Nat),q68 b k x118 (inI (((if okBook b=true then stds b else []).getD x118 default).day + k))))))
 (o82:q5w b ls k (∀ (x12:Nat),q5z b x12 (∀ (x18:Nat),q65 b ls k x18 (∀ (x118:Nat),q66 b x118 ((bif !decide (((if okBook b=true then stds b else []).getD x118 default).ad=((if okBook (lateB b k)=true then stds (lateB b k) else []).getD x118 default).ad) then true else !within ((if okBook b=true then stds b else []).getD x118 default).day 0 13)=false->(!bif !decide (((if okBook b=true then stds b else []).getD x118 default).ad=((if okBook (lateB b k)=true then stds (lateB b k) else []).getD x118 default).ad) then true else !within ((if okBook b=true then stds b else []).getD x118 default).day 0 13)=true)))))
 (o83:q5w b ls k (∀ (x12:Nat),q5z b x12 (∀ (x18:Nat),q65 b ls k x18 (∀ (x118:Nat),q66 b x118 ((bif bif !decide (((if okBook b=true then stds b else []).getD x118 default).ad=((if okBook (lateB b k)=true then stds (lateB b k) else []).getD x118 default).ad) then true else !within ((if okBook b=true then stds b else []).getD x118 default).day 0 13 then true else !decide (((if okBook (lateB b k)=true then stds (lateB b k) else []).getD x118 default).day=((if okBook b=true then stds b else []).getD x118 default).day + k))=true->false=true)))))
 (o84:q5w b ls k (∀ (x12:Nat),q5z b x12 (∀ (x18:Nat),q65 b ls k x18 (∀ (x118:Nat),q69 b k x118 (inI ((x118:Int) + 1))))))
 (o85:q5w b ls k (∀ (x12:Nat),q5z b x12 (∀ (x18:Nat),q65 b ls k x18 (∀ (x118:Nat),q69 b k x118 ((x118:Int) + 1=(↑(x118 + 1):Int))))))
 (o86:q5w b ls k (∀ (x12:Nat),q5z b x12 (∀ (x18:Nat),q65 b ls k x18 (∀ (x118:Nat),q69 b k x118 (x118 + 1<=(stds b).length)))))
 (o87:q5w b ls k (∀ (x12:Nat),q5z b x12 (∀ (x18:Nat),q65 b ls k x18 (∀ (x118:Nat),q69 b k x118 ((stds b).length - (x118 + 1) < (stds b).length - x118))))) :
  Triple Try.prog 13 (s13 b ls k):=by
 refine triple_of Try.func13 rfl Try.call13 T0_ok _ rfl rfl rfl rfl (Nat.le_of_ble_eq_true (by kernel_rfl)) (fun _ _ _ _ h=>h) ?_
 intro hpre C hC _ hE
 obtain ⟨P,w0,E0,av,hA,ro,df⟩:=C
 obtain ⟨rfl,rfl,rfl⟩:=hC
 refine swp_seq ?_
 refine zR [1,2,3] [0] (Ak 2 tv) ?_
 refine swp_seq ?_
 refine swp_seq ?_
 refine zC ([(2,CallSpec.eq (s30 b ls) [true,true]),(6,CallSpec.eq (s33 k 0 13) [true,true,true])]) [1,2,3,35] [0] (Ak 2 (An (An (An (zr (AV.agg (cBk b))) (An (zr (aInts ls)) tv)) (An (t30 (b) (ls)) (An (An hpre.1 hpre.2) (Ak 1 (fun (i0:Env)=>tv))))) (Ak 2 (An (fun (y1:(!!gvnB b ls)=true)=>(An (Ak 1 tv) tv)) (An (fun (y2:(!!gvnB b ls)=true)=>(An (Ak 1 (An (fun (y3:(!!gvnB b ls)=true)=>y2) (Ak 2 tv))) (An (An (zr (iv k)) (An (zr (iv 0)) (An (zr (iv 13)) tv))) (An (t33 (k) (0) (13)) (Ak 2 (fun (i4:Env)=>tv)))))) (An (fun (y5:(!!gvnB b ls)=true)=>(An (An (fun (y6:(!!gvnB b ls)=true)=>y5) tv) tv)) (An (An (fun (y7:(!gvnB b ls)=true)=>tv) (fun (y8:(!gvnB b ls)=false)=>(o0 hpre y8))) tv))))))) ?_
 refine zI (bif !gvnB b ls then true else !within k 0 13) (fun y9 => ?_) (fun y9 => ?_)
 ·refine swp_seq ?_
  refine zC ([(0,CallSpec.eq s15 [])]) [6] [] (An (Ak 1 (An (t15) (Ak 2 (fun (i10:Env)=>tv)))) (Ak 1 tv)) ?_
  refine swp_ret ?_
  exact zT [] (An (Ak 1 tv) (An (An (zr (bv true)) (zr nilN)) (An (zr true) (An (zr true) (zr true)))))
 ·refine swp_skip ?_
  refine swp_seq ?_
  refine zC ([(1,CallSpec.eq (c13o b ls k 96) [true])]) [1,2,3,7] [0,104,96,97,98] (Ak 1 (An (An (An (zr (AV.agg (cBk b))) tv) (An (t16o (b) (96)) (An (o1 hpre y9) (Ak 1 (fun (i11:Env)=>tv))))) (Ak 2 tv))) ?_
  refine swp_seq ?_
  refine swp_seq ?_
  refine zR [1,2,3,7,8] [0,104,96,97,98] (Ak 1 tv) ?_
  refine swp_block ?_
  refine zL (Hint.ann (h13a b ls k) [(1,aInts ls),(2,iv k),(3,AV.ptr 0 []),(7,AV.ptr 104 [])] [(0,OB.cells 26 (cBk b)),(104,OB.cells 26 [AV.vec 96,AV.vec 97,iv b.rate,iv b.rep,AV.vec 98]),(96,OB.vec 63 2 b.lines.length fun (i:Nat)=>cSpan (lnB b i)),(98,OB.vec 53 4 b.ctrs.length fun (i:Nat)=>cCtr (ctB b i))] 10128) (zE hE [] [(0,.same 0),(104,.same 104),(96,.same 96),(97,.same 97),(98,.same 98)] [1,2] [0,96,98] (An (An (An (zr (aInts ls)) (zr true)) (An (An (zr (iv k)) (zr true)) (An (An (zr (some (Src.same 0))) (zr nilP)) (An (An (zr (some (Src.same 104))) (zr nilP)) (An (An (ci (o2 hpre y9)) (zr nilN)) tv))))) (An (An (An (zr (OB.cells 26 (cBk b))) (zr true)) (An (An (zr 26) (An (An (zr (some (Src.same 96))) (An (zr (some (Src.same 97))) (An (An (zr (iv b.rate)) (zr nilN)) (An (An (zr (iv b.rep)) (zr nilN)) (An (zr (some (Src.same 98))) tv))))) (zr true))) (An (An (zr (OB.vec 63 2 b.lines.length fun (i:Nat)=>cSpan (lnB b i))) (zr true)) (An (An (zr (OB.vec 53 4 b.ctrs.length fun (i:Nat)=>cCtr (ctB b i))) (zr true)) (An (An (zr 70) (An (zr 3) (An (zr b.shown.length) (fun (i13:Nat)=>(fun (y14:i13 < b.shown.length)=>(o3 hpre y9 i13 y14)))))) tv))))) (An (zr true) (zr true))))) (o4 hpre y9) (fun (x12:Nat) hx12 => ?_)
  refine swp_seq ?_
  refine swp_seq ?_
  refine zR [1,2,3,7,8,43] [0,104,96,97,98] (Ak 5 tv) ?_
  refine zI (decide ((x12:Int) < (↑(b.shown.length):Int))) (fun y15 => ?_) (fun y15 => ?_)
  ·refine swp_skip ?_
   refine swp_seq ?_
   refine swp_block ?_
   refine swp_seq ?_
   refine zR [1,2,3,7,8,9] [0,104,10208,96,97,98] (Ak 3 (An (An (o5 hpre y9 x12 hx12 y15) (o6 hpre y9 x12 hx12 y15)) (An (An (o7 hpre y9 x12 hx12 y15) tv) (Ak 2 tv)))) ?_
   refine swp_seq ?_
   refine zR [1,2,3,7,8,9] [0,104,10208,96,97,98] (Ak 3 (An (o8 hpre y9 x12 hx12 y15) (Ak 2 tv))) ?_
   refine zR [1,2,3,7,8] [0,104,96,97,98] (Ak 4 (An (An (o9 hpre y9 x12 hx12 y15) (o10 hpre y9 x12 hx12 y15)) (An (An (o11 hpre y9 x12 hx12 y15) tv) tv))) ?_
   refine zR [1,2,3,7,8] [0,104,96,97,98] (Ak 1 (An (o12 hpre y9 x12 hx12 y15) (Ak 1 tv))) ?_
   exact zn (zE hE [] [(0,.same 0),(104,.same 104),(96,.same 96),(97,.same 97),(98,.same 98)] [1,2] [0,96,98] (An (An (An (zr (aInts ls)) (zr true)) (An (An (zr (iv k)) (zr true)) (An (An (zr (some (Src.same 0))) (zr nilP)) (An (An (zr (some (Src.same 104))) (zr nilP)) (An (An (ci (o13 hpre y9 x12 hx12 y15)) (zr nilN)) tv))))) (An (An (An (zr (OB.cells 26 (cBk b))) (zr true)) (An (An (zr 26) (An (An (zr (some (Src.same 96))) (An (zr (some (Src.same 97))) (An (An (zr (iv b.rate)) (zr nilN)) (An (An (zr (iv b.rep)) (zr nilN)) (An (zr (some (Src.same 98))) tv))))) (zr true))) (An (An (zr (OB.vec 63 2 b.lines.length fun (i:Nat)=>cSpan (lnB b i))) (zr true)) (An (An (zr (OB.vec 53 4 b.ctrs.length fun (i:Nat)=>cCtr (ctB b i))) (zr true)) (An (An (zr 70) (An (zr 3) (An (zr b.shown.length) (fun (i16:Nat)=>(fun (y17:i16 < b.shown.length)=>(o14 hpre y9 x12 hx12 y15 i16 y17)))))) tv))))) (An (zr true) (zr true))))) (o15 hpre y9 x12 hx12 y15) (o16 hpre y9 x12 hx12 y15)
  ·refine swp_exit ?_
   refine swp_seq ?_
   refine swp_seq ?_
   refine zR [1,2,3,7,10] [0,104,96,97,98] (Ak 1 tv) ?_
   refine swp_block ?_
   refine zL (Hint.ann (h13b b ls k) [(1,aInts ls),(2,iv k),(3,AV.ptr 0 []),(7,AV.ptr 104 [])] [(0,OB.cells 26 (cBk b)),(104,OB.cells 26 [AV.vec 96,AV.vec 97,iv b.rate,iv b.rep,AV.vec 98]),(96,OB.vec 63 2 b.lines.length fun (i:Nat)=>cSpan (lnB b i)),(97,OB.vec 70 3 b.shown.length fun (j:Nat)=>cShn (lateSTo b k x12 j))] 20176) (zE hE [] [(0,.same 0),(104,.same 104),(96,.same 96),(97,.same 97),(98,.same 98)] [1,2] [0,96,97] (An (An (An (zr (aInts ls)) (zr true)) (An (An (zr (iv k)) (zr true)) (An (An (zr (some (Src.same 0))) (zr nilP)) (An (An (zr (some (Src.same 104))) (zr nilP)) (An (An (ci (o17 hpre y9 x12 hx12 y15)) (zr nilN)) tv))))) (An (An (An (zr (OB.cells 26 (cBk b))) (zr true)) (An (An (zr 26) (An (An (zr (some (Src.same 96))) (An (zr (some (Src.same 97))) (An (An (zr (iv b.rate)) (zr nilN)) (An (An (zr (iv b.rep)) (zr nilN)) (An (zr (some (Src.same 98))) tv))))) (zr true))) (An (An (zr (OB.vec 63 2 b.lines.length fun (i:Nat)=>cSpan (lnB b i))) (zr true)) (An (An (zr (OB.vec 70 3 b.shown.length fun (j:Nat)=>cShn (lateSTo b k x12 j))) (zr true)) (An (An (zr 53) (An (zr 4) (An (zr b.ctrs.length) (fun (i19:Nat)=>(fun (y20:i19 < b.ctrs.length)=>(o18 hpre y9 x12 hx12 y15 i19 y20)))))) tv))))) (An (zr true) (zr true))))) (o19 hpre y9 x12 hx12 y15) (fun (x18:Nat) hx18 => ?_)
   refine swp_seq ?_
   refine swp_seq ?_
   refine zR [1,2,3,7,10,65] [0,104,96,97,98] (Ak 5 tv) ?_
   refine zI (decide ((x18:Int) < (↑(b.ctrs.length):Int))) (fun y21 => ?_) (fun y21 => ?_)
   ·refine swp_skip ?_
    refine swp_seq ?_
    refine swp_block ?_
    refine swp_seq ?_
    refine zR [1,2,3,7,10,11] [0,104,20256,96,97,98] (Ak 3 (An (An (o20 hpre y9 x12 hx12 y15 x18 hx18 y21) (o21 hpre y9 x12 hx12 y15 x18 hx18 y21)) (An (An (o22 hpre y9 x12 hx12 y15 x18 hx18 y21) tv) (Ak 2 tv)))) ?_
    refine swp_seq ?_
    refine zR [1,2,3,7,10,11] [0,104,20256,96,97,98] (Ak 3 (An (o23 hpre y9 x12 hx12 y15 x18 hx18 y21) (Ak 2 tv))) ?_
    refine zR [1,2,3,7,10] [0,104,96,97,98] (Ak 4 (An (An (o24 hpre y9 x12 hx12 y15 x18 hx18 y21) (o25 hpre y9 x12 hx12 y15 x18 hx18 y21)) (An (An (o26 hpre y9 x12 hx12 y15 x18 hx18 y21) tv) tv))) ?_
    refine zR [1,2,3,7,10] [0,104,96,97,98] (Ak 1 (An (o27 hpre y9 x12 hx12 y15 x18 hx18 y21) (Ak 1 tv))) ?_
    exact zn (zE hE [] [(0,.same 0),(104,.same 104),(96,.same 96),(97,.same 97),(98,.same 98)] [1,2] [0,96,97] (An (An (An (zr (aInts ls)) (zr true)) (An (An (zr (iv k)) (zr true)) (An (An (zr (some (Src.same 0))) (zr nilP)) (An (An (zr (some (Src.same 104))) (zr nilP)) (An (An (ci (o28 hpre y9 x12 hx12 y15 x18 hx18 y21)) (zr nilN)) tv))))) (An (An (An (zr (OB.cells 26 (cBk b))) (zr true)) (An (An (zr 26) (An (An (zr (some (Src.same 96))) (An (zr (some (Src.same 97))) (An (An (zr (iv b.rate)) (zr nilN)) (An (An (zr (iv b.rep)) (zr nilN)) (An (zr (some (Src.same 98))) tv))))) (zr true))) (An (An (zr (OB.vec 63 2 b.lines.length fun (i:Nat)=>cSpan (lnB b i))) (zr true)) (An (An (zr (OB.vec 70 3 b.shown.length fun (j:Nat)=>cShn (lateSTo b k x12 j))) (zr true)) (An (An (zr 53) (An (zr 4) (An (zr b.ctrs.length) (fun (i22:Nat)=>(fun (y23:i22 < b.ctrs.length)=>(o29 hpre y9 x12 hx12 y15 x18 hx18 y21 i22 y23)))))) tv))))) (An (zr true) (zr true))))) (o30 hpre y9 x12 hx12 y15 x18 hx18 y21) (o31 hpre y9 x12 hx12 y15 x18 hx18 y21)
   ·refine swp_exit ?_
    refine swp_seq ?_
    refine swp_seq ?_
    refine swp_ent (zE (st2:=ASt.mk [(1,aInts ls),(2,iv k),(3,AV.ptr 0 []),(7,AV.ptr 104 []),(10,iv (x18:Int)),(65,bv (decide ((x18:Int) < (↑(b.ctrs.length):Int))))] [(104,OB.cells 26 (cBk (lateB b k))),(0,OB.cells 26 (cBk b))] 20216) hE [96,97,98] [(0,.same 0),(104,.same 104)] [1,2,10,65] [0] (An (An (An (zr (aInts ls)) (zr true)) (An (An (zr (iv k)) (zr true)) (An (An (zr (some (Src.same 0))) (zr nilP)) (An (An (zr (some (Src.same 104))) (zr nilP)) (An (An (zr (iv (x18:Int))) (zr true)) (An (An (zr (bv (decide ((x18:Int) < (↑(b.ctrs.length):Int))))) (zr true)) tv)))))) (An (An (An (zr 26) (An (An (An (zr 2) (An (o32 hpre y9 x12 hx12 y15 x18 hx18 y21) (fun (i24:Nat)=>(fun (y25:i24 < (lateB b k).lines.length)=>(o33 hpre y9 x12 hx12 y15 x18 hx18 y21 i24 y25))))) (An (An (zr 3) (An (o34 hpre y9 x12 hx12 y15 x18 hx18 y21) (fun (i26:Nat)=>(fun (y27:i26 < (lateB b k).shown.length)=>(o35 hpre y9 x12 hx12 y15 x18 hx18 y21 i26 y27))))) (An (An (ci (o36 hpre y9 x12 hx12 y15 x18 hx18 y21)) (zr nilN)) (An (An (ci (o37 hpre y9 x12 hx12 y15 x18 hx18 y21)) (zr nilN)) (An (An (zr 4) (An (o38 hpre y9 x12 hx12 y15 x18 hx18 y21) (fun (i28:Nat)=>(fun (y29:i28 < (lateB b k).ctrs.length)=>(o39 hpre y9 x12 hx12 y15 x18 hx18 y21 i28 y29))))) tv))))) (zr true))) (An (An (zr (OB.cells 26 (cBk b))) (zr true)) tv)) (An (zr true) (zr true))))) ?_
    refine zC ([(1,CallSpec.eq (s34 (lateB b k)) [true])]) [1,2,3,7,85] [0,104] (Ak 1 (An (An (An (zr (AV.agg (cBk (lateB b k)))) tv) (An (t34 (lateB b k)) (An (o40 hpre y9 x12 hx12 y15 x18 hx18 y21) (Ak 1 (fun (i30:Env)=>tv))))) (Ak 1 tv))) ?_
    refine zI (!readyB (lateB b k)) (fun y31 => ?_) (fun y31 => ?_)
    ·refine swp_seq ?_
     refine zC ([(0,CallSpec.eq s15 [])]) [6] [] (An (Ak 1 (An (t15) (Ak 2 (fun (i32:Env)=>tv)))) (Ak 1 tv)) ?_
     refine swp_ret ?_
     exact zT [] (An (Ak 1 tv) (An (An (zr (bv true)) (zr nilN)) (An (zr true) (An (zr true) (zr true)))))
    ·refine swp_skip ?_
     refine swp_seq ?_
     refine zC ([(4,CallSpec.eq (c13p b ls k) [true,false])]) [1,2,3,7,12,13] [0,104] (Ak 3 (An (o41 hpre y9 x12 hx12 y15 x18 hx18 y21 y31) (An (An (An (zr (AV.agg (cBk b))) (An (An (zr 1) (An (o42 hpre y9 x12 hx12 y15 x18 hx18 y21 y31) (fun (i33:Nat)=>(fun (y34:i33 < ls.length)=>(zr ([iv (ls.getD i33 0)])))))) tv)) (An (t35 (b) (ls)) (An (An (o43 hpre y9 x12 hx12 y15 x18 hx18 y21 y31) (o44 hpre y9 x12 hx12 y15 x18 hx18 y21 y31)) (Ak 1 (fun (i35:Env)=>tv))))) (Ak 5 tv)))) ?_
     refine swp_seq ?_
     refine zC ([(4,CallSpec.eq (c13q b ls k) [true,false])]) [2,3,7,12,13,14,15] [0,104] (Ak 3 (An (o45 hpre y9 x12 hx12 y15 x18 hx18 y21 y31) (An (An (An (zr (AV.agg (cBk (lateB b k)))) (An (An (zr 1) (An (o46 hpre y9 x12 hx12 y15 x18 hx18 y21 y31) (fun (i36:Nat)=>(fun (y37:i36 < ls.length)=>(zr ([iv (ls.getD i36 0)])))))) tv)) (An (t35 (lateB b k) (ls)) (An (An (o47 hpre y9 x12 hx12 y15 x18 hx18 y21 y31) (o48 hpre y9 x12 hx12 y15 x18 hx18 y21 y31)) (Ak 1 (fun (i38:Env)=>tv))))) (Ak 5 tv)))) ?_
     refine swp_seq ?_
     refine zC ([(1,CallSpec.eq (s41 b) [true])]) [2,3,7,12,13,14,15,16,17] [0,104,20440] (Ak 1 (An (An (An (zr (AV.agg (cBk b))) tv) (An (t41 (b)) (An (o49 hpre y9 x12 hx12 y15 x18 hx18 y21 y31) (Ak 1 (fun (i39:Env)=>tv))))) (Ak 6 tv))) ?_
     refine swp_seq ?_
     refine zC ([(1,CallSpec.eq (s41 (lateB b k)) [true])]) [2,3,7,12,13,14,15,16,17,18,19] [0,104,20440,20504] (Ak 1 (An (An (An (zr (AV.agg (cBk (lateB b k)))) tv) (An (t41 (lateB b k)) (An (o50 hpre y9 x12 hx12 y15 x18 hx18 y21 y31) (Ak 1 (fun (i40:Env)=>tv))))) (Ak 6 tv))) ?_
     refine swp_seq ?_
     refine swp_seq ?_
     refine zC ([(22,CallSpec.eq (s25 (billL b ls) (billL (lateB b k) ls)) [false,false])]) [2,3,7,137] [0,104] (Ak 3 (An (fun (y41:(!!decide (givenE b ls true=0))=true)=>(An (Ak 1 tv) tv)) (An (fun (y42:(!!decide (givenE b ls true=0))=true)=>(An (An (fun (y43:(!!decide (givenE b ls true=0))=true)=>y42) (Ak 1 tv)) tv)) (An (An (fun (y44:(!decide (givenE b ls true=0))=true)=>tv) (fun (y45:(!decide (givenE b ls true=0))=false)=>(o51 hpre y9 x12 hx12 y15 x18 hx18 y21 y31 y45))) (Ak 1 (An (fun (y46:(!bif !decide (givenE b ls true=0) then true else !decide (givenE (lateB b k) ls true=0))=true)=>(An (Ak 1 tv) tv)) (An (fun (y47:(!bif !decide (givenE b ls true=0) then true else !decide (givenE (lateB b k) ls true=0))=true)=>(An (An (fun (y48:(!bif !decide (givenE b ls true=0) then true else !decide (givenE (lateB b k) ls true=0))=true)=>y47) tv) tv)) (An (An (fun (y49:(bif !decide (givenE b ls true=0) then true else !decide (givenE (lateB b k) ls true=0))=true)=>tv) (fun (y50:(bif !decide (givenE b ls true=0) then true else !decide (givenE (lateB b k) ls true=0))=false)=>(o52 hpre y9 x12 hx12 y15 x18 hx18 y21 y31 y50))) (Ak 1 (An (fun (y51:(!bif bif !decide (givenE b ls true=0) then true else !decide (givenE (lateB b k) ls true=0) then true else false)=true)=>(An (Ak 1 tv) tv)) (An (fun (y52:(!bif bif !decide (givenE b ls true=0) then true else !decide (givenE (lateB b k) ls true=0) then true else false)=true)=>(An (An (fun (y53:(!bif bif !decide (givenE b ls true=0) then true else !decide (givenE (lateB b k) ls true=0) then true else false)=true)=>y52) tv) tv)) (An (An (fun (y54:(bif bif !decide (givenE b ls true=0) then true else !decide (givenE (lateB b k) ls true=0) then true else false)=true)=>tv) (fun (y55:(bif bif !decide (givenE b ls true=0) then true else !decide (givenE (lateB b k) ls true=0) then true else false)=false)=>(o53 hpre y9 x12 hx12 y15 x18 hx18 y21 y31 y55))) (Ak 1 (An (fun (y56:(!bif bif bif !decide (givenE b ls true=0) then true else !decide (givenE (lateB b k) ls true=0) then true else false then true else false)=true)=>(An (Ak 1 tv) tv)) (An (fun (y57:(!bif bif bif !decide (givenE b ls true=0) then true else !decide (givenE (lateB b k) ls true=0) then true else false then true else false)=true)=>(An (Ak 1 tv) tv)) (An (fun (y58:(!bif bif bif !decide (givenE b ls true=0) then true else !decide (givenE (lateB b k) ls true=0) then true else false then true else false)=true)=>(An (An (fun (y59:(!bif bif bif !decide (givenE b ls true=0) then true else !decide (givenE (lateB b k) ls true=0) then true else false then true else false)=true)=>y58) (An (fun (y60:(!bif bif bif !decide (givenE b ls true=0) then true else !decide (givenE (lateB b k) ls true=0) then true else false then true else false)=true)=>y58) tv)) tv)) (An (An (fun (y61:(bif bif bif !decide (givenE b ls true=0) then true else !decide (givenE (lateB b k) ls true=0) then true else false then true else false)=true)=>tv) (fun (y62:(bif bif bif !decide (givenE b ls true=0) then true else !decide (givenE (lateB b k) ls true=0) then true else false then true else false)=false)=>(o54 hpre y9 x12 hx12 y15 x18 hx18 y21 y31 y62))) (Ak 1 (An (fun (y63:(!bif bif bif bif !decide (givenE b ls true=0) then true else !decide (givenE (lateB b k) ls true=0) then true else false then true else false then true else !(decide ((owedB b).lo=(owedB (lateB b k)).lo) && (decide ((owedB b).hi=(owedB (lateB b k)).hi) && true)))=true)=>(An (Ak 1 tv) tv)) (An (fun (y64:(!bif bif bif bif !decide (givenE b ls true=0) then true else !decide (givenE (lateB b k) ls true=0) then true else false then true else false then true else !(decide ((owedB b).lo=(owedB (lateB b k)).lo) && (decide ((owedB b).hi=(owedB (lateB b k)).hi) && true)))=true)=>(An (Ak 1 tv) tv)) (An (fun (y65:(!bif bif bif bif !decide (givenE b ls true=0) then true else !decide (givenE (lateB b k) ls true=0) then true else false then true else false then true else !(decide ((owedB b).lo=(owedB (lateB b k)).lo) && (decide ((owedB b).hi=(owedB (lateB b k)).hi) && true)))=true)=>(An (Ak 1 (An (fun (y66:(!bif bif bif bif !decide (givenE b ls true=0) then true else !decide (givenE (lateB b k) ls true=0) then true else false then true else false then true else !(decide ((owedB b).lo=(owedB (lateB b k)).lo) && (decide ((owedB b).hi=(owedB (lateB b k)).hi) && true)))=true)=>y65) (An (fun (y67:(!bif bif bif bif !decide (givenE b ls true=0) then true else !decide (givenE (lateB b k) ls true=0) then true else false then true else false then true else !(decide ((owedB b).lo=(owedB (lateB b k)).lo) && (decide ((owedB b).hi=(owedB (lateB b k)).hi) && true)))=true)=>y65) tv))) (An (An (An (zr 1) (An (zr (billL b ls).length) (fun (i68:Nat)=>(fun (y69:i68 < (billL b ls).length)=>(zr ([iv ((billL b ls).getD i68 0)])))))) (An (An (zr 1) (An (zr (billL (lateB b k) ls).length) (fun (i70:Nat)=>(fun (y71:i70 < (billL (lateB b k) ls).length)=>(zr ([iv ((billL (lateB b k) ls).getD i70 0)])))))) tv)) (An (t25 (billL b ls) (billL (lateB b k) ls)) (An (o55 hpre y9 x12 hx12 y15 x18 hx18 y21 y31 y65) (Ak 1 (fun (i72:Env)=>tv))))))) (An (fun (y73:(!bif bif bif bif !decide (givenE b ls true=0) then true else !decide (givenE (lateB b k) ls true=0) then true else false then true else false then true else !(decide ((owedB b).lo=(owedB (lateB b k)).lo) && (decide ((owedB b).hi=(owedB (lateB b k)).hi) && true)))=true)=>(An (An (fun (y74:(!bif bif bif bif !decide (givenE b ls true=0) then true else !decide (givenE (lateB b k) ls true=0) then true else false then true else false then true else !(decide ((owedB b).lo=(owedB (lateB b k)).lo) && (decide ((owedB b).hi=(owedB (lateB b k)).hi) && true)))=true)=>y73) tv) tv)) (An (An (fun (y75:(bif bif bif bif !decide (givenE b ls true=0) then true else !decide (givenE (lateB b k) ls true=0) then true else false then true else false then true else !(decide ((owedB b).lo=(owedB (lateB b k)).lo) && (decide ((owedB b).hi=(owedB (lateB b k)).hi) && true)))=true)=>tv) (fun (y76:(bif bif bif bif !decide (givenE b ls true=0) then true else !decide (givenE (lateB b k) ls true=0) then true else false then true else false then true else !(decide ((owedB b).lo=(owedB (lateB b k)).lo) && (decide ((owedB b).hi=(owedB (lateB b k)).hi) && true)))=false)=>(o56 hpre y9 x12 hx12 y15 x18 hx18 y21 y31 y76))) tv))))))))))))))))))))))) ?_
     refine zI (bif bif bif bif bif !decide (givenE b ls true=0) then true else !decide (givenE (lateB b k) ls true=0) then true else false then true else false then true else !(decide ((owedB b).lo=(owedB (lateB b k)).lo) && (decide ((owedB b).hi=(owedB (lateB b k)).hi) && true)) then true else !sameInts (billL b ls) (billL (lateB b k) ls)) (fun y77 => ?_) (fun y77 => ?_)
     ·refine swp_seq ?_
      refine zR [6] [] (Ak 1 tv) ?_
      refine swp_ret ?_
      exact zT [] (An (Ak 1 tv) (An (An (cb (o57 hpre y9 x12 hx12 y15 x18 hx18 y21 y31 y77)) (zr nilN)) (An (zr true) (An (zr true) (zr true)))))
     ·refine swp_skip ?_
      refine swp_seq ?_
      refine zC ([(1,CallSpec.eq (s49 b) [true])]) [2,3,7,20,13] [0,104] (Ak 1 (An (An (An (zr (AV.agg (cBk b))) tv) (An (t49 (b)) (An (o58 hpre y9 x12 hx12 y15 x18 hx18 y21 y31 y77) (Ak 1 (fun (i78:Env)=>tv))))) (Ak 5 tv))) ?_
      refine swp_seq ?_
      refine zC ([(1,CallSpec.eq (s49 (lateB b k)) [true])]) [2,3,7,20,13,21,15] [0,104] (Ak 1 (An (An (An (zr (AV.agg (cBk (lateB b k)))) tv) (An (t49 (lateB b k)) (An (o59 hpre y9 x12 hx12 y15 x18 hx18 y21 y31 y77) (Ak 1 (fun (i79:Env)=>tv))))) (Ak 5 tv))) ?_
      refine swp_seq ?_
      refine zC ([(1,CallSpec.eq (s19 b) [true])]) [2,7,20,13,21,15,22,23] [104] (Ak 1 (An (An (An (zr (AV.agg (cBk b))) tv) (An (t19 (b)) (An (o60 hpre y9 x12 hx12 y15 x18 hx18 y21 y31 y77) (Ak 1 (fun (i80:Env)=>tv))))) (Ak 5 tv))) ?_
      refine swp_seq ?_
      refine zC ([(1,CallSpec.eq (s19 (lateB b k)) [true])]) [2,20,13,21,15,22,23,24,25] [] (Ak 1 (An (An (An (zr (AV.agg (cBk (lateB b k)))) tv) (An (t19 (lateB b k)) (An (o61 hpre y9 x12 hx12 y15 x18 hx18 y21 y31 y77) (Ak 1 (fun (i81:Env)=>tv))))) (Ak 5 tv))) ?_
      refine swp_seq ?_
      refine swp_seq ?_
      refine zR [2,22,24,185] [] (Ak 4 (An (fun (y82:(!!decide (measN b=measN (lateB b k)))=true)=>(An (Ak 1 tv) tv)) (An (fun (y83:(!!decide (measN b=measN (lateB b k)))=true)=>(An (Ak 1 tv) tv)) (An (fun (y84:(!!decide (measN b=measN (lateB b k)))=true)=>(An (An (fun (y85:(!!decide (measN b=measN (lateB b k)))=true)=>y84) (An (fun (y86:(!!decide (measN b=measN (lateB b k)))=true)=>y84) tv)) tv)) (An (An (fun (y87:(!decide (measN b=measN (lateB b k)))=true)=>tv) (fun (y88:(!decide (measN b=measN (lateB b k)))=false)=>(o62 hpre y9 x12 hx12 y15 x18 hx18 y21 y31 y77 y88))) (Ak 1 (An (fun (y89:(!bif !decide (measN b=measN (lateB b k)) then true else !decide (measE b=measE (lateB b k)))=true)=>(An (Ak 1 tv) tv)) (An (fun (y90:(!bif !decide (measN b=measN (lateB b k)) then true else !decide (measE b=measE (lateB b k)))=true)=>(An (An (fun (y91:(!bif !decide (measN b=measN (lateB b k)) then true else !decide (measE b=measE (lateB b k)))=true)=>y90) (Ak 1 tv)) tv)) (An (An (fun (y92:(bif !decide (measN b=measN (lateB b k)) then true else !decide (measE b=measE (lateB b k)))=true)=>tv) (fun (y93:(bif !decide (measN b=measN (lateB b k)) then true else !decide (measE b=measE (lateB b k)))=false)=>(o63 hpre y9 x12 hx12 y15 x18 hx18 y21 y31 y77 y93))) (Ak 1 (An (fun (y94:(!bif bif !decide (measN b=measN (lateB b k)) then true else !decide (measE b=measE (lateB b k)) then true else !decide (checkB b=0))=true)=>(An (Ak 1 tv) tv)) (An (fun (y95:(!bif bif !decide (measN b=measN (lateB b k)) then true else !decide (measE b=measE (lateB b k)) then true else !decide (checkB b=0))=true)=>(An (An (fun (y96:(!bif bif !decide (measN b=measN (lateB b k)) then true else !decide (measE b=measE (lateB b k)) then true else !decide (checkB b=0))=true)=>y95) (Ak 1 tv)) tv)) (An (An (fun (y97:(bif bif !decide (measN b=measN (lateB b k)) then true else !decide (measE b=measE (lateB b k)) then true else !decide (checkB b=0))=true)=>tv) (fun (y98:(bif bif !decide (measN b=measN (lateB b k)) then true else !decide (measE b=measE (lateB b k)) then true else !decide (checkB b=0))=false)=>(o64 hpre y9 x12 hx12 y15 x18 hx18 y21 y31 y77 y98))) (Ak 1 (An (fun (y99:(!bif bif bif !decide (measN b=measN (lateB b k)) then true else !decide (measE b=measE (lateB b k)) then true else !decide (checkB b=0) then true else !decide (checkB (lateB b k)=0))=true)=>(An (Ak 1 tv) tv)) (An (fun (y100:(!bif bif bif !decide (measN b=measN (lateB b k)) then true else !decide (measE b=measE (lateB b k)) then true else !decide (checkB b=0) then true else !decide (checkB (lateB b k)=0))=true)=>(An (An (fun (y101:(!bif bif bif !decide (measN b=measN (lateB b k)) then true else !decide (measE b=measE (lateB b k)) then true else !decide (checkB b=0) then true else !decide (checkB (lateB b k)=0))=true)=>y100) tv) tv)) (An (fun (y102:(!bif bif bif !decide (measN b=measN (lateB b k)) then true else !decide (measE b=measE (lateB b k)) then true else !decide (checkB b=0) then true else !decide (checkB (lateB b k)=0))=true)=>(An (Ak 1 tv) tv)) (An (fun (y103:(!bif bif bif !decide (measN b=measN (lateB b k)) then true else !decide (measE b=measE (lateB b k)) then true else !decide (checkB b=0) then true else !decide (checkB (lateB b k)=0))=true)=>(An (An (fun (y104:(!bif bif bif !decide (measN b=measN (lateB b k)) then true else !decide (measE b=measE (lateB b k)) then true else !decide (checkB b=0) then true else !decide (checkB (lateB b k)=0))=true)=>y103) tv) tv)) (An (fun (y105:(!bif bif bif !decide (measN b=measN (lateB b k)) then true else !decide (measE b=measE (lateB b k)) then true else !decide (checkB b=0) then true else !decide (checkB (lateB b k)=0))=true)=>(An (An (fun (y106:(!bif bif bif !decide (measN b=measN (lateB b k)) then true else !decide (measE b=measE (lateB b k)) then true else !decide (checkB b=0) then true else !decide (checkB (lateB b k)=0))=true)=>y105) (An (fun (y107:(!bif bif bif !decide (measN b=measN (lateB b k)) then true else !decide (measE b=measE (lateB b k)) then true else !decide (checkB b=0) then true else !decide (checkB (lateB b k)=0))=true)=>y105) tv)) tv)) (An (An (fun (y108:(bif bif bif !decide (measN b=measN (lateB b k)) then true else !decide (measE b=measE (lateB b k)) then true else !decide (checkB b=0) then true else !decide (checkB (lateB b k)=0))=true)=>tv) (fun (y109:(bif bif bif !decide (measN b=measN (lateB b k)) then true else !decide (measE b=measE (lateB b k)) then true else !decide (checkB b=0) then true else !decide (checkB (lateB b k)=0))=false)=>(o65 hpre y9 x12 hx12 y15 x18 hx18 y21 y31 y77 y109))) (Ak 1 (An (fun (y110:(!bif bif bif bif !decide (measN b=measN (lateB b k)) then true else !decide (measE b=measE (lateB b k)) then true else !decide (checkB b=0) then true else !decide (checkB (lateB b k)=0) then true else !decide ((↑((if okBook b=true then stds b else []).length):Int)=(↑((if okBook (lateB b k)=true then stds (lateB b k) else []).length):Int)))=true)=>(An (Ak 1 tv) tv)) (An (fun (y111:(!bif bif bif bif !decide (measN b=measN (lateB b k)) then true else !decide (measE b=measE (lateB b k)) then true else !decide (checkB b=0) then true else !decide (checkB (lateB b k)=0) then true else !decide ((↑((if okBook b=true then stds b else []).length):Int)=(↑((if okBook (lateB b k)=true then stds (lateB b k) else []).length):Int)))=true)=>(An (An (fun (y112:(!bif bif bif bif !decide (measN b=measN (lateB b k)) then true else !decide (measE b=measE (lateB b k)) then true else !decide (checkB b=0) then true else !decide (checkB (lateB b k)=0) then true else !decide ((↑((if okBook b=true then stds b else []).length):Int)=(↑((if okBook (lateB b k)=true then stds (lateB b k) else []).length):Int)))=true)=>y111) tv) tv)) (An (fun (y113:(!bif bif bif bif !decide (measN b=measN (lateB b k)) then true else !decide (measE b=measE (lateB b k)) then true else !decide (checkB b=0) then true else !decide (checkB (lateB b k)=0) then true else !decide ((↑((if okBook b=true then stds b else []).length):Int)=(↑((if okBook (lateB b k)=true then stds (lateB b k) else []).length):Int)))=true)=>(An (An (fun (y114:(!bif bif bif bif !decide (measN b=measN (lateB b k)) then true else !decide (measE b=measE (lateB b k)) then true else !decide (checkB b=0) then true else !decide (checkB (lateB b k)=0) then true else !decide ((↑((if okBook b=true then stds b else []).length):Int)=(↑((if okBook (lateB b k)=true then stds (lateB b k) else []).length):Int)))=true)=>y113) (Ak 1 tv)) tv)) (An (An (fun (y115:(bif bif bif bif !decide (measN b=measN (lateB b k)) then true else !decide (measE b=measE (lateB b k)) then true else !decide (checkB b=0) then true else !decide (checkB (lateB b k)=0) then true else !decide ((↑((if okBook b=true then stds b else []).length):Int)=(↑((if okBook (lateB b k)=true then stds (lateB b k) else []).length):Int)))=true)=>tv) (fun (y116:(bif bif bif bif !decide (measN b=measN (lateB b k)) then true else !decide (measE b=measE (lateB b k)) then true else !decide (checkB b=0) then true else !decide (checkB (lateB b k)=0) then true else !decide ((↑((if okBook b=true then stds b else []).length):Int)=(↑((if okBook (lateB b k)=true then stds (lateB b k) else []).length):Int)))=false)=>(o66 hpre y9 x12 hx12 y15 x18 hx18 y21 y31 y77 y116))) tv))))))))))))))))))))))))) ?_
      refine zI (bif bif bif bif bif !decide (measN b=measN (lateB b k)) then true else !decide (measE b=measE (lateB b k)) then true else !decide (checkB b=0) then true else !decide (checkB (lateB b k)=0) then true else !decide ((↑((if okBook b=true then stds b else []).length):Int)=(↑((if okBook (lateB b k)=true then stds (lateB b k) else []).length):Int)) then true else decide (6 < (↑((if okBook b=true then stds b else []).length):Int))) (fun y117 => ?_) (fun y117 => ?_)
      ·refine swp_seq ?_
       refine zR [6] [] (Ak 1 tv) ?_
       refine swp_ret ?_
       exact zT [] (An (Ak 1 tv) (An (An (cb (o67 hpre y9 x12 hx12 y15 x18 hx18 y21 y31 y77 y117)) (zr nilN)) (An (zr true) (An (zr true) (zr true)))))
      ·refine swp_skip ?_
       refine swp_seq ?_
       refine swp_seq ?_
       refine zR [2,22,24,26] [] (Ak 1 tv) ?_
       refine swp_block ?_
       refine zL (Hint.ann (h13c b ls k) [(2,iv k),(22,aDays (if okBook b=true then stds b else [])),(24,aDays (if okBook (lateB b k)=true then stds (lateB b k) else []))] [] 31184) (zE hE [] [] [2,22,24] [] (An (An (An (zr (iv k)) (zr true)) (An (An (zr (aDays (if okBook b=true then stds b else []))) (zr true)) (An (An (zr (aDays (if okBook (lateB b k)=true then stds (lateB b k) else []))) (zr true)) (An (An (ci (o68 hpre y9 x12 hx12 y15 x18 hx18 y21 y31 y77 y117)) (zr nilN)) tv)))) (Ak 1 (An (zr true) (zr true))))) (o69 hpre y9 x12 hx12 y15 x18 hx18 y21 y31 y77 y117) (fun (x118:Nat) hx118 => ?_)
       refine swp_seq ?_
       refine swp_seq ?_
       refine zR [2,22,24,26,189] [] (Ak 4 tv) ?_
       refine zI (decide ((x118:Int) < (↑((if okBook b=true then stds b else []).length):Int))) (fun y119 => ?_) (fun y119 => ?_)
       ·refine swp_skip ?_
        refine swp_seq ?_
        refine swp_block ?_
        refine swp_seq ?_
        refine zC ([(17,CallSpec.eq (s33 ((if okBook b=true then stds b else []).getD x118 default).day 0 13) [true,true,true])]) [2,22,24,26,226] [] (Ak 2 (An (An (o70 hpre y9 x12 hx12 y15 x18 hx18 y21 y31 y77 y117 x118 hx118 y119) (o71 hpre y9 x12 hx12 y15 x18 hx18 y21 y31 y77 y117 x118 hx118 y119)) (Ak 4 (An (An (o72 hpre y9 x12 hx12 y15 x18 hx18 y21 y31 y77 y117 x118 hx118 y119) (o73 hpre y9 x12 hx12 y15 x18 hx18 y21 y31 y77 y117 x118 hx118 y119)) (Ak 4 (An (fun (y120:(!!decide (((if okBook b=true then stds b else []).getD x118 default).ad=((if okBook (lateB b k)=true then stds (lateB b k) else []).getD x118 default).ad))=true)=>(An (Ak 1 tv) tv)) (An (fun (y121:(!!decide (((if okBook b=true then stds b else []).getD x118 default).ad=((if okBook (lateB b k)=true then stds (lateB b k) else []).getD x118 default).ad))=true)=>(An (Ak 1 tv) tv)) (An (fun (y122:(!!decide (((if okBook b=true then stds b else []).getD x118 default).ad=((if okBook (lateB b k)=true then stds (lateB b k) else []).getD x118 default).ad))=true)=>(An (An (fun (y123:(!!decide (((if okBook b=true then stds b else []).getD x118 default).ad=((if okBook (lateB b k)=true then stds (lateB b k) else []).getD x118 default).ad))=true)=>y122) (An (fun (y124:(!!decide (((if okBook b=true then stds b else []).getD x118 default).ad=((if okBook (lateB b k)=true then stds (lateB b k) else []).getD x118 default).ad))=true)=>y122) tv)) (An (o74 hpre y9 x12 hx12 y15 x18 hx18 y21 y31 y77 y117 x118 hx118 y119 y122) (o75 hpre y9 x12 hx12 y15 x18 hx18 y21 y31 y77 y117 x118 hx118 y119 y122)))) (An (fun (y125:(!!decide (((if okBook b=true then stds b else []).getD x118 default).ad=((if okBook (lateB b k)=true then stds (lateB b k) else []).getD x118 default).ad))=true)=>(An (An (fun (y126:(!!decide (((if okBook b=true then stds b else []).getD x118 default).ad=((if okBook (lateB b k)=true then stds (lateB b k) else []).getD x118 default).ad))=true)=>y125) tv) tv)) (An (fun (y127:(!!decide (((if okBook b=true then stds b else []).getD x118 default).ad=((if okBook (lateB b k)=true then stds (lateB b k) else []).getD x118 default).ad))=true)=>(An (An (fun (y128:(!!decide (((if okBook b=true then stds b else []).getD x118 default).ad=((if okBook (lateB b k)=true then stds (lateB b k) else []).getD x118 default).ad))=true)=>y127) tv) tv)) (An (fun (y129:(!!decide (((if okBook b=true then stds b else []).getD x118 default).ad=((if okBook (lateB b k)=true then stds (lateB b k) else []).getD x118 default).ad))=true)=>(An (Ak 1 (An (fun (y130:(!!decide (((if okBook b=true then stds b else []).getD x118 default).ad=((if okBook (lateB b k)=true then stds (lateB b k) else []).getD x118 default).ad))=true)=>y129) (Ak 2 tv))) (An (An (zr (iv ((if okBook b=true then stds b else []).getD x118 default).day)) (An (zr (iv 0)) (An (zr (iv 13)) tv))) (An (t33 ((if okBook b=true then stds b else []).getD x118 default).day (0) (13)) (Ak 2 (fun (i131:Env)=>tv)))))) (An (fun (y132:(!!decide (((if okBook b=true then stds b else []).getD x118 default).ad=((if okBook (lateB b k)=true then stds (lateB b k) else []).getD x118 default).ad))=true)=>(An (An (fun (y133:(!!decide (((if okBook b=true then stds b else []).getD x118 default).ad=((if okBook (lateB b k)=true then stds (lateB b k) else []).getD x118 default).ad))=true)=>y132) tv) tv)) (An (An (fun (y134:(!decide (((if okBook b=true then stds b else []).getD x118 default).ad=((if okBook (lateB b k)=true then stds (lateB b k) else []).getD x118 default).ad))=true)=>tv) (fun (y135:(!decide (((if okBook b=true then stds b else []).getD x118 default).ad=((if okBook (lateB b k)=true then stds (lateB b k) else []).getD x118 default).ad))=false)=>(o76 hpre y9 x12 hx12 y15 x18 hx18 y21 y31 y77 y117 x118 hx118 y119 y135))) (Ak 1 (An (fun (y136:(!bif !decide (((if okBook b=true then stds b else []).getD x118 default).ad=((if okBook (lateB b k)=true then stds (lateB b k) else []).getD x118 default).ad) then true else !within ((if okBook b=true then stds b else []).getD x118 default).day 0 13)=true)=>(An (Ak 1 tv) tv)) (An (fun (y137:(!bif !decide (((if okBook b=true then stds b else []).getD x118 default).ad=((if okBook (lateB b k)=true then stds (lateB b k) else []).getD x118 default).ad) then true else !within ((if okBook b=true then stds b else []).getD x118 default).day 0 13)=true)=>(An (Ak 1 tv) tv)) (An (fun (y138:(!bif !decide (((if okBook b=true then stds b else []).getD x118 default).ad=((if okBook (lateB b k)=true then stds (lateB b k) else []).getD x118 default).ad) then true else !within ((if okBook b=true then stds b else []).getD x118 default).day 0 13)=true)=>(An (An (fun (y139:(!bif !decide (((if okBook b=true then stds b else []).getD x118 default).ad=((if okBook (lateB b k)=true then stds (lateB b k) else []).getD x118 default).ad) then true else !within ((if okBook b=true then stds b else []).getD x118 default).day 0 13)=true)=>y138) (An (fun (y140:(!bif !decide (((if okBook b=true then stds b else []).getD x118 default).ad=((if okBook (lateB b k)=true then stds (lateB b k) else []).getD x118 default).ad) then true else !within ((if okBook b=true then stds b else []).getD x118 default).day 0 13)=true)=>y138) tv)) (An (o77 hpre y9 x12 hx12 y15 x18 hx18 y21 y31 y77 y117 x118 hx118 y119 y138) (o78 hpre y9 x12 hx12 y15 x18 hx18 y21 y31 y77 y117 x118 hx118 y119 y138)))) (An (fun (y141:(!bif !decide (((if okBook b=true then stds b else []).getD x118 default).ad=((if okBook (lateB b k)=true then stds (lateB b k) else []).getD x118 default).ad) then true else !within ((if okBook b=true then stds b else []).getD x118 default).day 0 13)=true)=>(An (An (fun (y142:(!bif !decide (((if okBook b=true then stds b else []).getD x118 default).ad=((if okBook (lateB b k)=true then stds (lateB b k) else []).getD x118 default).ad) then true else !within ((if okBook b=true then stds b else []).getD x118 default).day 0 13)=true)=>y141) tv) tv)) (An (fun (y143:(!bif !decide (((if okBook b=true then stds b else []).getD x118 default).ad=((if okBook (lateB b k)=true then stds (lateB b k) else []).getD x118 default).ad) then true else !within ((if okBook b=true then stds b else []).getD x118 default).day 0 13)=true)=>(An (An (fun (y144:(!bif !decide (((if okBook b=true then stds b else []).getD x118 default).ad=((if okBook (lateB b k)=true then stds (lateB b k) else []).getD x118 default).ad) then true else !within ((if okBook b=true then stds b else []).getD x118 default).day 0 13)=true)=>y143) tv) tv)) (An (fun (y145:(!bif !decide (((if okBook b=true then stds b else []).getD x118 default).ad=((if okBook (lateB b k)=true then stds (lateB b k) else []).getD x118 default).ad) then true else !within ((if okBook b=true then stds b else []).getD x118 default).day 0 13)=true)=>(An (Ak 1 tv) tv)) (An (fun (y146:(!bif !decide (((if okBook b=true then stds b else []).getD x118 default).ad=((if okBook (lateB b k)=true then stds (lateB b k) else []).getD x118 default).ad) then true else !within ((if okBook b=true then stds b else []).getD x118 default).day 0 13)=true)=>(An (Ak 1 tv) tv)) (An (fun (y147:(!bif !decide (((if okBook b=true then stds b else []).getD x118 default).ad=((if okBook (lateB b k)=true then stds (lateB b k) else []).getD x118 default).ad) then true else !within ((if okBook b=true then stds b else []).getD x118 default).day 0 13)=true)=>(An (An (fun (y148:(!bif !decide (((if okBook b=true then stds b else []).getD x118 default).ad=((if okBook (lateB b k)=true then stds (lateB b k) else []).getD x118 default).ad) then true else !within ((if okBook b=true then stds b else []).getD x118 default).day 0 13)=true)=>y147) (An (fun (y149:(!bif !decide (((if okBook b=true then stds b else []).getD x118 default).ad=((if okBook (lateB b k)=true then stds (lateB b k) else []).getD x118 default).ad) then true else !within ((if okBook b=true then stds b else []).getD x118 default).day 0 13)=true)=>y147) tv)) (An (o79 hpre y9 x12 hx12 y15 x18 hx18 y21 y31 y77 y117 x118 hx118 y119 y147) (o80 hpre y9 x12 hx12 y15 x18 hx18 y21 y31 y77 y117 x118 hx118 y119 y147)))) (An (fun (y150:(!bif !decide (((if okBook b=true then stds b else []).getD x118 default).ad=((if okBook (lateB b k)=true then stds (lateB b k) else []).getD x118 default).ad) then true else !within ((if okBook b=true then stds b else []).getD x118 default).day 0 13)=true)=>(An (An (fun (y151:(!bif !decide (((if okBook b=true then stds b else []).getD x118 default).ad=((if okBook (lateB b k)=true then stds (lateB b k) else []).getD x118 default).ad) then true else !within ((if okBook b=true then stds b else []).getD x118 default).day 0 13)=true)=>y150) tv) tv)) (An (fun (y152:(!bif !decide (((if okBook b=true then stds b else []).getD x118 default).ad=((if okBook (lateB b k)=true then stds (lateB b k) else []).getD x118 default).ad) then true else !within ((if okBook b=true then stds b else []).getD x118 default).day 0 13)=true)=>(An (An (fun (y153:(!bif !decide (((if okBook b=true then stds b else []).getD x118 default).ad=((if okBook (lateB b k)=true then stds (lateB b k) else []).getD x118 default).ad) then true else !within ((if okBook b=true then stds b else []).getD x118 default).day 0 13)=true)=>y152) tv) tv)) (An (fun (y154:(!bif !decide (((if okBook b=true then stds b else []).getD x118 default).ad=((if okBook (lateB b k)=true then stds (lateB b k) else []).getD x118 default).ad) then true else !within ((if okBook b=true then stds b else []).getD x118 default).day 0 13)=true)=>(An (Ak 1 tv) tv)) (An (fun (y155:(!bif !decide (((if okBook b=true then stds b else []).getD x118 default).ad=((if okBook (lateB b k)=true then stds (lateB b k) else []).getD x118 default).ad) then true else !within ((if okBook b=true then stds b else []).getD x118 default).day 0 13)=true)=>(An (An (fun (y156:(!bif !decide (((if okBook b=true then stds b else []).getD x118 default).ad=((if okBook (lateB b k)=true then stds (lateB b k) else []).getD x118 default).ad) then true else !within ((if okBook b=true then stds b else []).getD x118 default).day 0 13)=true)=>y155) (An (fun (y157:(!bif !decide (((if okBook b=true then stds b else []).getD x118 default).ad=((if okBook (lateB b k)=true then stds (lateB b k) else []).getD x118 default).ad) then true else !within ((if okBook b=true then stds b else []).getD x118 default).day 0 13)=true)=>y155) tv)) (o81 hpre y9 x12 hx12 y15 x18 hx18 y21 y31 y77 y117 x118 hx118 y119 y155))) (An (fun (y158:(!bif !decide (((if okBook b=true then stds b else []).getD x118 default).ad=((if okBook (lateB b k)=true then stds (lateB b k) else []).getD x118 default).ad) then true else !within ((if okBook b=true then stds b else []).getD x118 default).day 0 13)=true)=>(An (An (fun (y159:(!bif !decide (((if okBook b=true then stds b else []).getD x118 default).ad=((if okBook (lateB b k)=true then stds (lateB b k) else []).getD x118 default).ad) then true else !within ((if okBook b=true then stds b else []).getD x118 default).day 0 13)=true)=>y158) (An (fun (y160:(!bif !decide (((if okBook b=true then stds b else []).getD x118 default).ad=((if okBook (lateB b k)=true then stds (lateB b k) else []).getD x118 default).ad) then true else !within ((if okBook b=true then stds b else []).getD x118 default).day 0 13)=true)=>y158) tv)) tv)) (An (An (fun (y161:(bif !decide (((if okBook b=true then stds b else []).getD x118 default).ad=((if okBook (lateB b k)=true then stds (lateB b k) else []).getD x118 default).ad) then true else !within ((if okBook b=true then stds b else []).getD x118 default).day 0 13)=true)=>tv) (fun (y162:(bif !decide (((if okBook b=true then stds b else []).getD x118 default).ad=((if okBook (lateB b k)=true then stds (lateB b k) else []).getD x118 default).ad) then true else !within ((if okBook b=true then stds b else []).getD x118 default).day 0 13)=false)=>(o82 hpre y9 x12 hx12 y15 x18 hx18 y21 y31 y77 y117 x118 hx118 y119 y162))) tv)))))))))))))))))))))))))))) ?_
        refine zI (bif bif !decide (((if okBook b=true then stds b else []).getD x118 default).ad=((if okBook (lateB b k)=true then stds (lateB b k) else []).getD x118 default).ad) then true else !within ((if okBook b=true then stds b else []).getD x118 default).day 0 13 then true else !decide (((if okBook (lateB b k)=true then stds (lateB b k) else []).getD x118 default).day=((if okBook b=true then stds b else []).getD x118 default).day + k)) (fun y163 => ?_) (fun y163 => ?_)
        ·refine swp_seq ?_
         refine zR [6] [] (Ak 1 tv) ?_
         refine swp_ret ?_
         exact zT [] (An (Ak 1 tv) (An (An (cb (o83 hpre y9 x12 hx12 y15 x18 hx18 y21 y31 y77 y117 x118 hx118 y119 y163)) (zr nilN)) (An (zr true) (An (zr true) (zr true)))))
        ·refine swp_skip ?_
         refine zR [2,22,24,26] [] (Ak 1 (An (o84 hpre y9 x12 hx12 y15 x18 hx18 y21 y31 y77 y117 x118 hx118 y119 y163) (Ak 1 tv))) ?_
         exact zn (zE hE [] [] [2,22,24] [] (An (An (An (zr (iv k)) (zr true)) (An (An (zr (aDays (if okBook b=true then stds b else []))) (zr true)) (An (An (zr (aDays (if okBook (lateB b k)=true then stds (lateB b k) else []))) (zr true)) (An (An (ci (o85 hpre y9 x12 hx12 y15 x18 hx18 y21 y31 y77 y117 x118 hx118 y119 y163)) (zr nilN)) tv)))) (Ak 1 (An (zr true) (zr true))))) (o86 hpre y9 x12 hx12 y15 x18 hx18 y21 y31 y77 y117 x118 hx118 y119 y163) (o87 hpre y9 x12 hx12 y15 x18 hx18 y21 y31 y77 y117 x118 hx118 y119 y163)
       ·refine swp_exit ?_
        refine swp_seq ?_
        refine zC ([(0,CallSpec.eq s15 [])]) [6] [] (An (Ak 1 (An (t15) (Ak 2 (fun (i164:Env)=>tv)))) (Ak 1 tv)) ?_
        refine swp_ret ?_
        exact zT [] (An (Ak 1 tv) (An (An (zr (bv true)) (zr nilN)) (An (zr true) (An (zr true) (zr true)))))
theorem t13 (b:Book) (ls:List Int) (k:Int):Triple Try.prog 13 (s13 b ls k):=by
 apply w13
 all_goals (try delta q5v q5w q5x q5y q5z q60 q61 q62 q63 q64 q65 q66 q67 q68 q69)
 case o0=>intro _ h; rw [h]; rfl
 all_goals (rintro ⟨hp,hp1⟩ h; obtain ⟨h0,ht⟩:=cond1 h; obtain ⟨h1,h2,h3⟩:=gvn_ok h0; have hs:=ok_soundB h1; have hg:=are_goodB h2; have hln:=hs.lines; have hgl:=hg.1; have hct:=hs.ctrs; have hsh:=hs.shown; have hbg:=big_ge)
 all_goals (simp only [Bool.not_eq_false',Go.Sh.within_iff] at ht; obtain ⟨t0,t1⟩:=ht)
 case o1=>exact sound_smallB hs
 case o2=>rfl
 case o3=>intro i _; rfl
 case o4=>omega
 all_goals (intro i hi hil; simp only [decide_eq_true_eq,decide_eq_false_iff_not] at hil)
 all_goals (try (first | omega | rfl))
 case o8 =>
  have:=hs.show_ i (by omega)
  unfold lateSTo; rw [if_neg (Nat.lt_irrefl i)]
  simp only [inI]; omega
 case o12=>simp only [inI]; omega
 case o14 =>
  intro j hj
  unfold lateSTo
  refine rec_ei8 (fun h => ?_) (fun h => ?_)
  ·by_cases c:j < i
   ·rw [if_pos c,if_pos (by omega)]
   ·rw [if_neg c,if_neg (by omega)]
  ·rw [if_neg (Nat.lt_irrefl i),h,if_pos (by omega)]; rfl
 case o18=>intro j _; rfl
 all_goals (intro c hc hcl; simp only [decide_eq_true_eq,decide_eq_false_iff_not] at hcl)
 all_goals (try (first | omega | rfl | (intro j _; rfl)))
 case o23 =>
  have:=hs.ctr c (by omega)
  unfold lateCTo; rw [if_neg (Nat.lt_irrefl c)]
  simp only [inI]; omega
 case o27=>simp only [inI]; omega
 case o29 =>
  intro j hj
  unfold lateCTo
  refine rec_ei8 (fun h => ?_) (fun h => ?_)
  ·by_cases c1:j < c
   ·rw [if_pos c1,if_pos (by omega)]
   ·rw [if_neg c1,if_neg (by omega)]
  ·rw [if_neg (Nat.lt_irrefl c),h,if_pos (by omega)]; rfl
 all_goals (have hsl:(lateB b k).shown.length=b.shown.length:=by simp [lateB])
 all_goals (have hcl2:=late_len (b:=b) k)
 case o34=>exact hsl.symm
 case o35 =>
  intro j hj
  rw [hsl] at hj
  have e:shB (lateB b k) j=lateS k (shB b j):=by
   unfold shB lateB
   rw [getD_lt _ _ (by simpa using hj),getD_lt _ _ hj,List.getElem_map]
  rw [e]
  unfold lateSTo
  rw [if_pos (by omega)]
 case o38=>exact hcl2.symm
 case o39 =>
  intro j hj
  rw [hcl2] at hj
  rw [late_get _ hj]
  unfold lateCTo
  rw [if_pos (by omega)]
 case o40=>exact ⟨hp.1,by rw [hsl]; exact hp.2.1,by rw [hcl2]; exact hp.2.2⟩
 all_goals (intro gr; have ho:=ready_okB gr; have hos:=ok_soundB ho)
 all_goals (have hb1:=bill_ok2 h1 h2; have hb2:=bill_ok2 (b:=lateB b k) (ls:=ls) ho h2; have hlb:=late_best hs hos hg; have f1:=hb1.2; have f2:=hb2.2; have f3:=late_owed hs hos)
 all_goals (have f4:billL (lateB b k) ls=billL b ls:=by rw [hb1.1,hb2.1,hlb])
 all_goals (have f5:measN (lateB b k)=measN b:=by unfold measN; rw [h1,ho,show (lateB b k).lines=b.lines from rfl,late_meas hs hos _ (Nat.le_refl _)])
 all_goals (have f6:measE (lateB b k)=measE b:=by unfold measE; rw [h1,ho]; rfl)
 all_goals (have f7:=chk_zero h1; have f8:=chk_zero ho; have f9:(if okBook b=true then stds b else [])=stds b:=if_pos h1; have f10:(if okBook (lateB b k)=true then stds (lateB b k) else [])=stds (lateB b k):=if_pos ho)
 all_goals (have f11:(stds (lateB b k)).length=(stds b).length:=by rw [late_stds hs hos,List.length_map])
 all_goals (have hst:=stds_small hs; have f12:decide (6 < ((stds b).length:Int))=false:=decide_eq_false (by omega))
 all_goals (have f13:sameInts (billL b ls) (billL b ls)=true:=by simp [sameInts])
 all_goals (have f14:(billL b ls).length<=6:=by rw [hb1.1]; exact best_len hs hg)
 all_goals (try simp only [f1,f2,f3,f4,f5,f6,f7,f8,f9,f10,f11,f12,f13,decide_true,Bool.not_true,Bool.not_false,cond_false,cond_true,Bool.cond_true_left,Bool.false_or,Bool.or_false,Bool.and_true])
 all_goals (try (intros; first | omega | rfl | exact sound_smallB hs | exact sound_smallB hos | exact h1 | exact ho | (simp only [inI]; omega)))
 all_goals (try (intro hz; cases hz; done))
 all_goals (intro _ _ n hn hnl; simp only [decide_eq_true_eq,decide_eq_false_iff_not] at hnl; try omega)
 all_goals (have g0:=late_sd hs hos (i:=n) (by omega); unfold sdA at g0; rw [g0])
 all_goals (have gm:=std_day (getD_mem (stds b) default (show n < (stds b).length by omega)))
 all_goals (have g1:decide (((stds b).getD n default).ad=(lateD k ((stds b).getD n default)).ad)=true:=decide_eq_true rfl; have g2:within ((stds b).getD n default).day 0 13=true:=Go.Sh.within_iff.2 (by omega); have g3:decide ((lateD k ((stds b).getD n default)).day=((stds b).getD n default).day + k)=true:=decide_eq_true rfl)
 all_goals (simp only [g1,g2,g3,Bool.not_true,Bool.not_false,Bool.or_false])
 all_goals (intros; first | omega | rfl | (simp only [inI]; omega) | simp_all)
end Go.Ab
namespace Go.Ab
open Go Go.RowKit
def Dec (P:Program) (t:TypeId) {α:Type} (c:α->List AV) (ok:α->Prop):Prop :=
 ∀ {H:Type} (enc:TypeId × Value->H) (w:World) (E:Env) (fuel:Nat) (cs:List Value) (d:DataW H) (ps:List MemPlace),
  (∀ b,E.M b=w.heap[b]?)->DataW.trod enc P w 0 (fun _=>true) true fuel t cs=some (d,ps)->(∀ n ∈ d.weights P t,n<=reachBytes) -> ∃ a,ok a /\ ∀ o,RelL E o (c a) cs
theorem mcell_of {E:Env} {w:World} (h:∀ b,E.M b=w.heap[b]?) {a:Addr} {v:Value} (hc:w.cell? a=some v):a.spot=none/\mcell E.M a.block a.off=some v:=by
 refine ⟨World.cell?_spot hc,?_⟩
 have hs:=World.cell?_spot hc
 unfold World.cell? at hc
 unfold mcell
 rw [h]
 split at hc
 ·rename_i c t fr e
  rw [hs] at hc
  rw [e]
  simpa using hc
 ·cases hc
theorem lit_wf {n:Int} (h:(Lit.int .i64 n).wf=true) : -9223372036854775808<=n/\n<=9223372036854775807:=by
 simpa [Lit.wf,IntKind.min,IntKind.max,IntKind.signed,IntKind.bits] using h
theorem dec_int {P:Program} {t:TypeId} (ht:P.underlying t=some (.int .i64)):Dec P t (fun n=>[iv n]) (fun n => -9223372036854775808<=n/\n<=9223372036854775807):=by
 intro H enc w E fuel cs d ps _ h _
 obtain ⟨n,rfl,_,hw⟩:=DataW.trod_int ht h
 exact ⟨n,lit_wf hw,fun o => .cons (.lit _) rfl .nil⟩
theorem weightsAll_mem {H:Type} {P:Program} {e:TypeId}:∀ {l:List (DataW H)} {d:DataW H},d ∈ l -> ∀ n ∈ d.weights P e,n ∈ DataW.weightsAll P e l:=by
 intro l
 induction l with
 | nil=>intro d h; cases h
 | cons x l ih =>
  intro d h n hn
  rw [DataW.weightsAll,List.mem_append]
  rcases List.mem_cons.1 h with rfl | h
  ·exact .inl hn
  ·exact .inr (ih h n hn)
theorem dec_slice {P:Program} {t e:TypeId} {α:Type} [Inhabited α] {c:α->List AV} {ok:α->Prop} (ht:P.underlying t=some (.slice e)) {sz:Nat} (hsz:P.cellsOf e=sz) (hpos:0 < sz) (hby:0 < P.bytesOf e) (he:Dec P e c ok) :
  Dec P t (fun l:List α=>[.sl sz l.length (fun i=>c (l.getD i default))]) (fun l=>l.length<=140737488355328 /\ ∀ a,a ∈ l->ok a):=by
 intro H enc w E fuel cs d ps hE h hw
 rcases Deep.open_slice ht h with ⟨rfl,hx⟩ | ⟨a,len,cap,m,n,D,Pl,rfl,hb,hl,hm,hmm,hx,hall⟩
 ·refine ⟨[],⟨Nat.zero_le _,fun a ha=>by cases ha⟩,fun o => ?_⟩
  exact .cons (.slN _ _) rfl .nil
 ·simp only [if_true] at hmm
  subst hmm
  rw [hsz] at hall
  obtain ⟨rfl,rfl⟩:=Prod.mk.inj hx
  have hwt:∀ i,i < len -> ∀ k ∈ (D i).weights P e,k<=reachBytes:=by
   intro i hi k hk
   refine hw k ?_
   rw [DataW.weights,ht]
   refine List.mem_cons_of_mem _ (List.mem_append_left _ (weightsAll_mem (d:=D i) ?_ k hk))
   exact List.mem_map.2 ⟨i,List.mem_range.2 hi,rfl⟩
  have hlen:len<=140737488355328:=by
   have h1:(((List.range len).map D).length + ((List.range (m - len)).map fun j=>D (len + j)).length) * P.bytesOf e<=reachBytes:=by
    refine hw _ ?_
    rw [DataW.weights,ht]
    exact List.mem_cons_self ..
   simp only [List.length_map,List.length_range] at h1
   have h2:len<=(len + (m - len)) * P.bytesOf e:=Nat.le_trans (Nat.le_add_right _ _) (Nat.le_mul_of_pos_right _ hby)
   have h3:=reachBytes_lt
   omega
  obtain ⟨g,hg⟩:=Deep.choose_lt (α:=List Value) (p:=fun i cs'=>w.cells? 0 (a.add (i * sz)) sz=some cs'/\DataW.trod enc P w 0 (fun _=>true) true n e cs'=some (D i,Pl i)) hall
  have hdec:∀ i,i < len -> ∃ x,ok x /\ ∀ o,RelL E o (c x) (g i):=fun i hi=>he enc w E n (g i) (D i) (Pl i) hE (hg i (by omega)).2 (hwt i hi)
  obtain ⟨A,hA⟩:=Deep.choose_lt (α:=α) (p:=fun i x=>ok x /\ ∀ o,RelL E o (c x) (g i)) hdec
  refine ⟨(List.range len).map A,⟨by simpa using hlen,fun x hx => ?_⟩,fun o => .cons ?_ rfl .nil⟩
  ·obtain ⟨i,hi,rfl⟩:=List.mem_map.1 hx
   exact (hA i (List.mem_range.1 hi)).1
  ·rw [List.length_map,List.length_range]
   have hcell:∀ i k,i < m->k < sz -> ∃ v,(g i)[k]? = some v/\w.cell? ((a.add (i * sz)).add k)=some v:=by
    intro i k hi hk
    obtain ⟨_,hl1,hl2⟩:=World.cells?_some (hg i hi).1
    have:=hl2 k hk
    obtain ⟨v,hv⟩:∃ v,(g i)[k]? = some v:=⟨_,List.getElem?_eq_getElem (by omega)⟩
    exact ⟨v,hv,by rw [this,hv]⟩
   by_cases h0:m=0
   ·subst h0
    obtain rfl:len=0:=by omega
    exact .slZ _ _ _
   ·obtain ⟨v,_,hv⟩:=hcell 0 0 (by omega) hpos
    have hsp:=(mcell_of hE hv).1
    obtain ⟨b,off,spot⟩:=a
    obtain rfl:spot=none:=by simpa [Addr.add] using hsp
    refine .slA sz len _ b off m g hl hm (fun i hi => ?_) (fun i k hi hk => ?_) (fun i hi => ?_)
    ·exact (World.cells?_some (hg i (by omega)).1).2.1
    ·obtain ⟨v,hv1,hv2⟩:=hcell i k (by omega) hk
     rw [hv1]
     have:=(mcell_of hE hv2).2
     rw [addr_add,addr_add] at this
     exact this
    ·have:((List.range len).map A).getD i default=A i:=by
      rw [List.getD_eq_getElem?_getD,List.getElem?_map,List.getElem?_range hi]; rfl
     rw [this]
     exact (hA i hi).2 false
def DecFs (P:Program) (off fin:Nat) (fs:List Field) {α:Type} (c:α->List AV) (ok:α->Prop):Prop :=
 ∀ {H:Type} (enc:TypeId × Value->H) (w:World) (E:Env) (n:Nat) (cs:List Value) (xs:List (DataW H × List MemPlace)),
  (∀ b,E.M b=w.heap[b]?)->cs.length=fin->xs.length=fs.length->(∀ (i:Nat) (f:Field),fs[i]? = some f->DataW.trod enc P w 0 (fun _=>true) true n f.type ((cs.drop f.offset).take (P.cellsOf f.type))=xs[i]?) →
  (∀ k ∈ DataW.weightsEach P (fs.map (·.type)) (xs.map (·.1)),k<=reachBytes) -> ∃ a,ok a /\ ∀ o,RelL E o (c a) (cs.drop off)
theorem decFs_nil {P:Program} {fin:Nat}:DecFs P fin fin [] (fun _:Unit=>[]) (fun _=>True):=by
 intro H enc w E n cs xs _ hl _ _ _
 refine ⟨(),trivial,fun o => ?_⟩
 rw [List.drop_of_length_le (by omega)]
 exact .nil
theorem decFs_cons {P:Program} {off mid fin:Nat} {f:Field} {fs:List Field} {α β:Type} {c1:α->List AV} {ok1:α->Prop} {c2:β->List AV} {ok2:β->Prop} {t:TypeId} (hft:f.type=t) (ho:f.offset=off) (hm:off + P.cellsOf t=mid)
  (h1:Dec P t c1 ok1) (h2:DecFs P mid fin fs c2 ok2):DecFs P off fin (f :: fs) (fun p:α × β=>c1 p.1 ++ c2 p.2) (fun p=>ok1 p.1/\ok2 p.2):=by
 intro H enc w E n cs xs hE hl hx hall hw
 subst hft; subst ho; subst hm
 cases xs with
 | nil=>simp at hx
 | cons x xs =>
  have h0:=hall 0 f rfl
  simp only [List.getElem?_cons_zero] at h0
  obtain ⟨a,ha,hra⟩:=h1 enc w E n _ x.1 x.2 hE h0 (fun k hk=>hw k (by
   simp only [List.map_cons,DataW.weightsEach]
   exact List.mem_append_left _ hk))
  obtain ⟨b,hb,hrb⟩:=h2 enc w E n cs xs hE hl (by simpa using hx) (fun i g hg=>by
   have:=hall (i + 1) g (by simpa using hg)
   simpa using this) (fun k hk=>hw k (by
   simp only [List.map_cons,DataW.weightsEach]
   exact List.mem_append_right _ hk))
  refine ⟨(a,b),⟨ha,hb⟩,fun o => ?_⟩
  have:=(hra o).append (hrb o)
  rw [← List.drop_drop,List.take_append_drop] at this
  exact this
theorem dec_struct {P:Program} {t:TypeId} {fs:Array Field} {sz:Nat} {α:Type} {c:α->List AV} {ok:α->Prop} (ht:P.underlying t=some (.struct fs)) (hsz:P.cellsOf t=sz) (h:DecFs P 0 sz fs.toList c ok):Dec P t c ok:=by
 intro H enc w E fuel cs d ps hE hd hw
 obtain ⟨xs,n,_,hx,hl,hxl,hall⟩:=DataW.trod_struct ht hd
 obtain ⟨rfl,rfl⟩:=Prod.mk.inj hx
 obtain ⟨a,ha,hr⟩:=h enc w E n cs xs hE (by omega) (by simpa using hxl) (fun i f hf=>hall i f (by simpa using hf)) (fun k hk=>hw k (by rw [DataW.weights,ht]; exact hk))
 exact ⟨a,ha,fun o=>by simpa using hr o⟩
theorem Dec.map {P:Program} {t:TypeId} {α β:Type} {c:α->List AV} {ok:α->Prop} {c':β->List AV} {ok':β->Prop} (h:Dec P t c ok) (g:α->β) (hc:∀ a,ok a->c' (g a)=c a) (hok:∀ a,ok a->ok' (g a)):Dec P t c' ok':=by
 intro H enc w E fuel cs d ps hE hd hw
 obtain ⟨a,ha,hr⟩:=h enc w E fuel cs d ps hE hd hw
 exact ⟨g a,hok a ha,fun o=>by rw [hc a ha]; exact hr o⟩
theorem Dec.arg {P:Program} {t:TypeId} {α:Type} {c:α->List AV} {ok:α->Prop} (h:Dec P t c ok) {H:Type} {enc:TypeId × Value->H} {w:World} {E:Env} (hE:∀ b,E.M b=w.heap[b]?) {v:Value} {d:DataW H} {ps:List MemPlace}
  (hd:DataW.Trod enc P w 0 (fun _=>true) true t v d ps) (hw:∀ n ∈ d.weights P t,n<=reachBytes):∃ a,ok a /\ ∀ o,RelL E o (c a) v.cells.toList:=by
 obtain ⟨fuel,hf⟩:=hd
 exact h enc w E fuel _ d ps hE hf hw
def envOf (w:World):Env:={ M:=fun b=>w.heap[b]?,blk:=fun _=>none,hdr:=fun _=>none,fns:=fun _ _=>False }
theorem heapOK_of (P:Program) (w:World):HeapOK (calleeCtx P (envOf w) w []) (envOf w) (Heap.of []) w where
 os:=rfl
 tape:=rfl
 output:=rfl
 size:=Nat.le_refl _
 pres:=fun _ _=>rfl
 mem:=fun _ _ h=>h
 le:=Env.le.refl _
 ext:=fun _ _ h => .inl h
 own:=fun id ob h=>by cases h
 sep:=fun i j k _ h=>absurd rfl h
theorem trodAll_below {H:Type} {enc:TypeId × Value->H} {P:Program} (hl:laidOutB P=true) {W W':World} (hb:Below W.heap.size W W'):∀ {ts:List TypeId} {vs:List Value} {ds:List (DataW H)} {ps:List MemPlace},
  (∀ t ∈ ts,P.readableRec t=true/\t < P.types.size)->DataW.TrodAll enc P W 0 (fun _=>true) true ts vs ds ps->(∀ x ∈ ps,x.block < W.heap.size) →
  DataW.TrodAll enc P W' 0 (fun b=>decide (b < W.heap.size)) true ts vs ds ps:=by
 intro ts
 induction ts with
 | nil =>
  intro vs ds ps _ h _
  obtain ⟨rfl,rfl,rfl⟩:=ChangeShapes.trodAll_nil h
  exact ChangeShapes.trodAll_mk0
 | cons t ts ih =>
  intro vs ds ps hr h hlt
  obtain ⟨v,vs',d,ds',p,q,rfl,rfl,rfl,hd,hrest⟩:=ChangeShapes.trodAll_cons h
  obtain ⟨h1,h2⟩:=hr t (List.mem_cons_self ..)
  exact ⟨p,q,Below.trod hl h1 h2 hd hb (fun x hx=>hlt x (List.mem_append_left _ hx)),ih (fun t ht=>hr t (List.mem_cons_of_mem _ ht)) hrest (fun x hx=>hlt x (List.mem_append_right _ hx)),rfl⟩
theorem law_contract {P:Program} (hl:laidOutB P=true) {f:FuncId} {fn:Func} {s:ChangeSpec} (hvars:s.vars = []) {tb:TypeId} (hres:fn.resultTypes = #[tb]) (htb:P.underlying tb=some .bool)
  (hread:∀ t ∈ fn.params.toList,P.readableRec t=true/\t < P.types.size)
  {H:Type} {enc:TypeId × Value->H} {W:World} {args:Array Value} {ds gs:List (DataW H)} {before:List MemPlace}
  (hfn:ds.length=fn.params.size->s.fn H ds = { results:=[.lit (.bool true)],args:=ds })
  (hW:DataW.Whole enc P fn.params.toList s.vars false W args.toList ds gs before) {sp:CallSpec} (ht:Triple P f sp) (hp:sp.pre) (hfo:∀ E,sp.fnok E) (hin:sp.hin = []) (hout:sp.hout = []) (hr:sp.res=bv true)
  (hla:args.toList.length=sp.args.length) (hra:∀ k,Rel (envOf W) true (sp.args.getD k .any) (args.toList.getD k undef)) :
  Calls P f args W fun e W' => ∃ v,e = .returned v/\s.post enc P fn false true false false W args v W':=by
 have hok:=heapOK_of P W
 have h:=ht.2 hp (envOf W) W args.toList (hfo _) (by rw [hin]; exact hok) hla hra
 refine (h (by rw [hout]; intro p hp; cases hp)).mono fun e W' hpost => ?_
 obtain ⟨v,E',he,hh,hv,_⟩:=hpost
 rw [hr] at hv
 have hvt:v = .bool true:=by cases hv; rfl
 subst hvt
 have hb:Below W.heap.size W W':=⟨hh.os,hh.tape,hh.output,hh.size,fun k hk=>hh.pres k (by
  rintro (hc | ⟨q,hq,_⟩)
  ·exact absurd hk (Nat.not_lt.2 hc)
  ·rw [hin] at hq; cases hq)⟩
 refine ⟨_,he,?_⟩
 have hW':=hW
 obtain ⟨p,q,hA,hV,rfl,hz,hnd⟩:=hW
 rw [hvars] at hV
 obtain ⟨rfl,rfl⟩:=ChangeShapes.trodVars_none hV
 have hlen:ds.length=fn.params.size:=by
  have:∀ {ts:List TypeId} {vs:List Value} {ds:List (DataW H)} {ps:List MemPlace},DataW.TrodAll enc P W 0 (fun _=>true) true ts vs ds ps->ds.length=ts.length:=by
   intro ts
   induction ts with
   | nil=>intro vs ds ps h; obtain ⟨_,rfl,_⟩:=ChangeShapes.trodAll_nil h; rfl
   | cons t ts ih=>intro vs ds ps h; obtain ⟨_,_,_,_,_,_,rfl,rfl,rfl,_,hr⟩:=ChangeShapes.trodAll_cons h; simp [ih hr]
  simpa using this hA
 refine ⟨ds,[],p ++ [],[],p,[],hW',?_,?_,?_,hb.frame _,fun h=>by cases h⟩
 ·rw [List.append_nil,hfn hlen,hres]
  exact ChangeShapes.trodAll_mk1 (shut_bool htb true)
 ·rw [List.append_nil,hfn hlen]
  exact trodAll_below hl hb hread hA (fun x hx=>hW'.lt x (List.mem_append_left _ hx))
 ·rw [List.append_nil,hfn hlen,hvars]
  rfl
end Go.Ab
namespace Go.Ab
open Go Go.RowKit Go.Proofs Go.Sh Go.En
theorem dInt:Dec Try.prog 3 (fun n=>[iv n]) (fun n => -9223372036854775808<=n/\n<=9223372036854775807):=dec_int Try.underlying3
theorem dInts:Dec Try.prog 27 (fun l:List Int=>[aInts l]) (fun l=>l.length<=140737488355328) :=
 Dec.map (dec_slice (α:=Int) Try.underlying27 (by kernel_rfl) (by decide) (Nat.lt_of_lt_of_eq (by decide:0 < 8) (by kernel_rfl)) dInt) id (fun _ _=>rfl) (fun _ h=>h.1)
set_option maxRecDepth 100000
theorem laidOut:laidOutB Try.prog=true:=by kernel_rfl
section
variable {H:Type} {enc:TypeId × Value->H} {W:World} {base:Nat} {v:Value} {d:DataW H} {ps:List MemPlace}
theorem arg_struct {t:TypeId} {fs:Array Field} {α:Type} {c:α->List AV} {ok:α->Prop} (ht:Try.prog.underlying t=some (.struct fs)) (hD:Dec Try.prog t c ok) (hval:Value.okWide Try.prog W .any base t v) (hd:DataW.Trod enc Try.prog W 0 (fun _=>true) true t v d ps) (hw:∀ n ∈ d.weights Try.prog t,n<=reachBytes) :
  ∃ a,ok a/\Rel (envOf W) true (.agg (c a)) v:=by
 unfold Value.okWide at hval
 rw [ht] at hval
 obtain ⟨cs,rfl,_⟩:=hval
 obtain ⟨a,ha,hr⟩:=hD.arg (E:=envOf W) (fun _=>rfl) hd hw
 refine ⟨a,ha,?_⟩
 have h:=Rel.agg (hr true)
 simpa [Value.cells] using h
theorem arg_int (hval:Value.okWide Try.prog W .any base 3 v) (hd:DataW.Trod enc Try.prog W 0 (fun _=>true) true 3 v d ps):∃ n:Int,(-9223372036854775808<=n/\n<=9223372036854775807)/\Rel (envOf W) true (iv n) v:=by
 obtain ⟨n,rfl,_,_,hw⟩:=ChangeShapes.open_int Try.underlying3 hval hd
 exact ⟨n,lit_wf hw,.lit _⟩
end
theorem weights_part {H:Type} {ts:List TypeId} {ds:List (DataW H)} (h:(DataW.weightsEach Try.prog ts ds).all (· <= reachBytes)=true) {j:Nat} {t:TypeId} {d:DataW H} (ht:ts[j]? = some t) (hd:ds[j]? = some d):∀ n ∈ d.weights Try.prog t,n<=reachBytes:=by
 intro n hn
 have:=List.all_eq_true.1 h _ (DataW.weights_mem_each ht hd n hn)
 simpa using this
def ArgD (t:TypeId) (α:Type) (c:α->AV) (ok:α->Prop):Prop :=
 (Try.prog.readableRec t=true/\t < Try.prog.types.size) /\ ∀ {H:Type} {enc:TypeId × Value->H} {W:World} {base:Nat} {v:Value} {d:DataW H} {ps:List MemPlace},Value.okWide Try.prog W .any base t v->DataW.Trod enc Try.prog W 0 (fun _=>true) true t v d ps->(∀ n ∈ d.weights Try.prog t,n<=reachBytes) -> ∃ a,ok a/\Rel (envOf W) true (c a) v
abbrev i64 (n:Int):Prop := -9223372036854775808<=n/\n<=9223372036854775807
theorem argInt:ArgD 3 Int iv i64:=⟨⟨by kernel_rfl,of_decide_eq_true (by kernel_rfl)⟩,fun hv hd _=>arg_int hv hd⟩
theorem argStruct {t:TypeId} {fs:Array Field} {α:Type} {c:α->List AV} {ok:α->Prop} (ht:Try.prog.underlying t=some (.struct fs)) (hr:Try.prog.readableRec t=true/\t < Try.prog.types.size) (hD:Dec Try.prog t c ok):ArgD t α (fun a => .agg (c a)) ok:=⟨hr,fun hv hd hw=>arg_struct ht hD hv hd hw⟩
theorem argInts:ArgD 27 (List Int) aInts (fun l=>l.length<=140737488355328):=⟨⟨by kernel_rfl,of_decide_eq_true (by kernel_rfl)⟩,fun {_ _ W _ v _ _} hval hd hw=>by
 obtain ⟨a,ha,hr⟩:=dInts.arg (E:=envOf W) (fun _=>rfl) hd hw
 refine ⟨a,ha,?_⟩
 have h:=hr true
 unfold Value.okWide at hval
 rw [Try.underlying27] at hval
 cases v with
 | agg cs=>unfold Cell.okWide at hval; rw [Try.underlying27] at hval; simp [Cell.ok,Try.underlying27] at hval
 | _=>cases h with | cons h _ _=>exact h⟩
theorem law_three {f:FuncId} {fn:Func} {s:ChangeSpec} {t1 t2 t3:TypeId} {α β γ:Type} {c1:α->AV} {c2:β->AV} {c3:γ->AV} {ok1:α->Prop} {ok2:β->Prop} {ok3:γ->Prop} (h1:ArgD t1 α c1 ok1) (h2:ArgD t2 β c2 ok2) (h3:ArgD t3 γ c3 ok3)
  (hps:fn.params = #[t1,t2,t3]) (hres:fn.resultTypes = #[4]) (hvars:s.vars = []) (hfn:∀ (H:Type) (d1 d2 d3:DataW H),s.fn H [d1,d2,d3] = { results:=[.lit (.bool true)],args:=[d1,d2,d3] })
  (sp:α->β->γ->CallSpec) (ht:∀ r a b,Triple Try.prog f (sp r a b)) (hargs:∀ r a b,(sp r a b).args = [c1 r,c2 a,c3 b]) (hpre:∀ r a b,ok1 r->ok2 a->ok3 b->(sp r a b).pre)
  (hfo:∀ r a b E,(sp r a b).fnok E) (hin:∀ r a b,(sp r a b).hin = []) (hout:∀ r a b,(sp r a b).hout = []) (hr:∀ r a b,(sp r a b).res=bv true)
  {H:Type} {enc:TypeId × Value->H} {W:World} {base:Nat} {args:Array Value} {ds gs:List (DataW H)} {before:List MemPlace}
  (hval:∀ (j:Nat) t v,fn.params[j]? = some t->args[j]? = some v->Value.okWide Try.prog W .any base t v) (hW:DataW.Whole enc Try.prog fn.params.toList s.vars false W args.toList ds gs before)
  (hsz:(DataW.weightsEach Try.prog (fn.params.toList ++ s.plain.varTypes Try.prog) (ds ++ gs)).all (· <= reachBytes)=true) :
  Calls Try.prog f args W fun e W' => ∃ v,e = .returned v/\s.post enc Try.prog fn false true false false W args v W':=by
 have hW':=hW
 obtain ⟨p,q,hA,_,_,_,_⟩:=hW
 rw [hps] at hA hval hsz
 obtain ⟨v0,v1,v2,d0,d1,d2,p0,p1,p2,rfl,rfl,rfl,g0,g1,g2⟩:=ChangeShapes.trodAll_three hA
 obtain ⟨r,hr0,r0⟩:=h1.2 (hval 0 t1 v0 rfl rfl) g0 (weights_part hsz (j:=0) rfl rfl)
 obtain ⟨a,ha,r1⟩:=h2.2 (hval 1 t2 v1 rfl rfl) g1 (weights_part hsz (j:=1) rfl rfl)
 obtain ⟨b,hb,r2⟩:=h3.2 (hval 2 t3 v2 rfl rfl) g2 (weights_part hsz (j:=2) rfl rfl)
 refine law_contract laidOut hvars hres Try.underlying4 (fun t htt => ?_) (fun _=>hfn H d0 d1 d2) hW' (ht r a b) (hpre r a b hr0 ha hb) (hfo r a b) (hin r a b) (hout r a b) (hr r a b) (by rw [hargs]; rfl) (fun k => ?_)
 ·rw [hps] at htt
  have:t=t1 ∨ t=t2 ∨ t=t3:=by simpa using htt
  rcases this with rfl | rfl | rfl
  ·exact h1.1
  ·exact h2.1
  ·exact h3.1
 ·rw [hargs]
  rcases k with _ | _ | _ | k
  ·exact r0
  ·exact r1
  ·exact r2
  ·exact .any _
end Go.Ab
namespace Go.Ab
open Go Go.RowKit Go.Proofs Go.Sh Go.En
set_option maxRecDepth 100000
theorem dSpan:Dec Try.prog 63 cSpan (fun _=>True) :=
 Dec.map (dec_struct Try.underlying63 (sz:=2) (by kernel_rfl) (decFs_cons (mid:=1) rfl rfl (by kernel_rfl) dInt (decFs_cons (mid:=2) rfl rfl (by kernel_rfl) dInt decFs_nil))) (fun p=>(⟨p.1,p.2.1⟩:Span)) (fun _ _=>rfl) (fun _ _=>trivial)
theorem dShn:Dec Try.prog 70 cShn (fun _=>True) :=
 Dec.map (dec_struct Try.underlying70 (sz:=3) (by kernel_rfl) (decFs_cons (mid:=1) rfl rfl (by kernel_rfl) dInt (decFs_cons (mid:=2) rfl rfl (by kernel_rfl) dInt (decFs_cons (mid:=3) rfl rfl (by kernel_rfl) dInt decFs_nil)))) (fun p=>(⟨p.1,p.2.1,p.2.2.1⟩:Shn)) (fun _ _=>rfl) (fun _ _=>trivial)
theorem dCtr:Dec Try.prog 53 cCtr (fun _=>True) :=
 Dec.map (dec_struct Try.underlying53 (sz:=4) (by kernel_rfl) (decFs_cons (mid:=1) rfl rfl (by kernel_rfl) dInt (decFs_cons (mid:=2) rfl rfl (by kernel_rfl) dInt (decFs_cons (mid:=3) rfl rfl (by kernel_rfl) dInt (decFs_cons (mid:=4) rfl rfl (by kernel_rfl) dInt decFs_nil))))) (fun p=>(⟨p.1,p.2.1,p.2.2.1,p.2.2.2.1⟩:Ctr)) (fun _ _=>rfl) (fun _ _=>trivial)
theorem dSpans:Dec Try.prog 22 (fun l:List Span=>[.sl 2 l.length (fun i=>cSpan (l.getD i default))]) (fun l=>l.length<=140737488355328 /\ ∀ m,m ∈ l->True) :=
 dec_slice (α:=Span) Try.underlying22 (by kernel_rfl) (by decide) (Nat.lt_of_lt_of_eq (by decide:0 < 16) (by kernel_rfl)) dSpan
theorem dShns:Dec Try.prog 23 (fun l:List Shn=>[aShns l]) (fun l=>l.length<=140737488355328 /\ ∀ m,m ∈ l->True) :=
 dec_slice (α:=Shn) Try.underlying23 (by kernel_rfl) (by decide) (Nat.lt_of_lt_of_eq (by decide:0 < 24) (by kernel_rfl)) dShn
theorem dCtrs:Dec Try.prog 24 (fun l:List Ctr=>[.sl 4 l.length (fun i=>cCtr (l.getD i default))]) (fun l=>l.length<=140737488355328 /\ ∀ m,m ∈ l->True) :=
 dec_slice (α:=Ctr) Try.underlying24 (by kernel_rfl) (by decide) (Nat.lt_of_lt_of_eq (by decide:0 < 32) (by kernel_rfl)) dCtr
theorem dBook:Dec Try.prog 26 cBk fitsB:=by
 refine Dec.map (dec_struct Try.underlying26 (sz:=5) (by kernel_rfl) (decFs_cons (mid:=1) rfl rfl (by kernel_rfl) dSpans (decFs_cons (mid:=2) rfl rfl (by kernel_rfl) dShns (decFs_cons (mid:=3) rfl rfl (by kernel_rfl) dInt (decFs_cons (mid:=4) rfl rfl (by kernel_rfl) dInt (decFs_cons (mid:=5) rfl rfl (by kernel_rfl) dCtrs decFs_nil)))))) (fun p=>(⟨p.1,p.2.1,p.2.2.1,p.2.2.2.1,p.2.2.2.2.1⟩:Book)) (fun _ _=>rfl) (fun p h => ?_)
 obtain ⟨⟨h1,_⟩,⟨h2,_⟩,_,_,⟨h3,_⟩,_⟩:=h
 exact ⟨Nat.le_trans h1 (by decide),Nat.le_trans h2 (by decide),Nat.le_trans h3 (by decide)⟩
theorem argBook:ArgD 26 Book (fun b=>vBk b) fitsB:=argStruct Try.underlying26 ⟨by kernel_rfl,of_decide_eq_true (by kernel_rfl)⟩ dBook
end Go.Ab
namespace Go.Proofs.Ytdmkicejjbjdkaa
open Go Go.Ab Go.Sh Go.En Go.RowKit
set_option maxRecDepth 100000
theorem own:ownKnob Try.prog.godebug=none:=by kernel_rfl
def nilArgs:Array Value := #[.agg #[.slice none 0 0,.slice none 0 0,.int .i64 0,.int .i64 0,.slice none 0 0],.slice none 0 0,.int .i64 0]
theorem lifted (os:Os) (started:os.Started) (H:Type) (enc:TypeId × Value->H) :
  ReturnsInHanded {} Try.checked os 13 .any (Rows.advertsLaterSpec.pre6 enc Try.prog Try.f13 Rows.advertsLaterRow.domain false) (Rows.advertsLaterSpec.post enc Try.prog Try.f13 false true false false):=by
 refine returnsInHanded_of_change_sized (C:=Try.checked) own started (by kernel_rfl) Try.func13
  (ChangeSpec.witness6 (enc:=enc) (C:=Try.checked) false ⟨#[],nilArgs,[]⟩ 8 (by kernel_rfl) (by kernel_rfl) (by kernel_rfl) (by kernel_rfl)) ?_
 intro W base args ds gs before hval hW _ hsz _
 exact law_three argBook argInts argInt rfl rfl rfl (fun _ _ _ _=>rfl) s13 t13 (fun _ _ _=>rfl) (fun _ _ _ h0 h1 h2=>⟨h0,Nat.le_trans h1 (by decide)⟩) (fun _ _ _ _=>trivial) (fun _ _ _=>rfl) (fun _ _ _=>rfl) (fun _ _ _=>rfl) hval hW hsz
theorem proved:Rows.AdvertsLaterSaid :=
 OpenClaim.holds_of_wide 13 Try.f13 rfl rfl rfl rfl rfl rfl rfl ⟨rfl,rfl,rfl,rfl,rfl⟩ rfl rfl rfl rfl rfl (by kernel_rfl) Try.func13 (by kernel_rfl)
  (of_decide_eq_true (by kernel_rfl)) (by unfold Func.isWrapper; first | (rw [if_pos (by decide +kernel)]; kernel_rfl) | (rw [if_neg (by decide +kernel)]; exact ⟨rfl,rfl⟩))
  (fun os started H enc _=>lifted os started H enc)
end Go.Proofs.Ytdmkicejjbjdkaa
