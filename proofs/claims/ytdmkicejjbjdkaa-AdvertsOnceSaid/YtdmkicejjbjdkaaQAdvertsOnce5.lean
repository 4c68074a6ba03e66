/- AdvertsOnce returns true for every input, and leaves what it was handed as it was. No condition. -/
import Derived.Test.YtdmkicejjbjdkaaQAdvertsOnce4
import Derived.Deep.Slices
import Derived.ChangeShapes
import Derived.Carry
import Derived.OpenShut
import Derived.SizedLaws
import Derived.Test.YtdmkicejjbjdkaaRows
import Derived.ProofKit
import Derived.JoinedOf
set_option linter.all false
set_option linter.deprecated false
namespace Go.Ab
open Go Go.RowKit Go.Proofs Go.Sh Go.En
theorem open_ok8 (b:Book) (is:Bool):(!decide (openE b is=0)) = !(okBook b && is):=by unfold openE; cases okBook b <;> cases is <;> rfl
theorem open_zero {b:Book} {is:Bool} (h:(okBook b && is)=true):openE b is=0:=by unfold openE; revert h; cases okBook b <;> cases is <;> simp
theorem twiceTo_t {b:Book} {l:List Sday} {n:Nat} (h:twiceAt b l n=true):twiceTo b l (n + 1)=twiceTo b l n ++ [(n:Int)]:=by
 unfold twiceTo; rw [List.range_succ,List.filterMap_append]; simp [h]
theorem twiceTo_f {b:Book} {l:List Sday} {n:Nat} (h:twiceAt b l n=false):twiceTo b l (n + 1)=twiceTo b l n:=by
 unfold twiceTo; rw [List.range_succ,List.filterMap_append]; simp [h]
theorem twiceTo_len (b:Book) (l:List Sday) (n:Nat):(twiceTo b l n).length<=n:=by
 unfold twiceTo; exact Nat.le_trans (List.length_filterMap_le _ _) (by rw [List.length_range]; omega)
theorem twice_cond (b:Book) (l:List Sday) (x:Nat):(bif !hasG (stds b) (l.getD x default) then true else hasG (l.take x) (l.getD x default))=twiceAt b l x:=by
 unfold twiceAt
 show _=(!hasG (stds b) (l.getD x default) || hasG (l.take x) (l.getD x default))
 cases hasG (stds b) (l.getD x default) <;> rfl
abbrev q46 (b:Book) (l:List Sday) (P:Prop):Prop:=smallB b/\l.length<=60000->P
abbrev q47 (b:Book) (l:List Sday) (P:Prop):Prop:=q46 b l ((!decide (openE b (decide ((↑(l.length):Int)<=20))=0))=false->P)
abbrev q48 (l:List Sday) (x2:Nat) (P:Prop):Prop:=x2<=l.length->P
abbrev q49 (l:List Sday) (x2:Nat) (P:Prop):Prop:=q48 l x2 (decide ((x2:Int) < (↑(l.length):Int))=true->P)
abbrev q4a (b:Book) (l:List Sday) (x2:Nat) (P:Prop):Prop:=q49 l x2 ((!!hasG (stds b) (l.getD x2 default))=true->P)
abbrev q4b (b:Book) (l:List Sday) (x2:Nat) (P:Prop):Prop:=q49 l x2 ((bif !hasG (stds b) (l.getD x2 default) then true else hasG (List.take x2 l) (l.getD x2 default))=true->P)
abbrev q4c (b:Book) (l:List Sday) (x2:Nat) (P:Prop):Prop:=q49 l x2 ((bif !hasG (stds b) (l.getD x2 default) then true else hasG (List.take x2 l) (l.getD x2 default))=false->P)
theorem w26 (b:Book) (l:List Sday)
 (o0:q46 b l ((!decide (openE b (decide ((↑(l.length):Int)<=20))=0))=true->(twL b l).length=0))
 (o1:q46 b l ((!decide (openE b (decide ((↑(l.length):Int)<=20))=0))=true->openE b (decide ((↑(l.length):Int)<=20))=twE b l))
 (o2:q47 b l (0=(↑0:Int)))
 (o3:q47 b l ((twiceTo b l 0).length=0))
 (o4:q47 b l (0<=l.length))
 (o5:q47 b l (∀ (x2:Nat),q49 l x2 (0<=(x2:Int))))
 (o6:q47 b l (∀ (x2:Nat),q49 l x2 ((x2:Int) < (↑(l.length):Int))))
 (o7:q47 b l (∀ (x2:Nat),q49 l x2 ((okBook b && decide ((↑(l.length):Int)<=20))=true)))
 (o8:q47 b l (∀ (x2:Nat),q49 l x2 ((okBook b && decide ((↑(l.length):Int)<=20))=true)))
 (o9:q47 b l (∀ (x2:Nat),q49 l x2 ((stds b).length<=65536)))
 (o10:q47 b l (∀ (x2:Nat),q4a b l x2 (0<=(x2:Int))))
 (o11:q47 b l (∀ (x2:Nat),q4a b l x2 ((x2:Int)<=(↑(l.length):Int))))
 (o12:q47 b l (∀ (x2:Nat),q4a b l x2 (x2=(List.take x2 l).length)))
 (o13:q47 b l (∀ (x2:Nat),q4a b l x2 (∀ (i14:Nat),i14 < (List.take x2 l).length->cSday (l.getD i14 default)=cSday ((List.take x2 l).getD i14 default))))
 (o14:q47 b l (∀ (x2:Nat),q4a b l x2 ((List.take x2 l).length<=65536)))
 (o15:q47 b l (∀ (x2:Nat),q49 l x2 ((!hasG (stds b) (l.getD x2 default))=false->(!!hasG (stds b) (l.getD x2 default))=true)))
 (o16:q47 b l (∀ (x2:Nat),q4b b l x2 ((twiceTo b l x2).length + 1<=65536)))
 (o17:q47 b l (∀ (x2:Nat),q4b b l x2 (inI ((x2:Int) + 1))))
 (o18:q47 b l (∀ (x2:Nat),q4b b l x2 ((x2:Int) + 1=(↑(x2 + 1):Int))))
 (o19:q47 b l (∀ (x2:Nat),q4b b l x2 ((twiceTo b l x2).length + 1=(twiceTo b l (x2 + 1)).length)))
 (o20:q47 b l (∀ (x2:Nat),q4b b l x2 (∀ (i20:Nat),i20 < (twiceTo b l x2).length + 1->catF (twiceTo b l x2).length (fun (i:Nat)=>[iv ((twiceTo b l x2).getD i 0)]) (fun (j:Nat)=>List.getD [[iv (x2:Int)]] j (TI.za ti3)) i20 = [iv ((twiceTo b l (x2 + 1)).getD i20 0)])))
 (o21:q47 b l (∀ (x2:Nat),q4b b l x2 (x2 + 1<=l.length)))
 (o22:q47 b l (∀ (x2:Nat),q4b b l x2 (l.length - (x2 + 1) < l.length - x2)))
 (o23:q47 b l (∀ (x2:Nat),q4c b l x2 (inI ((x2:Int) + 1))))
 (o24:q47 b l (∀ (x2:Nat),q4c b l x2 ((x2:Int) + 1=(↑(x2 + 1):Int))))
 (o25:q47 b l (∀ (x2:Nat),q4c b l x2 ((twiceTo b l x2).length=(twiceTo b l (x2 + 1)).length)))
 (o26:q47 b l (∀ (x2:Nat),q4c b l x2 (∀ (i22:Nat),i22 < (twiceTo b l x2).length -> [iv ((twiceTo b l x2).getD i22 0)] = [iv ((twiceTo b l (x2 + 1)).getD i22 0)])))
 (o27:q47 b l (∀ (x2:Nat),q4c b l x2 (x2 + 1<=l.length)))
 (o28:q47 b l (∀ (x2:Nat),q4c b l x2 (l.length - (x2 + 1) < l.length - x2)))
 (o29:q47 b l (∀ (x2:Nat),q48 l x2 (decide ((x2:Int) < (↑(l.length):Int))=false->(twiceTo b l x2).length=(twL b l).length)))
 (o30:q47 b l (∀ (x2:Nat),q48 l x2 (decide ((x2:Int) < (↑(l.length):Int))=false -> ∀ (i24:Nat),i24 < (twL b l).length -> [iv ((twiceTo b l x2).getD i24 0)] = [iv ((twL b l).getD i24 0)])))
 (o31:q47 b l (∀ (x2:Nat),q48 l x2 (decide ((x2:Int) < (↑(l.length):Int))=false->0=twE b l))) :
  Triple Try.prog 26 (s26 b l):=by
 refine triple_of Try.func26 rfl Try.call26 T0_ok _ rfl rfl rfl rfl (Nat.le_of_ble_eq_true (by kernel_rfl)) (fun _ _ _ _ h=>h) ?_
 intro hpre C hC _ hE
 obtain ⟨P,w0,E0,av,hA,ro,df⟩:=C
 obtain ⟨rfl,rfl,rfl⟩:=hC
 refine swp_seq ?_
 refine zR [1,2] [0] (Ak 3 tv) ?_
 refine swp_seq ?_
 refine zC ([(4,CallSpec.eq (s58 b (decide ((↑(l.length):Int)<=20))) [true,true])]) [1,6,7] [] (Ak 4 (An (An (An (zr (AV.agg (cBk b))) (An (zr (bv (decide ((↑(l.length):Int)<=20)))) tv)) (An (t58 (b) (decide ((↑(l.length):Int)<=20))) (An hpre.1 (Ak 1 (fun (i0:Env)=>tv))))) (Ak 5 tv))) ?_
 refine swp_seq ?_
 refine swp_seq ?_
 refine zR [1,6,7,20] [] (Ak 2 tv) ?_
 refine zI (!decide (openE b (decide ((↑(l.length):Int)<=20))=0)) (fun y1 => ?_) (fun y1 => ?_)
 ·refine swp_seq ?_
  refine zR [4,5] [] (Ak 3 tv) ?_
  refine swp_ret ?_
  exact zT [] (An (Ak 2 tv) (An (An (o0 hpre y1) (An (An (ci (o1 hpre y1)) (zr nilN)) tv)) (An (zr true) (An (zr true) (zr true)))))
 ·refine swp_skip ?_
  refine swp_seq ?_
  refine zR [1,6,8] [] (Ak 1 tv) ?_
  refine swp_seq ?_
  refine swp_seq ?_
  refine zR [1,6,8,22,23,24] [] (Ak 3 tv) ?_
  refine swp_block ?_
  refine zL (Hint.ann (h26 b l) [(1,aDays l),(6,AV.opt (okBook b && decide ((↑(l.length):Int)<=20)) (cWk b)),(22,aDays l),(23,iv (↑(l.length):Int))] [] 10152) (zE hE [] [(5000,.nil)] [1,6,22,23] [] (An (An (An (zr (aDays l)) (zr true)) (An (An (zr (AV.opt (okBook b && decide ((↑(l.length):Int)<=20)) (cWk b))) (zr true)) (An (An (zr (aDays l)) (zr true)) (An (An (zr (iv (↑(l.length):Int))) (zr true)) (An (zr (some Src.nil)) (An (An (ci (o2 hpre y1)) (zr nilN)) tv)))))) (An (An (o3 hpre y1) tv) (An (zr true) (zr true))))) (o4 hpre y1) (fun (x2:Nat) hx2 => ?_)
  refine swp_seq ?_
  refine zR [1,6,22,23,8,24,25] [5000] (Ak 1 tv) ?_
  refine swp_seq ?_
  refine zI (decide ((x2:Int) < (↑(l.length):Int))) (fun y3 => ?_) (fun y3 => ?_)
  ·refine swp_skip ?_
   refine swp_seq ?_
   refine swp_block ?_
   refine swp_seq ?_
   refine zR [1,6,22,23,8,24,10,9] [5000,10184] (Ak 1 (An (An (o5 hpre y1 x2 hx2 y3) (o6 hpre y1 x2 hx2 y3)) (Ak 4 tv))) ?_
   refine swp_seq ?_
   refine zC ([(5,CallSpec.eq (c26a b l x2) [true,true]),(12,CallSpec.eq (c26b b l x2) [false,true])]) [1,6,22,23,8,24,9,42] [5000] (Ak 1 (An (o7 hpre y1 x2 hx2 y3) (An (o8 hpre y1 x2 hx2 y3) (Ak 2 (An (An (An (zr (aDays (stds b))) (An (zr (AV.agg (cSday (l.getD x2 default)))) tv)) (An (t64 (stds b) (l.getD x2 default)) (An (o9 hpre y1 x2 hx2 y3) (Ak 1 (fun (i4:Env)=>tv))))) (Ak 2 (An (fun (y5:(!!hasG (stds b) (l.getD x2 default))=true)=>(An (Ak 1 tv) tv)) (An (fun (y6:(!!hasG (stds b) (l.getD x2 default))=true)=>(An (Ak 1 tv) tv)) (An (fun (y7:(!!hasG (stds b) (l.getD x2 default))=true)=>(An (An (fun (y8:(!!hasG (stds b) (l.getD x2 default))=true)=>y7) (An (fun (y9:(!!hasG (stds b) (l.getD x2 default))=true)=>y7) tv)) (An (o10 hpre y1 x2 hx2 y3 y7) (o11 hpre y1 x2 hx2 y3 y7)))) (An (fun (y10:(!!hasG (stds b) (l.getD x2 default))=true)=>(An (Ak 1 tv) tv)) (An (fun (y11:(!!hasG (stds b) (l.getD x2 default))=true)=>(An (Ak 1 (An (fun (y12:(!!hasG (stds b) (l.getD x2 default))=true)=>y11) (An (fun (y13:(!!hasG (stds b) (l.getD x2 default))=true)=>y11) tv))) (An (An (An (zr 2) (An (o12 hpre y1 x2 hx2 y3 y11) (fun (i14:Nat)=>(fun (y15:i14 < (List.take x2 l).length)=>(o13 hpre y1 x2 hx2 y3 y11 i14 y15))))) (An (zr (AV.agg (cSday (l.getD x2 default)))) tv)) (An (t64 (List.take x2 l) (l.getD x2 default)) (An (o14 hpre y1 x2 hx2 y3 y11) (Ak 1 (fun (i16:Env)=>tv))))))) (An (An (fun (y17:(!hasG (stds b) (l.getD x2 default))=true)=>tv) (fun (y18:(!hasG (stds b) (l.getD x2 default))=false)=>(o15 hpre y1 x2 hx2 y3 y18))) tv)))))))))))) ?_
   refine zI (bif !hasG (stds b) (l.getD x2 default) then true else hasG (List.take x2 l) (l.getD x2 default)) (fun y19 => ?_) (fun y19 => ?_)
   ·refine zR [1,6,22,23,8,24] [10344] (Ak 3 (An (o16 hpre y1 x2 hx2 y3 y19) (Ak 1 tv))) ?_
    refine zR [1,6,22,23,8,24] [10344] (An (o17 hpre y1 x2 hx2 y3 y19) (Ak 1 tv)) ?_
    exact zn (zE hE [] [(5000,.same 10344)] [1,6,22,23] [] (An (An (An (zr (aDays l)) (zr true)) (An (An (zr (AV.opt (okBook b && decide ((↑(l.length):Int)<=20)) (cWk b))) (zr true)) (An (An (zr (aDays l)) (zr true)) (An (An (zr (iv (↑(l.length):Int))) (zr true)) (An (zr (some (Src.same 10344))) (An (An (ci (o18 hpre y1 x2 hx2 y3 y19)) (zr nilN)) tv)))))) (An (An (An (zr 3) (An (zr 1) (An (o19 hpre y1 x2 hx2 y3 y19) (fun (i20:Nat)=>(fun (y21:i20 < (twiceTo b l x2).length + 1)=>(o20 hpre y1 x2 hx2 y3 y19 i20 y21)))))) tv) (An (zr true) (zr true))))) (o21 hpre y1 x2 hx2 y3 y19) (o22 hpre y1 x2 hx2 y3 y19)
   ·refine swp_skip ?_
    refine zR [1,6,22,23,8,24] [5000] (An (o23 hpre y1 x2 hx2 y3 y19) (Ak 1 tv)) ?_
    exact zn (zE hE [] [(5000,.same 5000)] [1,6,22,23] [] (An (An (An (zr (aDays l)) (zr true)) (An (An (zr (AV.opt (okBook b && decide ((↑(l.length):Int)<=20)) (cWk b))) (zr true)) (An (An (zr (aDays l)) (zr true)) (An (An (zr (iv (↑(l.length):Int))) (zr true)) (An (zr (some (Src.same 5000))) (An (An (ci (o24 hpre y1 x2 hx2 y3 y19)) (zr nilN)) tv)))))) (An (An (An (zr 3) (An (zr 1) (An (o25 hpre y1 x2 hx2 y3 y19) (fun (i22:Nat)=>(fun (y23:i22 < (twiceTo b l x2).length)=>(o26 hpre y1 x2 hx2 y3 y19 i22 y23)))))) tv) (An (zr true) (zr true))))) (o27 hpre y1 x2 hx2 y3 y19) (o28 hpre y1 x2 hx2 y3 y19)
  ·refine swp_exit ?_
   refine swp_seq ?_
   refine zR [4,5] [5000] (Ak 3 tv) ?_
   refine swp_ret ?_
   exact zT [5000] (An (Ak 2 tv) (An (An (An (zr 1) (An (o29 hpre y1 x2 hx2 y3) (fun (i24:Nat)=>(fun (y25:i24 < (twL b l).length)=>(o30 hpre y1 x2 hx2 y3 i24 y25))))) (An (An (ci (o31 hpre y1 x2 hx2 y3)) (zr nilN)) tv)) (An (zr true) (An (zr true) (zr true)))))
theorem t26 (b:Book) (l:List Sday):Triple Try.prog 26 (s26 b l):=by
  apply w26
  all_goals (try delta q46 q47 q48 q49 q4a q4b q4c)
  all_goals (intro hp h; rw [open_ok8] at h)
  case o0=>simp only [Bool.not_eq_true'] at h; unfold twL; rw [h]; rfl
  case o1=>rfl
  all_goals (simp only [Bool.not_eq_false'] at h; have hh:=h; rw [Bool.and_eq_true] at hh; have hs:=ok_soundB hh.1; have hst:=stds_small hs)
  case o3=>rfl
  case o4=>omega
  all_goals (intro x hx hl; simp only [decide_eq_true_eq,decide_eq_false_iff_not] at hl)
  case o7 | o8=>all_goals exact h
  case o12=>intro _; rw [List.length_take]; omega
  case o13=>intro _ i hi; rw [take_getD _ _ (by rw [List.length_take] at hi; omega)]
  case o14=>intro _; rw [List.length_take]; omega
  case o15=>intro h0; rw [h0]; rfl
  case o29 => have : x = l.length := by omega
              unfold twL; rw [h,this]; rfl
  case o30 => have : x = l.length := by omega
              intro i _; unfold twL; rw [h,this]; rfl
  case o31=>exact (open_zero h).symm
  all_goals (try (first | omega | rfl))
  all_goals (try (intro hc; rw [twice_cond] at hc; have htl:=twiceTo_len b l x))
  case o16=>omega
  case o19=>rw [twiceTo_t hc,List.length_append]; rfl
  case o20=>intro i hi; rw [twiceTo_t hc]; exact catF_one _ _ 0 (fun z=>[iv z]) rfl (fun _ _=>rfl) rfl hi
  case o25=>rw [twiceTo_f hc]
  case o26=>intro i _; rw [twiceTo_f hc]
  all_goals (first | omega | (simp only [inI]; omega) | (intros; omega))
theorem w68 (l:List Sday) (d:Sday) :
  Triple Try.prog 68 (s68 l d):=by
 refine triple_of Try.func68 rfl Try.call68 T0_ok _ rfl rfl rfl rfl (Nat.le_of_ble_eq_true (by kernel_rfl)) (fun _ _ _ _ h=>h) ?_
 intro hpre C hC _ hE
 obtain ⟨P,w0,E0,av,hA,ro,df⟩:=C
 obtain ⟨rfl,rfl,rfl⟩:=hC
 refine swp_seq ?_
 refine zR [1,2] [0] (Ak 2 tv) ?_
 refine swp_seq ?_
 refine zC ([(2,CallSpec.eq (s64 l d) [true,true])]) [3] [] (Ak 2 (An (An (An (zr (aDays l)) (An (zr (AV.agg (cSday d))) tv)) (An (t64 (l) (d)) (An hpre (Ak 1 (fun (i0:Env)=>tv))))) (Ak 1 tv))) ?_
 refine swp_ret ?_
 exact zT [] (An (Ak 1 tv) (An (An (zr (bv (hasG l d))) (zr nilN)) (An (zr true) (An (zr true) (zr true)))))
theorem t68 (l:List Sday) (d:Sday):Triple Try.prog 68 (s68 l d):=by
 apply w68
 all_goals (intro hp; first | exact hp | rfl)
abbrev q4d (bl:List Sday) (ws:List Sday) (P:Prop):Prop:=ws.length<=65536/\bl.length<=65536->P
abbrev q4e (bl:List Sday) (ws:List Sday) (x0:Nat) (P:Prop):Prop:=(x0<=ws.length /\ ∀ (j:Nat),j < x0->hasG bl (ws.getD j default)=false)->P
abbrev q4f (bl:List Sday) (ws:List Sday) (x0:Nat) (P:Prop):Prop:=q4e bl ws x0 (decide ((x0:Int) < (↑(ws.length):Int))=true->P)
theorem wio93 (bl:List Sday) (ws:List Sday)
 (o0:q4d bl ws (0=(↑0:Int)))
 (o1:q4d bl ws (0<=ws.length /\ ∀ (j:Nat),j < 0->hasG bl (ws.getD j default)=false))
 (o2:q4d bl ws (∀ (x0:Nat),q4f bl ws x0 (0<=(x0:Int))))
 (o3:q4d bl ws (∀ (x0:Nat),q4f bl ws x0 ((x0:Int) < (↑(ws.length):Int))))
 (o4:q4d bl ws (∀ (x0:Nat),q4f bl ws x0 (x0 < ws.length)))
 (o5:q4d bl ws (∀ (x0:Nat),q4f bl ws x0 (hasG bl (ws.getD x0 default)=true->(x0:Int)=idxY ws (hasG bl))))
 (o6:q4d bl ws (∀ (x0:Nat),q4f bl ws x0 (hasG bl (ws.getD x0 default)=false->inI ((x0:Int) + 1))))
 (o7:q4d bl ws (∀ (x0:Nat),q4f bl ws x0 (hasG bl (ws.getD x0 default)=false->(x0:Int) + 1=(↑(x0 + 1):Int))))
 (o8:q4d bl ws (∀ (x0:Nat),q4f bl ws x0 (hasG bl (ws.getD x0 default)=false->x0 + 1<=ws.length /\ ∀ (j:Nat),j < x0 + 1->hasG bl (ws.getD j default)=false)))
 (o9:q4d bl ws (∀ (x0:Nat),q4f bl ws x0 (hasG bl (ws.getD x0 default)=false->ws.length - (x0 + 1) < ws.length - x0)))
 (o10:q4d bl ws (∀ (x0:Nat),q4e bl ws x0 (decide ((x0:Int) < (↑(ws.length):Int))=false -> -1=idxY ws (hasG bl))))
  (l:List (Nat × Nat)) (hl:l.map (·.1) = [0]) (hnd:(l.map (·.2)).Nodup) :
  Triple Try.prog 93 (IoSpec.at (io93 bl ws) l):=by
 refine triple_io Try.func93 rfl Try.call93 T0_ok (io93 bl ws) 1 l (by rw [hl]; kernel_rfl) hnd (Nat.le_of_ble_eq_true (by kernel_rfl)) (fun _ _ _ _ h=>h) ?_
 intro hpre C hC _ hE
 obtain ⟨P,w0,E0,av,hA,ro,df⟩:=C
 obtain ⟨rfl,rfl,rfl⟩:=hC
 refine swp_seq ?_
 refine zR [0,1] [0] (Ak 1 tv) ?_
 refine swp_seq ?_
 refine swp_seq ?_
 refine zR [0,1,7,8] [0] (Ak 3 tv) ?_
 refine swp_block ?_
 refine zL (Hint.ann (h93 bl ws) [(0,AV.vec 0),(1,AV.clo 68 [AV.rp [aDays bl]]),(7,iv (↑(ws.length):Int))] [(0,OB.vec 61 2 ws.length fun (i:Nat)=>cSday (ws.getD i default))] 10033) (zEn 1 hE [] [(0,.same 0)] [1,7] [0] (An (An (zr (some (Src.same 0))) (An (An (zr (AV.clo 68 [AV.rp [aDays bl]])) (zr true)) (An (An (zr (iv (↑(ws.length):Int))) (zr true)) (An (An (ci (o0 hpre)) (zr nilN)) tv)))) (An (An (An (zr (OB.vec 61 2 ws.length fun (i:Nat)=>cSday (ws.getD i default))) (zr true)) tv) (An (zr true) (zr true))))) (o1 hpre) (fun (x0:Nat) hx0 => ?_)
 refine swp_seq ?_
 refine zR [0,1,7,8,9] [0] (Ak 1 tv) ?_
 refine swp_seq ?_
 refine zI (decide ((x0:Int) < (↑(ws.length):Int))) (fun y1 => ?_) (fun y1 => ?_)
 ·refine swp_skip ?_
  refine swp_seq ?_
  refine swp_block ?_
  refine swp_seq ?_
  refine zR [0,1,7,8,5] [0] (Ak 2 tv) ?_
  refine swp_seq ?_
  refine zC ([(5,CallSpec.eq (s68 bl (ws.getD x0 default)) [true,true])]) [0,1,7,8,5,16] [0] (Ak 3 (An (An (o2 hpre x0 hx0 y1) (o3 hpre x0 hx0 y1)) (An (An (o4 hpre x0 hx0 y1) tv) (An (An (An (zr (AV.agg (cSday (ws.getD x0 default)))) (An (zr (AV.rp [aDays bl])) tv)) (An (t68 (bl) (ws.getD x0 default)) (An hpre.2 (Ak 1 (fun (i2:Env)=>tv))))) tv)))) ?_
  refine zI (hasG bl (ws.getD x0 default)) (fun y3 => ?_) (fun y3 => ?_)
  ·refine swp_seq ?_
   refine zR [4] [0] (Ak 2 tv) ?_
   refine swp_ret ?_
   exact zO (ASt.mk [(4,iv (idxY ws (hasG bl)))] [(0,OB.vec 61 2 ws.length fun (i:Nat)=>cSday (ws.getD i default))] 100) (zEn 1 hE [] [(0,.same 0)] [] [0] (An (An (An (ci (o5 hpre x0 hx0 y1 y3)) (zr nilN)) tv) (An (An (An (zr (OB.vec 61 2 ws.length fun (i:Nat)=>cSday (ws.getD i default))) (zr true)) tv) (An (zr true) (zr true))))) (An (Ak 1 tv) (An (zr (iv (idxY ws (hasG bl)))) (An (zr (some (OB.vec 61 2 ws.length fun (i:Nat)=>cSday (ws.getD i default)))) tv)))
  ·refine swp_skip ?_
   refine zR [0,1,7,8] [0] (An (o6 hpre x0 hx0 y1 y3) (Ak 1 tv)) ?_
   exact zn (zEn 1 hE [] [(0,.same 0)] [1,7] [0] (An (An (zr (some (Src.same 0))) (An (An (zr (AV.clo 68 [AV.rp [aDays bl]])) (zr true)) (An (An (zr (iv (↑(ws.length):Int))) (zr true)) (An (An (ci (o7 hpre x0 hx0 y1 y3)) (zr nilN)) tv)))) (An (An (An (zr (OB.vec 61 2 ws.length fun (i:Nat)=>cSday (ws.getD i default))) (zr true)) tv) (An (zr true) (zr true))))) (o8 hpre x0 hx0 y1 y3) (o9 hpre x0 hx0 y1 y3)
 ·refine swp_exit ?_
  refine swp_seq ?_
  refine zR [4] [0] (Ak 1 tv) ?_
  refine swp_ret ?_
  exact zO (ASt.mk [(4,iv (idxY ws (hasG bl)))] [(0,OB.vec 61 2 ws.length fun (i:Nat)=>cSday (ws.getD i default))] 100) (zEn 1 hE [] [(0,.same 0)] [] [0] (An (An (An (ci (o10 hpre x0 hx0 y1)) (zr nilN)) tv) (An (An (An (zr (OB.vec 61 2 ws.length fun (i:Nat)=>cSday (ws.getD i default))) (zr true)) tv) (An (zr true) (zr true))))) (An (Ak 1 tv) (An (zr (iv (idxY ws (hasG bl)))) (An (zr (some (OB.vec 61 2 ws.length fun (i:Nat)=>cSday (ws.getD i default)))) tv)))
theorem t93 (b:Nat) (bl ws:List Sday):Triple Try.prog 93 (s93 b bl ws):=by
 apply wio93 bl ws (l:=[(0,b)]) (hl:=rfl) (hnd:=by simp)
 all_goals (try delta q4d q4e q4f)
 case o1=>intro _; exact ⟨Nat.zero_le _,fun j hj=>absurd hj (Nat.not_lt_zero j)⟩
 case o5=>intro hp x hx hl h; simp only [decide_eq_true_eq] at hl; exact (idxY_found (by omega) hx.2 h).symm
 case o8=>intro hp x hx hl h; simp only [decide_eq_true_eq] at hl; exact ⟨by omega,lt_succ_cases hx.2 h⟩
 case o10=>intro hp x hx hl; simp only [decide_eq_false_iff_not] at hl; exact (idxY_none (fun j hj=>hx.2 j (by omega))).symm
 all_goals (try ((repeat intro _) <;> (try simp only [Bool.cond_true_left,Bool.cond_false_right,Bool.not_not,Bool.not_eq_true',Bool.not_eq_false',Bool.or_eq_true,Bool.or_eq_false_iff,Bool.and_eq_true,decide_eq_true_eq,decide_eq_false_iff_not,inI,big] at *) <;> first | (exact rfl) | omega | (exact ⟨Nat.zero_le _,fun j hj=>absurd hj (Nat.not_lt_zero j)⟩) | (simp_all; done) | (simp_all; omega)))
abbrev q4g (bl:List Sday) (ws:List Sday) (P:Prop):Prop:=ws.length<=65536/\bl.length<=65536->P
abbrev q4h (bl:List Sday) (ws:List Sday) (P:Prop):Prop:=q4g bl ws (decide (idxY ws (hasG bl) = -1)=false->P)
abbrev q4i (bl:List Sday) (ws:List Sday) (x4:Nat) (P:Prop):Prop:=firstY ws (hasG bl) + 1<=x4/\x4<=ws.length->P
abbrev q4j (bl:List Sday) (ws:List Sday) (x4:Nat) (P:Prop):Prop:=q4i bl ws x4 (decide ((x4:Int) < (↑(ws.length):Int))=true->P)
abbrev q4k (bl:List Sday) (ws:List Sday) (x4:Nat) (P:Prop):Prop:=q4j bl ws x4 ((!hasG bl (rowY ws (hasG bl) x4 x4))=true->P)
abbrev q4l (bl:List Sday) (ws:List Sday) (x4:Nat) (P:Prop):Prop:=q4j bl ws x4 ((!hasG bl (rowY ws (hasG bl) x4 x4))=false->P)
abbrev q4m (bl:List Sday) (ws:List Sday) (x4:Nat) (P:Prop):Prop:=q4i bl ws x4 (decide ((x4:Int) < (↑(ws.length):Int))=false->P)
theorem wio67 (bl:List Sday) (ws:List Sday)
 (o0:q4g bl ws (decide (idxY ws (hasG bl) = -1)=true->ws.length=(delY ws (hasG bl)).length))
 (o1:q4g bl ws (decide (idxY ws (hasG bl) = -1)=true -> ∀ (i2:Nat),i2 < ws.length->cSday (ws.getD i2 default)=cSday ((delY ws (hasG bl)).getD i2 default)))
 (o2:q4h bl ws (inI (idxY ws (hasG bl) + 1)))
 (o3:q4h bl ws (idxY ws (hasG bl)=(↑((keptY ws (hasG bl) (Nat.succ (Nat.add (firstY ws (hasG bl)) 0))).length):Int)))
 (o4:q4h bl ws (idxY ws (hasG bl) + 1=(↑(Nat.succ (Nat.add (firstY ws (hasG bl)) 0)):Int)))
 (o5:q4h bl ws (∀ (i5:Nat),i5 < ws.length->cSday (ws.getD i5 default)=cSday (rowY ws (hasG bl) (Nat.succ (Nat.add (firstY ws (hasG bl)) 0)) i5)))
 (o6:q4h bl ws (firstY ws (hasG bl) + 1<=Nat.succ (Nat.add (firstY ws (hasG bl)) 0)/\Nat.succ (Nat.add (firstY ws (hasG bl)) 0)<=ws.length))
 (o7:q4h bl ws (∀ (x4:Nat),q4j bl ws x4 (0<=(x4:Int))))
 (o8:q4h bl ws (∀ (x4:Nat),q4j bl ws x4 ((x4:Int) < (↑(ws.length):Int))))
 (o9:q4h bl ws (∀ (x4:Nat),q4j bl ws x4 (x4 < ws.length)))
 (o10:q4h bl ws (∀ (x4:Nat),q4k bl ws x4 (0<=(↑((keptY ws (hasG bl) x4).length):Int))))
 (o11:q4h bl ws (∀ (x4:Nat),q4k bl ws x4 ((↑((keptY ws (hasG bl) x4).length):Int) < (↑(ws.length):Int))))
 (o12:q4h bl ws (∀ (x4:Nat),q4k bl ws x4 ((keptY ws (hasG bl) x4).length < ws.length)))
 (o13:q4h bl ws (∀ (x4:Nat),q4k bl ws x4 (inI ((↑((keptY ws (hasG bl) x4).length):Int) + 1))))
 (o14:q4h bl ws (∀ (x4:Nat),q4k bl ws x4 (inI ((x4:Int) + 1))))
 (o15:q4h bl ws (∀ (x4:Nat),q4k bl ws x4 ((↑((keptY ws (hasG bl) x4).length):Int) + 1=(↑((keptY ws (hasG bl) (x4 + 1)).length):Int))))
 (o16:q4h bl ws (∀ (x4:Nat),q4k bl ws x4 ((x4:Int) + 1=(↑(x4 + 1):Int))))
 (o17:q4h bl ws (∀ (x4:Nat),q4k bl ws x4 (∀ (i10:Nat),i10 < ws.length->Decidable.rec (fun (h:¬i10=(keptY ws (hasG bl) x4).length)=>cSday (rowY ws (hasG bl) x4 i10)) (fun (h:i10=(keptY ws (hasG bl) x4).length)=>[iv (rowY ws (hasG bl) x4 x4).ad,iv (rowY ws (hasG bl) x4 x4).day] ++ []) (instDecidableEqNat i10 (keptY ws (hasG bl) x4).length)=cSday (rowY ws (hasG bl) (x4 + 1) i10))))
 (o18:q4h bl ws (∀ (x4:Nat),q4k bl ws x4 (firstY ws (hasG bl) + 1<=x4 + 1/\x4 + 1<=ws.length)))
 (o19:q4h bl ws (∀ (x4:Nat),q4k bl ws x4 (ws.length - (x4 + 1) < ws.length - x4)))
 (o20:q4h bl ws (∀ (x4:Nat),q4l bl ws x4 (inI ((x4:Int) + 1))))
 (o21:q4h bl ws (∀ (x4:Nat),q4l bl ws x4 ((↑((keptY ws (hasG bl) x4).length):Int)=(↑((keptY ws (hasG bl) (x4 + 1)).length):Int))))
 (o22:q4h bl ws (∀ (x4:Nat),q4l bl ws x4 ((x4:Int) + 1=(↑(x4 + 1):Int))))
 (o23:q4h bl ws (∀ (x4:Nat),q4l bl ws x4 (∀ (i12:Nat),i12 < ws.length->cSday (rowY ws (hasG bl) x4 i12)=cSday (rowY ws (hasG bl) (x4 + 1) i12))))
 (o24:q4h bl ws (∀ (x4:Nat),q4l bl ws x4 (firstY ws (hasG bl) + 1<=x4 + 1/\x4 + 1<=ws.length)))
 (o25:q4h bl ws (∀ (x4:Nat),q4l bl ws x4 (ws.length - (x4 + 1) < ws.length - x4)))
 (o26:q4h bl ws (∀ (x4:Nat),q4m bl ws x4 (0<=(↑((keptY ws (hasG bl) x4).length):Int))))
 (o27:q4h bl ws (∀ (x4:Nat),q4m bl ws x4 ((↑((keptY ws (hasG bl) x4).length):Int) < (↑(ws.length):Int))))
 (o28:q4h bl ws (∀ (x4:Nat),q4m bl ws x4 ((keptY ws (hasG bl) x4).length + (ws.length - (keptY ws (hasG bl) x4).length)=ws.length)))
 (o29:q4h bl ws (∀ (x4:Nat),q4m bl ws x4 (0 < ws.length - (keptY ws (hasG bl) x4).length)))
 (o30:q4h bl ws (∀ (x4:Nat),q4m bl ws x4 (∀ (i14:Nat),i14 < ws.length->Decidable.rec (fun (h:¬i14 < (keptY ws (hasG bl) x4).length)=>[iv 0,iv 0]) (fun (h:i14 < (keptY ws (hasG bl) x4).length)=>cSday (rowY ws (hasG bl) x4 i14)) (Nat.decLt i14 (keptY ws (hasG bl) x4).length) = [iv (endY bl ws i14).1,iv (endY bl ws i14).2])))
 (o31:q4h bl ws (∀ (x4:Nat),q4m bl ws x4 (0<=(↑((keptY ws (hasG bl) x4).length):Int))))
 (o32:q4h bl ws (∀ (x4:Nat),q4m bl ws x4 ((↑((keptY ws (hasG bl) x4).length):Int)<=(↑(ws.length):Int))))
 (o33:q4h bl ws (∀ (x4:Nat),q4m bl ws x4 ((keptY ws (hasG bl) x4).length=(delY ws (hasG bl)).length)))
 (o34:q4h bl ws (∀ (x4:Nat),q4m bl ws x4 (∀ (i16:Nat),i16 < (keptY ws (hasG bl) x4).length -> [iv (endY bl ws i16).1,iv (endY bl ws i16).2]=cSday ((delY ws (hasG bl)).getD i16 default))))
  (l:List (Nat × Nat)) (hl:l.map (·.1) = [0,3]) (hnd:(l.map (·.2)).Nodup) :
  Triple Try.prog 67 (IoSpec.at (io67 bl ws) l):=by
 refine triple_io Try.func67 rfl Try.call67 T0_ok (io67 bl ws) 2 l (by rw [hl]; kernel_rfl) hnd (Nat.le_of_ble_eq_true (by kernel_rfl)) (fun _ _ _ _ h=>h) ?_
 intro hpre C hC _ hE
 obtain ⟨P,w0,E0,av,hA,ro,df⟩:=C
 obtain ⟨rfl,rfl,rfl⟩:=hC
 refine swp_seq ?_
 refine zR [0,1] [0] (Ak 1 tv) ?_
 refine swp_seq ?_
 refine zC ([(2,CallSpec.eq (c67 bl ws) [true,true])]) [0,1,5] [0] (Ak 2 (An (An (An (zr (AV.vec 0)) (An (zr (AV.clo 68 [AV.rp [aDays bl]])) tv)) (An (t93 (0) (bl) (ws)) (An (An hpre.1 hpre.2) (An (An (zr (some (OB.vec 61 2 ws.length fun (i:Nat)=>cSday (ws.getD i default)))) tv) (fun (i0:Env)=>tv))))) (Ak 1 tv))) ?_
 refine swp_seq ?_
 refine swp_seq ?_
 refine zR [0,1,5,12] [0] (Ak 2 tv) ?_
 refine zI (decide (idxY ws (hasG bl) = -1)) (fun y1 => ?_) (fun y1 => ?_)
 ·refine swp_seq ?_
  refine zR [4] [0] (Ak 2 tv) ?_
  refine swp_ret ?_
  exact zO (ASt.mk [(4,AV.vec 3)] [(3,OB.vec 61 2 (delY ws (hasG bl)).length fun (i:Nat)=>cSday ((delY ws (hasG bl)).getD i default))] 100) (zEn 2 hE [] [(3,.same 0)] [] [] (An (An (zr (some (Src.same 0))) tv) (An (An (An (zr 61) (An (zr 2) (An (o0 hpre y1) (fun (i2:Nat)=>(fun (y3:i2 < ws.length)=>(o1 hpre y1 i2 y3)))))) tv) (An (zr true) (zr true))))) (An (Ak 1 tv) (An (zr (AV.vec 3)) (An (zr (some (OB.vec 61 2 (delY ws (hasG bl)).length fun (i:Nat)=>cSday ((delY ws (hasG bl)).getD i default)))) tv)))
 ·refine swp_skip ?_
  refine swp_seq ?_
  refine swp_seq ?_
  refine zR [0,1,5,6] [0] (Ak 1 (An (o2 hpre y1) (Ak 1 tv))) ?_
  refine swp_block ?_
  refine zL (Hint.ann (h67 bl ws) [(0,AV.vec 0),(1,AV.clo 68 [AV.rp [aDays bl]])] [] 10082) (zEn 2 hE [] [(0,.same 0)] [1] [] (An (An (zr (some (Src.same 0))) (An (An (zr (AV.clo 68 [AV.rp [aDays bl]])) (zr true)) (An (An (ci (o3 hpre y1)) (zr nilN)) (An (An (ci (o4 hpre y1)) (zr nilN)) tv)))) (An (An (An (zr 61) (An (zr 2) (An (zr ws.length) (fun (i5:Nat)=>(fun (y6:i5 < ws.length)=>(o5 hpre y1 i5 y6)))))) tv) (An (zr true) (zr true))))) (o6 hpre y1) (fun (x4:Nat) hx4 => ?_)
  refine swp_seq ?_
  refine swp_seq ?_
  refine zR [0,1,5,6,19] [0] (Ak 4 tv) ?_
  refine zI (decide ((x4:Int) < (↑(ws.length):Int))) (fun y7 => ?_) (fun y7 => ?_)
  ·refine swp_skip ?_
   refine swp_seq ?_
   refine swp_block ?_
   refine swp_seq ?_
   refine zR [0,1,5,6,7] [0,10146] (Ak 2 (An (An (o7 hpre y1 x4 hx4 y7) (o8 hpre y1 x4 hx4 y7)) (An (An (o9 hpre y1 x4 hx4 y7) tv) (Ak 2 tv)))) ?_
   refine swp_seq ?_
   refine zC ([(2,CallSpec.eq (s68 bl (rowY ws (hasG bl) x4 x4)) [true,true])]) [0,1,5,6,7,29] [0,10146] (Ak 2 (An (An (An (zr (AV.agg (cSday (rowY ws (hasG bl) x4 x4)))) (An (zr (AV.rp [aDays bl])) tv)) (An (t68 (bl) (rowY ws (hasG bl) x4 x4)) (An hpre.2 (Ak 1 (fun (i8:Env)=>tv))))) (Ak 1 tv))) ?_
   refine zI (!hasG bl (rowY ws (hasG bl) x4 x4)) (fun y9 => ?_) (fun y9 => ?_)
   ·refine swp_seq ?_
    refine zR [0,1,5,6] [0] (Ak 3 (An (An (o10 hpre y1 x4 hx4 y7 y9) (o11 hpre y1 x4 hx4 y7 y9)) (An (An (o12 hpre y1 x4 hx4 y7 y9) tv) tv))) ?_
    refine zR [0,1,5,6] [0] (Ak 1 (An (o13 hpre y1 x4 hx4 y7 y9) (Ak 1 tv))) ?_
    refine zR [0,1,5,6] [0] (Ak 1 (An (o14 hpre y1 x4 hx4 y7 y9) (Ak 1 tv))) ?_
    exact zn (zEn 2 hE [] [(0,.same 0)] [1] [] (An (An (zr (some (Src.same 0))) (An (An (zr (AV.clo 68 [AV.rp [aDays bl]])) (zr true)) (An (An (ci (o15 hpre y1 x4 hx4 y7 y9)) (zr nilN)) (An (An (ci (o16 hpre y1 x4 hx4 y7 y9)) (zr nilN)) tv)))) (An (An (An (zr 61) (An (zr 2) (An (zr ws.length) (fun (i10:Nat)=>(fun (y11:i10 < ws.length)=>(o17 hpre y1 x4 hx4 y7 y9 i10 y11)))))) tv) (An (zr true) (zr true))))) (o18 hpre y1 x4 hx4 y7 y9) (o19 hpre y1 x4 hx4 y7 y9)
   ·refine swp_skip ?_
    refine zR [0,1,5,6] [0] (Ak 1 (An (o20 hpre y1 x4 hx4 y7 y9) (Ak 1 tv))) ?_
    exact zn (zEn 2 hE [] [(0,.same 0)] [1] [] (An (An (zr (some (Src.same 0))) (An (An (zr (AV.clo 68 [AV.rp [aDays bl]])) (zr true)) (An (An (ci (o21 hpre y1 x4 hx4 y7 y9)) (zr nilN)) (An (An (ci (o22 hpre y1 x4 hx4 y7 y9)) (zr nilN)) tv)))) (An (An (An (zr 61) (An (zr 2) (An (zr ws.length) (fun (i12:Nat)=>(fun (y13:i12 < ws.length)=>(o23 hpre y1 x4 hx4 y7 y9 i12 y13)))))) tv) (An (zr true) (zr true))))) (o24 hpre y1 x4 hx4 y7 y9) (o25 hpre y1 x4 hx4 y7 y9)
  ·refine swp_exit ?_
   refine swp_seq ?_
   refine zR [0,5] [0] (Ak 2 (An (An (o26 hpre y1 x4 hx4 y7) (o27 hpre y1 x4 hx4 y7)) (An (An (o28 hpre y1 x4 hx4 y7) (o29 hpre y1 x4 hx4 y7)) tv))) ?_
   refine swp_seq ?_
   refine swp_ent (zEn (st2:=ASt.mk [(0,AV.vec 0),(5,iv (↑((keptY ws (hasG bl) x4).length):Int))] [(0,OB.vec 61 2 ws.length fun (q:Nat)=>[iv (endY bl ws q).1,iv (endY bl ws q).2])] 10146) 2 hE [] [(0,.same 0)] [5] [] (An (An (zr (some (Src.same 0))) (An (An (zr (iv (↑((keptY ws (hasG bl) x4).length):Int))) (zr true)) tv)) (An (An (An (zr 61) (An (zr 2) (An (zr ws.length) (fun (i14:Nat)=>(fun (y15:i14 < ws.length)=>(o30 hpre y1 x4 hx4 y7 i14 y15)))))) tv) (An (zr true) (zr true))))) ?_
   refine zC ([(2,focB8)]) [4] [10162] (Ak 2 (An (An (o31 hpre y1 x4 hx4 y7) (o32 hpre y1 x4 hx4 y7)) (Ak 1 tv))) ?_
   refine swp_ret ?_
   exact zO (ASt.mk [(4,AV.vec 3)] [(3,OB.vec 61 2 (delY ws (hasG bl)).length fun (i:Nat)=>cSday ((delY ws (hasG bl)).getD i default))] 100) (zEn 2 hE [] [(3,.same 10162)] [] [] (An (An (zr (some (Src.same 10162))) tv) (An (An (An (zr 61) (An (zr 2) (An (o33 hpre y1 x4 hx4 y7) (fun (i16:Nat)=>(fun (y17:i16 < (keptY ws (hasG bl) x4).length)=>(o34 hpre y1 x4 hx4 y7 i16 y17)))))) tv) (An (zr true) (zr true))))) (An (Ak 1 tv) (An (zr (AV.vec 3)) (An (zr (some (OB.vec 61 2 (delY ws (hasG bl)).length fun (i:Nat)=>cSday ((delY ws (hasG bl)).getD i default)))) tv)))
theorem endY_lt {bl ws:List Sday} {q:Nat} (h:q < (delY ws (hasG bl)).length):endY bl ws q=(((delY ws (hasG bl)).getD q default).ad,((delY ws (hasG bl)).getD q default).day):=if_pos h
theorem endY_ge {bl ws:List Sday} {q:Nat} (h:¬ q < (delY ws (hasG bl)).length):endY bl ws q=(0,0):=if_neg h
theorem t67 (b:Nat) (bl ws:List Sday) (id:Nat) (hid:[b,id].Nodup:=by decide):Triple Try.prog 67 (s67 b bl ws id):=by
 apply wio67 bl ws (l:=[(0,b),(3,id)]) (hl:=rfl) (hnd:=hid)
 all_goals (try delta q4g q4h q4i q4j q4k q4l q4m)
 all_goals (intro hp h)
 case o0=>rw [del_noneY h]
 case o1=>rw [del_noneY h]; intro i _; rfl
 all_goals (obtain ⟨f1,f2,f3,f4⟩:=first_specY h)
 case o2=>simp only [inI]; omega
 case o3=>show idxY ws (hasG bl)=((keptY ws (hasG bl) (firstY ws (hasG bl) + 1)).length:Int); rw [(kept_firstY h).2]; exact f1
 case o4=>show idxY ws (hasG bl) + 1=((firstY ws (hasG bl) + 1:Nat):Int); omega
 case o5=>intro i _; show _=cSday (rowY ws (hasG bl) (firstY ws (hasG bl) + 1) i); rw [rowY_first h]
 case o6=>show firstY ws (hasG bl) + 1<=firstY ws (hasG bl) + 1/\firstY ws (hasG bl) + 1<=ws.length; omega
 all_goals (intro x hx hl; have hk:=kept_ltY h x hx.1 hx.2; simp only [decide_eq_true_eq,decide_eq_false_iff_not] at hl)
 case o30 =>
  have e:x=ws.length:=by omega
  have hkf:keptY ws (hasG bl) x=delY ws (hasG bl):=keptY_full (by omega)
  intro i hi
  rw [hkf]
  refine rec_lt8 (fun h=>by rw [endY_ge h]) (fun h => ?_)
  rw [endY_lt h]
  show _=cSday _
  unfold rowY
  rw [hkf,if_pos h]
 case o33=>rw [keptY_full (by omega)]
 case o34=>intro i hi; rw [keptY_full (by omega)] at hi; rw [endY_lt hi]; rfl
 all_goals (try (first | omega | (simp only [inI]; omega)))
 all_goals (rw [rowY_self]; intro hn)
 case o15=>rw [keptY_f (by omega) (by simpa using hn),List.length_append]; rfl
 case o17 =>
  intro i hi
  rw [rowY_f (by omega) (by simpa using hn)]
  exact rec_ei8 (fun h=>by rw [if_neg h]) (fun h=>by rw [if_pos h]; rfl)
 case o21=>rw [keptY_t (by omega) (by simpa using hn)]
 case o23=>intro i hi; rw [rowY_t (by omega) (by simpa using hn)]
 all_goals (first | omega | (simp only [inI]; omega))
abbrev q4n (ws:List Sday) (P:Prop):Prop:=ws.length<=65536->P
abbrev q4o (ws:List Sday) (P:Prop):Prop:=q4n ws (decide ((↑(ws.length):Int) < 2)=false->P)
abbrev q4p (ws:List Sday) (x3:Nat) (P:Prop):Prop:=(1<=x3/\x3<=ws.length /\ ∀ (j:Nat),j < x3->newAt default ws j=true)->P
abbrev q4q (ws:List Sday) (x3:Nat) (P:Prop):Prop:=q4p ws x3 (decide ((x3:Int) < (↑(ws.length):Int))=true->P)
abbrev q4r (ws:List Sday) (x3:Nat) (P:Prop):Prop:=q4q ws x3 ((decide ((ws.getD x3 default).ad=(ws.getD ((x3:Int) - 1).toNat default).ad) && (decide ((ws.getD x3 default).day=(ws.getD ((x3:Int) - 1).toNat default).day) && true))=true->P)
abbrev q4s (ws:List Sday) (x3:Nat) (x6:Nat) (P:Prop):Prop:=1<=x6/\x3 + x6<=ws.length->P
abbrev q4t (ws:List Sday) (x3:Nat) (x6:Nat) (P:Prop):Prop:=q4s ws x3 x6 (decide ((x6:Int) < (↑(ws.length - x3):Int))=true->P)
abbrev q4u (ws:List Sday) (x3:Nat) (x6:Nat) (P:Prop):Prop:=q4t ws x3 x6 ((!(decide ((rowK default ws (x3 + x6) (x3 + x6)).ad=(rowK default ws (x3 + x6) (x3 + ((x6:Int) - 1).toNat)).ad) && (decide ((rowK default ws (x3 + x6) (x3 + x6)).day=(rowK default ws (x3 + x6) (x3 + ((x6:Int) - 1).toNat)).day) && true)))=true->P)
abbrev q4v (ws:List Sday) (x3:Nat) (x6:Nat) (P:Prop):Prop:=q4t ws x3 x6 ((!(decide ((rowK default ws (x3 + x6) (x3 + x6)).ad=(rowK default ws (x3 + x6) (x3 + ((x6:Int) - 1).toNat)).ad) && (decide ((rowK default ws (x3 + x6) (x3 + x6)).day=(rowK default ws (x3 + x6) (x3 + ((x6:Int) - 1).toNat)).day) && true)))=false->P)
abbrev q4w (ws:List Sday) (x3:Nat) (x6:Nat) (P:Prop):Prop:=q4s ws x3 x6 (decide ((x6:Int) < (↑(ws.length - x3):Int))=false->P)
abbrev q4x (ws:List Sday) (x3:Nat) (P:Prop):Prop:=q4q ws x3 ((decide ((ws.getD x3 default).ad=(ws.getD ((x3:Int) - 1).toNat default).ad) && (decide ((ws.getD x3 default).day=(ws.getD ((x3:Int) - 1).toNat default).day) && true))=false->P)
theorem wio88o (ws:List Sday)
 (o0:q4n ws (decide ((↑(ws.length):Int) < 2)=true->ws.length=(cpL default ws).length))
 (o1:q4n ws (decide ((↑(ws.length):Int) < 2)=true -> ∀ (i1:Nat),i1 < ws.length->cSday (ws.getD i1 default)=cSday ((cpL default ws).getD i1 default)))
 (o2:q4o ws (1=(↑1:Int)))
 (o3:q4o ws (1<=1/\1<=ws.length /\ ∀ (j:Nat),j < 1->newAt default ws j=true))
 (o4:q4o ws (∀ (x3:Nat),q4q ws x3 (0<=(x3:Int))))
 (o5:q4o ws (∀ (x3:Nat),q4q ws x3 ((x3:Int) < (↑(ws.length):Int))))
 (o6:q4o ws (∀ (x3:Nat),q4q ws x3 (x3 < ws.length)))
 (o7:q4o ws (∀ (x3:Nat),q4q ws x3 (inI ((x3:Int) - 1))))
 (o8:q4o ws (∀ (x3:Nat),q4q ws x3 (0<=(x3:Int) - 1)))
 (o9:q4o ws (∀ (x3:Nat),q4q ws x3 ((x3:Int) - 1 < (↑(ws.length):Int))))
 (o10:q4o ws (∀ (x3:Nat),q4q ws x3 (((x3:Int) - 1).toNat < ws.length)))
 (o11:q4o ws (∀ (x3:Nat),q4r ws x3 (0<=(x3:Int))))
 (o12:q4o ws (∀ (x3:Nat),q4r ws x3 ((x3:Int) < (↑(ws.length):Int))))
 (o13:q4o ws (∀ (x3:Nat),q4r ws x3 ((x3:Int)=(↑((cpTo default ws (x3 + 1)).length):Int))))
 (o14:q4o ws (∀ (x3:Nat),q4r ws x3 (1=(↑1:Int))))
 (o15:q4o ws (∀ (x3:Nat),q4r ws x3 (∀ (i7:Nat),i7 < ws.length->cSday (ws.getD i7 default)=cSday (rowK default ws (x3 + 1) i7))))
 (o16:q4o ws (∀ (x3:Nat),q4r ws x3 (1<=1/\x3 + 1<=ws.length)))
 (o17:q4o ws (∀ (x3:Nat),q4r ws x3 (∀ (x6:Nat),q4t ws x3 x6 (0<=(x6:Int)))))
 (o18:q4o ws (∀ (x3:Nat),q4r ws x3 (∀ (x6:Nat),q4t ws x3 x6 ((x6:Int) < (↑(ws.length - x3):Int)))))
 (o19:q4o ws (∀ (x3:Nat),q4r ws x3 (∀ (x6:Nat),q4t ws x3 x6 (x3 + (ws.length - x3)<=ws.length))))
 (o20:q4o ws (∀ (x3:Nat),q4r ws x3 (∀ (x6:Nat),q4t ws x3 x6 (x3 + x6 < ws.length))))
 (o21:q4o ws (∀ (x3:Nat),q4r ws x3 (∀ (x6:Nat),q4t ws x3 x6 (inI ((x6:Int) - 1)))))
 (o22:q4o ws (∀ (x3:Nat),q4r ws x3 (∀ (x6:Nat),q4t ws x3 x6 (0<=(x6:Int) - 1))))
 (o23:q4o ws (∀ (x3:Nat),q4r ws x3 (∀ (x6:Nat),q4t ws x3 x6 ((x6:Int) - 1 < (↑(ws.length - x3):Int)))))
 (o24:q4o ws (∀ (x3:Nat),q4r ws x3 (∀ (x6:Nat),q4t ws x3 x6 (x3 + (ws.length - x3)<=ws.length))))
 (o25:q4o ws (∀ (x3:Nat),q4r ws x3 (∀ (x6:Nat),q4t ws x3 x6 (x3 + ((x6:Int) - 1).toNat < ws.length))))
 (o26:q4o ws (∀ (x3:Nat),q4r ws x3 (∀ (x6:Nat),q4u ws x3 x6 (0<=(x6:Int)))))
 (o27:q4o ws (∀ (x3:Nat),q4r ws x3 (∀ (x6:Nat),q4u ws x3 x6 ((x6:Int) < (↑(ws.length - x3):Int)))))
 (o28:q4o ws (∀ (x3:Nat),q4r ws x3 (∀ (x6:Nat),q4u ws x3 x6 (x3 + (ws.length - x3)<=ws.length))))
 (o29:q4o ws (∀ (x3:Nat),q4r ws x3 (∀ (x6:Nat),q4u ws x3 x6 (x3 + x6 < ws.length))))
 (o30:q4o ws (∀ (x3:Nat),q4r ws x3 (∀ (x6:Nat),q4u ws x3 x6 (0<=(↑((cpTo default ws (x3 + x6)).length):Int)))))
 (o31:q4o ws (∀ (x3:Nat),q4r ws x3 (∀ (x6:Nat),q4u ws x3 x6 ((↑((cpTo default ws (x3 + x6)).length):Int) < (↑(ws.length):Int)))))
 (o32:q4o ws (∀ (x3:Nat),q4r ws x3 (∀ (x6:Nat),q4u ws x3 x6 ((cpTo default ws (x3 + x6)).length < ws.length))))
 (o33:q4o ws (∀ (x3:Nat),q4r ws x3 (∀ (x6:Nat),q4u ws x3 x6 (inI ((↑((cpTo default ws (x3 + x6)).length):Int) + 1)))))
 (o34:q4o ws (∀ (x3:Nat),q4r ws x3 (∀ (x6:Nat),q4u ws x3 x6 (inI ((x6:Int) + 1)))))
 (o35:q4o ws (∀ (x3:Nat),q4r ws x3 (∀ (x6:Nat),q4u ws x3 x6 ((↑((cpTo default ws (x3 + x6)).length):Int) + 1=(↑((cpTo default ws (x3 + (x6 + 1))).length):Int)))))
 (o36:q4o ws (∀ (x3:Nat),q4r ws x3 (∀ (x6:Nat),q4u ws x3 x6 ((x6:Int) + 1=(↑(x6 + 1):Int)))))
 (o37:q4o ws (∀ (x3:Nat),q4r ws x3 (∀ (x6:Nat),q4u ws x3 x6 (∀ (i11:Nat),i11 < ws.length->Decidable.rec (fun (h:¬i11=(cpTo default ws (x3 + x6)).length)=>cSday (rowK default ws (x3 + x6) i11)) (fun (h:i11=(cpTo default ws (x3 + x6)).length)=>[iv (rowK default ws (x3 + x6) (x3 + x6)).ad,iv (rowK default ws (x3 + x6) (x3 + x6)).day] ++ []) (instDecidableEqNat i11 (cpTo default ws (x3 + x6)).length)=cSday (rowK default ws (x3 + (x6 + 1)) i11)))))
 (o38:q4o ws (∀ (x3:Nat),q4r ws x3 (∀ (x6:Nat),q4u ws x3 x6 (1<=x6 + 1/\x3 + (x6 + 1)<=ws.length))))
 (o39:q4o ws (∀ (x3:Nat),q4r ws x3 (∀ (x6:Nat),q4u ws x3 x6 (ws.length - (x6 + 1) < ws.length - x6))))
 (o40:q4o ws (∀ (x3:Nat),q4r ws x3 (∀ (x6:Nat),q4v ws x3 x6 (inI ((x6:Int) + 1)))))
 (o41:q4o ws (∀ (x3:Nat),q4r ws x3 (∀ (x6:Nat),q4v ws x3 x6 ((↑((cpTo default ws (x3 + x6)).length):Int)=(↑((cpTo default ws (x3 + (x6 + 1))).length):Int)))))
 (o42:q4o ws (∀ (x3:Nat),q4r ws x3 (∀ (x6:Nat),q4v ws x3 x6 ((x6:Int) + 1=(↑(x6 + 1):Int)))))
 (o43:q4o ws (∀ (x3:Nat),q4r ws x3 (∀ (x6:Nat),q4v ws x3 x6 (∀ (i13:Nat),i13 < ws.length->cSday (rowK default ws (x3 + x6) i13)=cSday (rowK default ws (x3 + (x6 + 1)) i13)))))
 (o44:q4o ws (∀ (x3:Nat),q4r ws x3 (∀ (x6:Nat),q4v ws x3 x6 (1<=x6 + 1/\x3 + (x6 + 1)<=ws.length))))
 (o45:q4o ws (∀ (x3:Nat),q4r ws x3 (∀ (x6:Nat),q4v ws x3 x6 (ws.length - (x6 + 1) < ws.length - x6))))
 (o46:q4o ws (∀ (x3:Nat),q4r ws x3 (∀ (x6:Nat),q4w ws x3 x6 (0<=(↑((cpTo default ws (x3 + x6)).length):Int)))))
 (o47:q4o ws (∀ (x3:Nat),q4r ws x3 (∀ (x6:Nat),q4w ws x3 x6 ((↑((cpTo default ws (x3 + x6)).length):Int) < (↑(ws.length):Int)))))
 (o48:q4o ws (∀ (x3:Nat),q4r ws x3 (∀ (x6:Nat),q4w ws x3 x6 ((cpTo default ws (x3 + x6)).length + (ws.length - (cpTo default ws (x3 + x6)).length)=ws.length))))
 (o49:q4o ws (∀ (x3:Nat),q4r ws x3 (∀ (x6:Nat),q4w ws x3 x6 (0 < ws.length - (cpTo default ws (x3 + x6)).length))))
 (o50:q4o ws (∀ (x3:Nat),q4r ws x3 (∀ (x6:Nat),q4w ws x3 x6 (∀ (i15:Nat),i15 < ws.length->Decidable.rec (fun (h:¬i15 < (cpTo default ws (x3 + x6)).length)=>[iv 0,iv 0]) (fun (h:i15 < (cpTo default ws (x3 + x6)).length)=>cSday (rowK default ws (x3 + x6) i15)) (Nat.decLt i15 (cpTo default ws (x3 + x6)).length)=endK ws i15))))
 (o51:q4o ws (∀ (x3:Nat),q4r ws x3 (∀ (x6:Nat),q4w ws x3 x6 (0<=(↑((cpTo default ws (x3 + x6)).length):Int)))))
 (o52:q4o ws (∀ (x3:Nat),q4r ws x3 (∀ (x6:Nat),q4w ws x3 x6 ((↑((cpTo default ws (x3 + x6)).length):Int)<=(↑(ws.length):Int)))))
 (o53:q4o ws (∀ (x3:Nat),q4r ws x3 (∀ (x6:Nat),q4w ws x3 x6 ((cpTo default ws (x3 + x6)).length=(cpL default ws).length))))
 (o54:q4o ws (∀ (x3:Nat),q4r ws x3 (∀ (x6:Nat),q4w ws x3 x6 (∀ (i17:Nat),i17 < (cpTo default ws (x3 + x6)).length->endK ws i17=cSday ((cpL default ws).getD i17 default)))))
 (o55:q4o ws (∀ (x3:Nat),q4x ws x3 (inI ((x3:Int) + 1))))
 (o56:q4o ws (∀ (x3:Nat),q4x ws x3 ((x3:Int) + 1=(↑(x3 + 1):Int))))
 (o57:q4o ws (∀ (x3:Nat),q4x ws x3 (1<=x3 + 1/\x3 + 1<=ws.length /\ ∀ (j:Nat),j < x3 + 1->newAt default ws j=true)))
 (o58:q4o ws (∀ (x3:Nat),q4x ws x3 (ws.length - (x3 + 1) < ws.length - x3)))
 (o59:q4o ws (∀ (x3:Nat),q4p ws x3 (decide ((x3:Int) < (↑(ws.length):Int))=false->ws.length=(cpL default ws).length)))
 (o60:q4o ws (∀ (x3:Nat),q4p ws x3 (decide ((x3:Int) < (↑(ws.length):Int))=false -> ∀ (i19:Nat),i19 < ws.length->cSday (ws.getD i19 default)=cSday ((cpL default ws).getD i19 default))))
  (l:List (Nat × Nat)) (hl:l.map (·.1) = [0,3]) (hnd:(l.map (·.2)).Nodup) :
  Triple Try.prog 88 (IoSpec.at (io88o ws) l):=by
 refine triple_io Try.func88 rfl Try.call88 T0_ok (io88o ws) 2 l (by rw [hl]; kernel_rfl) hnd (Nat.le_of_ble_eq_true (by kernel_rfl)) (fun _ _ _ _ h=>h) ?_
 intro hpre C hC _ hE
 obtain ⟨P,w0,E0,av,hA,ro,df⟩:=C
 obtain ⟨rfl,rfl,rfl⟩:=hC
 refine swp_seq ?_
 refine zR [0] [0] (Ak 1 tv) ?_
 refine swp_seq ?_
 refine swp_seq ?_
 refine zR [0,8] [0] (Ak 3 tv) ?_
 refine zI (decide ((↑(ws.length):Int) < 2)) (fun y0 => ?_) (fun y0 => ?_)
 ·refine swp_seq ?_
  refine zR [2] [0] (Ak 2 tv) ?_
  refine swp_ret ?_
  exact zO (ASt.mk [(2,AV.vec 3)] [(3,OB.vec 61 2 (cpL default ws).length fun (i:Nat)=>cSday ((cpL default ws).getD i default))] 100) (zEn 2 hE [] [(3,.same 0)] [] [] (An (An (zr (some (Src.same 0))) tv) (An (An (An (zr 61) (An (zr 2) (An (o0 hpre y0) (fun (i1:Nat)=>(fun (y2:i1 < ws.length)=>(o1 hpre y0 i1 y2)))))) tv) (An (zr true) (zr true))))) (An (Ak 1 tv) (An (zr (AV.vec 3)) (An (zr (some (OB.vec 61 2 (cpL default ws).length fun (i:Nat)=>cSday ((cpL default ws).getD i default)))) tv)))
 ·refine swp_skip ?_
  refine swp_seq ?_
  refine swp_seq ?_
  refine zR [0,3] [0] (Ak 1 tv) ?_
  refine swp_block ?_
  refine zL (Hint.ann (h88a ws) [(0,AV.vec 0)] [(0,OB.vec 61 2 ws.length fun (i:Nat)=>cSday (ws.getD i default))] 10042) (zEn 2 hE [] [(0,.same 0)] [] [0] (An (An (zr (some (Src.same 0))) (An (An (ci (o2 hpre y0)) (zr nilN)) tv)) (An (An (An (zr (OB.vec 61 2 ws.length fun (i:Nat)=>cSday (ws.getD i default))) (zr true)) tv) (An (zr true) (zr true))))) (o3 hpre y0) (fun (x3:Nat) hx3 => ?_)
  refine swp_seq ?_
  refine swp_seq ?_
  refine zR [0,3,13] [0] (Ak 4 tv) ?_
  refine zI (decide ((x3:Int) < (↑(ws.length):Int))) (fun y4 => ?_) (fun y4 => ?_)
  ·refine swp_skip ?_
   refine swp_seq ?_
   refine swp_block ?_
   refine swp_seq ?_
   refine zR [0,3,25] [0] (Ak 2 (An (An (o4 hpre y0 x3 hx3 y4) (o5 hpre y0 x3 hx3 y4)) (An (An (o6 hpre y0 x3 hx3 y4) tv) (Ak 2 (An (o7 hpre y0 x3 hx3 y4) (An (An (o8 hpre y0 x3 hx3 y4) (o9 hpre y0 x3 hx3 y4)) (An (An (o10 hpre y0 x3 hx3 y4) tv) (Ak 1 tv)))))))) ?_
   refine zI (decide ((ws.getD x3 default).ad=(ws.getD ((x3:Int) - 1).toNat default).ad) && (decide ((ws.getD x3 default).day=(ws.getD ((x3:Int) - 1).toNat default).day) && true)) (fun y5 => ?_) (fun y5 => ?_)
   ·refine swp_seq ?_
    refine zR [0,3,4] [0] (Ak 2 (An (An (o11 hpre y0 x3 hx3 y4 y5) (o12 hpre y0 x3 hx3 y4 y5)) (Ak 1 tv))) ?_
    refine swp_seq ?_
    refine swp_seq ?_
    refine zR [0,3,4,5] [0] (Ak 1 tv) ?_
    refine swp_block ?_
    refine zL (Hint.ann (h88b ws x3) [(0,AV.vec 0),(4,AV.win 0 [PS.idx x3 2] 2 (ws.length - x3))] [] 20194) (zEn 2 hE [] [(0,.same 0)] [] [] (An (An (zr (some (Src.same 0))) (An (An (zr (some (Src.same 0))) (An (zr ([PS.idx x3 2])) (An (zr 2) (zr (ws.length - x3))))) (An (An (ci (o13 hpre y0 x3 hx3 y4 y5)) (zr nilN)) (An (An (ci (o14 hpre y0 x3 hx3 y4 y5)) (zr nilN)) tv)))) (An (An (An (zr 61) (An (zr 2) (An (zr ws.length) (fun (i7:Nat)=>(fun (y8:i7 < ws.length)=>(o15 hpre y0 x3 hx3 y4 y5 i7 y8)))))) tv) (An (zr true) (zr true))))) (o16 hpre y0 x3 hx3 y4 y5) (fun (x6:Nat) hx6 => ?_)
    refine swp_seq ?_
    refine swp_seq ?_
    refine zR [0,4,3,5,32] [0] (Ak 4 tv) ?_
    refine zI (decide ((x6:Int) < (↑(ws.length - x3):Int))) (fun y9 => ?_) (fun y9 => ?_)
    ·refine swp_skip ?_
     refine swp_seq ?_
     refine swp_block ?_
     refine swp_seq ?_
     refine zR [0,4,3,5,44] [0] (Ak 2 (An (An (o17 hpre y0 x3 hx3 y4 y5 x6 hx6 y9) (An (o18 hpre y0 x3 hx3 y4 y5 x6 hx6 y9) (o19 hpre y0 x3 hx3 y4 y5 x6 hx6 y9))) (An (An (o20 hpre y0 x3 hx3 y4 y5 x6 hx6 y9) tv) (Ak 2 (An (o21 hpre y0 x3 hx3 y4 y5 x6 hx6 y9) (An (An (o22 hpre y0 x3 hx3 y4 y5 x6 hx6 y9) (An (o23 hpre y0 x3 hx3 y4 y5 x6 hx6 y9) (o24 hpre y0 x3 hx3 y4 y5 x6 hx6 y9))) (An (An (o25 hpre y0 x3 hx3 y4 y5 x6 hx6 y9) tv) (Ak 1 tv)))))))) ?_
     refine zI (!(decide ((rowK default ws (x3 + x6) (x3 + x6)).ad=(rowK default ws (x3 + x6) (x3 + ((x6:Int) - 1).toNat)).ad) && (decide ((rowK default ws (x3 + x6) (x3 + x6)).day=(rowK default ws (x3 + x6) (x3 + ((x6:Int) - 1).toNat)).day) && true))) (fun y10 => ?_) (fun y10 => ?_)
     ·refine swp_seq ?_
      refine zR [0,4,3,5] [0] (Ak 4 (An (An (o26 hpre y0 x3 hx3 y4 y5 x6 hx6 y9 y10) (An (o27 hpre y0 x3 hx3 y4 y5 x6 hx6 y9 y10) (o28 hpre y0 x3 hx3 y4 y5 x6 hx6 y9 y10))) (An (An (o29 hpre y0 x3 hx3 y4 y5 x6 hx6 y9 y10) tv) (An (An (o30 hpre y0 x3 hx3 y4 y5 x6 hx6 y9 y10) (o31 hpre y0 x3 hx3 y4 y5 x6 hx6 y9 y10)) (An (An (o32 hpre y0 x3 hx3 y4 y5 x6 hx6 y9 y10) tv) tv))))) ?_
      refine zR [0,4,3,5] [0] (Ak 1 (An (o33 hpre y0 x3 hx3 y4 y5 x6 hx6 y9 y10) (Ak 1 tv))) ?_
      refine zR [0,4,3,5] [0] (Ak 1 (An (o34 hpre y0 x3 hx3 y4 y5 x6 hx6 y9 y10) (Ak 1 tv))) ?_
      exact zn (zEn 2 hE [] [(0,.same 0)] [] [] (An (An (zr (some (Src.same 0))) (An (An (zr (some (Src.same 0))) (An (zr ([PS.idx x3 2])) (An (zr 2) (zr (ws.length - x3))))) (An (An (ci (o35 hpre y0 x3 hx3 y4 y5 x6 hx6 y9 y10)) (zr nilN)) (An (An (ci (o36 hpre y0 x3 hx3 y4 y5 x6 hx6 y9 y10)) (zr nilN)) tv)))) (An (An (An (zr 61) (An (zr 2) (An (zr ws.length) (fun (i11:Nat)=>(fun (y12:i11 < ws.length)=>(o37 hpre y0 x3 hx3 y4 y5 x6 hx6 y9 y10 i11 y12)))))) tv) (An (zr true) (zr true))))) (o38 hpre y0 x3 hx3 y4 y5 x6 hx6 y9 y10) (o39 hpre y0 x3 hx3 y4 y5 x6 hx6 y9 y10)
     ·refine swp_skip ?_
      refine zR [0,4,3,5] [0] (Ak 1 (An (o40 hpre y0 x3 hx3 y4 y5 x6 hx6 y9 y10) (Ak 1 tv))) ?_
      exact zn (zEn 2 hE [] [(0,.same 0)] [] [] (An (An (zr (some (Src.same 0))) (An (An (zr (some (Src.same 0))) (An (zr ([PS.idx x3 2])) (An (zr 2) (zr (ws.length - x3))))) (An (An (ci (o41 hpre y0 x3 hx3 y4 y5 x6 hx6 y9 y10)) (zr nilN)) (An (An (ci (o42 hpre y0 x3 hx3 y4 y5 x6 hx6 y9 y10)) (zr nilN)) tv)))) (An (An (An (zr 61) (An (zr 2) (An (zr ws.length) (fun (i13:Nat)=>(fun (y14:i13 < ws.length)=>(o43 hpre y0 x3 hx3 y4 y5 x6 hx6 y9 y10 i13 y14)))))) tv) (An (zr true) (zr true))))) (o44 hpre y0 x3 hx3 y4 y5 x6 hx6 y9 y10) (o45 hpre y0 x3 hx3 y4 y5 x6 hx6 y9 y10)
    ·refine swp_exit ?_
     refine swp_seq ?_
     refine zR [0,3] [0] (Ak 2 (An (An (o46 hpre y0 x3 hx3 y4 y5 x6 hx6 y9) (o47 hpre y0 x3 hx3 y4 y5 x6 hx6 y9)) (An (An (o48 hpre y0 x3 hx3 y4 y5 x6 hx6 y9) (o49 hpre y0 x3 hx3 y4 y5 x6 hx6 y9)) tv))) ?_
     refine swp_seq ?_
     refine swp_ent (zEn (st2:=ASt.mk [(0,AV.vec 0),(3,iv (↑((cpTo default ws (x3 + x6)).length):Int))] [(0,OB.vec 61 2 ws.length fun (q:Nat)=>endK ws q)] 20258) 2 hE [] [(0,.same 0)] [3] [] (An (An (zr (some (Src.same 0))) (An (An (zr (iv (↑((cpTo default ws (x3 + x6)).length):Int))) (zr true)) tv)) (An (An (An (zr 61) (An (zr 2) (An (zr ws.length) (fun (i15:Nat)=>(fun (y16:i15 < ws.length)=>(o50 hpre y0 x3 hx3 y4 y5 x6 hx6 y9 i15 y16)))))) tv) (An (zr true) (zr true))))) ?_
     refine zC ([(2,focB8)]) [2] [20274] (Ak 2 (An (An (o51 hpre y0 x3 hx3 y4 y5 x6 hx6 y9) (o52 hpre y0 x3 hx3 y4 y5 x6 hx6 y9)) (Ak 1 tv))) ?_
     refine swp_ret ?_
     exact zO (ASt.mk [(2,AV.vec 3)] [(3,OB.vec 61 2 (cpL default ws).length fun (i:Nat)=>cSday ((cpL default ws).getD i default))] 100) (zEn 2 hE [] [(3,.same 20274)] [] [] (An (An (zr (some (Src.same 20274))) tv) (An (An (An (zr 61) (An (zr 2) (An (o53 hpre y0 x3 hx3 y4 y5 x6 hx6 y9) (fun (i17:Nat)=>(fun (y18:i17 < (cpTo default ws (x3 + x6)).length)=>(o54 hpre y0 x3 hx3 y4 y5 x6 hx6 y9 i17 y18)))))) tv) (An (zr true) (zr true))))) (An (Ak 1 tv) (An (zr (AV.vec 3)) (An (zr (some (OB.vec 61 2 (cpL default ws).length fun (i:Nat)=>cSday ((cpL default ws).getD i default)))) tv)))
   ·refine swp_skip ?_
    refine zR [0,3] [0] (Ak 1 (An (o55 hpre y0 x3 hx3 y4 y5) (Ak 1 tv))) ?_
    exact zn (zEn 2 hE [] [(0,.same 0)] [] [0] (An (An (zr (some (Src.same 0))) (An (An (ci (o56 hpre y0 x3 hx3 y4 y5)) (zr nilN)) tv)) (An (An (An (zr (OB.vec 61 2 ws.length fun (i:Nat)=>cSday (ws.getD i default))) (zr true)) tv) (An (zr true) (zr true))))) (o57 hpre y0 x3 hx3 y4 y5) (o58 hpre y0 x3 hx3 y4 y5)
  ·refine swp_exit ?_
   refine swp_seq ?_
   refine zR [2] [0] (Ak 2 tv) ?_
   refine swp_ret ?_
   exact zO (ASt.mk [(2,AV.vec 3)] [(3,OB.vec 61 2 (cpL default ws).length fun (i:Nat)=>cSday ((cpL default ws).getD i default))] 100) (zEn 2 hE [] [(3,.same 0)] [] [] (An (An (zr (some (Src.same 0))) tv) (An (An (An (zr 61) (An (zr 2) (An (o59 hpre y0 x3 hx3 y4) (fun (i19:Nat)=>(fun (y20:i19 < ws.length)=>(o60 hpre y0 x3 hx3 y4 i19 y20)))))) tv) (An (zr true) (zr true))))) (An (Ak 1 tv) (An (zr (AV.vec 3)) (An (zr (some (OB.vec 61 2 (cpL default ws).length fun (i:Nat)=>cSday ((cpL default ws).getD i default)))) tv)))
theorem t88o (b:Nat) (ws:List Sday) (id:Nat) (hid:[b,id].Nodup:=by decide):Triple Try.prog 88 (s88o b ws id):=by
  apply wio88o ws (l:=[(0,b),(3,id)]) (hl:=rfl) (hnd:=hid)
  all_goals (try delta q4n q4o q4p q4q q4r q4s q4t q4u q4v q4w q4x)
  all_goals (intro hp hc; simp only [decide_eq_true_eq,decide_eq_false_iff_not] at hc)
  case o0=>rw [cpL_id fun j hj=>new_first j (by omega)]
  case o1=>intro i hi; rw [cpL_id fun j hj=>new_first j (by omega)]
  case o2=>rfl
  case o3=>exact ⟨by omega,by omega,new_first⟩
  all_goals (intro x hx; obtain ⟨x1,x2,x3⟩:=hx; intro hl; simp only [decide_eq_true_eq,decide_eq_false_iff_not] at hl)
  case o59=>rw [cpL_id fun j hj=>x3 j (by omega)]
  case o60=>intro i hi; rw [cpL_id fun j hj=>x3 j (by omega)]
  case o4 | o5 | o6 | o8 | o9 | o10=>all_goals omega
  case o7=>simp only [inI]; omega
  all_goals (have ex:((x:Int) - 1).toNat=x - 1:=by omega)
  all_goals (rw [ex,sday_eq]; intro hd)
  case o57=>exact ⟨by omega,by omega,lt_succ_cases x3 (by rw [newAt_pos (by omega)]; simp only [decide_eq_false_iff_not] at hd; simp only [Bool.not_eq_true',decide_eq_false_iff_not]; exact fun e=>hd e.symm)⟩
  case o55=>simp only [inI]; omega
  case o56=>rfl
  case o58=>omega
  all_goals (have hn:newAt default ws x=false:=by rw [newAt_pos (by omega)]; simp only [decide_eq_true_eq] at hd; simp only [Bool.not_eq_false',decide_eq_true_eq]; exact hd.symm)
  all_goals (have hc1:cpTo default ws (x + 1)=ws.take x:=by rw [cpTo_f hn,cpTo_first (by omega) x3])
  case o11 | o12=>all_goals omega
  case o13=>rw [hc1,List.length_take]; omega
  case o14=>rfl
  case o15 =>
    intro i hi
    unfold rowK
    rw [hc1]
    split
    · rename_i h; rw [List.length_take] at h; rw [take_getD _ _ (by omega)]
    · rfl
  case o16=>exact ⟨Nat.le_refl _,by omega⟩
  all_goals (intro k hk; obtain ⟨k1,k2⟩:=hk; intro hkl; simp only [decide_eq_true_eq,decide_eq_false_iff_not] at hkl)
  all_goals (have hlt:=cpTo_lt hn (n:=x + k) (by omega))
  case o50 =>
    have hall:x + k=ws.length:=by omega
    intro i hi
    rw [hall]
    refine rec_lt8 (fun h=>(endK_ge h).symm) (fun h => ?_)
    rw [endK_lt h]
    unfold rowK
    rw [if_pos h]; rfl
  case o53 => have hall : x + k = ws.length := by omega
              rw [hall]; rfl
  case o54 => have hall : x + k = ws.length := by omega
              intro i hi; rw [hall] at hi; rw [endK_lt hi]
  all_goals (try (first | omega | (simp only [inI]; omega)))
  all_goals (have ek:((k:Int) - 1).toNat=k - 1:=by omega)
  all_goals (rw [ek,rowK_far (Nat.le_refl _),rowK_past (show (cpTo default ws (x + k)).length<=x + (k - 1) by omega),sday_eq])
  all_goals (intro hd2)
  all_goals (try (first | omega | (simp only [inI]; omega) | rfl))
  all_goals (have exk:x + (k - 1)=x + k - 1:=by omega)
  all_goals (rw [exk] at hd2)
  case o35 =>
    have:newAt default ws (x + k)=true:=by rw [newAt_pos (by omega)]; simp only [Bool.not_eq_true',decide_eq_false_iff_not] at hd2 ⊢; exact fun e=>hd2 e.symm
    rw [← Nat.add_assoc,cpTo_t this,List.length_append]; rfl
  case o37 =>
    have:newAt default ws (x + k)=true:=by rw [newAt_pos (by omega)]; simp only [Bool.not_eq_true',decide_eq_false_iff_not] at hd2 ⊢; exact fun e=>hd2 e.symm
    intro i hi
    rw [← Nat.add_assoc,rowK_t this]
    exact rec_ei8 (fun h=>by rw [if_neg h]) (fun h=>by rw [if_pos h]; rfl)
  case o41 =>
    have:newAt default ws (x + k)=false:=by rw [newAt_pos (by omega)]; simp only [Bool.not_eq_false',decide_eq_true_eq] at hd2 ⊢; exact hd2.symm
    rw [← Nat.add_assoc,cpTo_f this]
  case o43 =>
    have:newAt default ws (x + k)=false:=by rw [newAt_pos (by omega)]; simp only [Bool.not_eq_false',decide_eq_true_eq] at hd2 ⊢; exact hd2.symm
    intro i hi
    rw [← Nat.add_assoc,rowK_f this]
  all_goals (constructor <;> omega)
abbrev q4y (b:Book) (is:Bool) (P:Prop):Prop:=smallB b/\okBook b=true/\is=true->P
abbrev q4z (b:Book) (x1:Nat) (P:Prop):Prop:=x1<=b.shown.length->P
abbrev q50 (b:Book) (x1:Nat) (P:Prop):Prop:=q4z b x1 (decide ((x1:Int) < (↑(b.shown.length):Int))=true->P)
abbrev q51 (b:Book) (x1:Nat) (P:Prop):Prop:=q4z b x1 (decide ((x1:Int) < (↑(b.shown.length):Int))=false->P)
theorem wio58p (b:Book) (is:Bool)
 (o0:q4y b is ((!decide (checkB b=0))=false))
 (o1:q4y b is ((!is)=false))
 (o2:q4y b is (0=(↑0:Int)))
 (o3:q4y b is ((List.take 0 (rawD b)).length=0))
 (o4:q4y b is (0<=b.shown.length))
 (o5:q4y b is (∀ (x1:Nat),q50 b x1 (0<=(x1:Int))))
 (o6:q4y b is (∀ (x1:Nat),q50 b x1 ((x1:Int) < (↑(b.shown.length):Int))))
 (o7:q4y b is (∀ (x1:Nat),q50 b x1 ((List.take x1 (rawD b)).length + 1<=65536)))
 (o8:q4y b is (∀ (x1:Nat),q50 b x1 (inI ((x1:Int) + 1))))
 (o9:q4y b is (∀ (x1:Nat),q50 b x1 ((x1:Int) + 1=(↑(x1 + 1):Int))))
 (o10:q4y b is (∀ (x1:Nat),q50 b x1 ((List.take x1 (rawD b)).length + 1=(List.take (x1 + 1) (rawD b)).length)))
 (o11:q4y b is (∀ (x1:Nat),q50 b x1 (∀ (i15:Nat),i15 < (List.take x1 (rawD b)).length + 1->catF (List.take x1 (rawD b)).length (fun (i:Nat)=>cSday ((List.take x1 (rawD b)).getD i default)) (fun (j:Nat)=>List.getD [[iv (shB b x1).ad,iv (shB b x1).day]] j (TI.za ti61)) i15=cSday ((List.take (x1 + 1) (rawD b)).getD i15 default))))
 (o12:q4y b is (∀ (x1:Nat),q50 b x1 (x1 + 1<=b.shown.length)))
 (o13:q4y b is (∀ (x1:Nat),q50 b x1 (b.shown.length - (x1 + 1) < b.shown.length - x1)))
 (o14:q4y b is (∀ (x1:Nat),q51 b x1 ((rawD b).length<=12)))
 (o15:q4y b is (∀ (x1:Nat),q51 b x1 (okDs (rawD b))))
 (o16:q4y b is (∀ (x1:Nat),q51 b x1 (some (OB.vec 61 2 (List.take x1 (rawD b)).length fun (i:Nat)=>cSday ((List.take x1 (rawD b)).getD i default))=some (OB.vec 61 2 (rawD b).length fun (i:Nat)=>cSday ((rawD b).getD i default)))))
 (o17:q4y b is (∀ (x1:Nat),q51 b x1 ((sortD (rawD b)).length<=65536)))
 (o18:q4y b is (∀ (x1:Nat),q51 b x1 ((cpL default (sortD (rawD b))).length=(stds b).length)))
 (o19:q4y b is (∀ (x1:Nat),q51 b x1 (∀ (i25:Nat),i25 < (stds b).length->cSday ((cpL default (sortD (rawD b))).getD i25 default)=cSday ((stds b).getD i25 default))))
 (o20:q4y b is (∀ (x1:Nat),q51 b x1 (some (OB.cells 89 (cWk b))=some (OB.cells 89 [AV.sl 2 b.lines.length fun (i:Nat)=>cSpan (lnB b i),AV.sl 3 b.shown.length fun (i:Nat)=>cShn (shB b i),iv b.rate,iv b.rep,AV.sl 4 b.ctrs.length fun (i:Nat)=>cCtr (ctB b i),aDays (stds b)]))))
  (l:List (Nat × Nat)) (hl:l.map (·.1) = [2]) (hnd:(l.map (·.2)).Nodup) :
  Triple Try.prog 58 (IoSpec.at (io58p b is) l):=by
 refine triple_io Try.func58 rfl Try.call58 T0_ok (io58p b is) 2 l (by rw [hl]; kernel_rfl) hnd (Nat.le_of_ble_eq_true (by kernel_rfl)) (fun _ _ _ _ h=>h) ?_
 intro hpre C hC _ hE
 obtain ⟨P,w0,E0,av,hA,ro,df⟩:=C
 obtain ⟨rfl,rfl,rfl⟩:=hC
 refine swp_seq ?_
 refine zR [1,2] [2] (Ak 3 tv) ?_
 refine swp_seq ?_
 refine swp_seq ?_
 refine zC ([(1,CallSpec.eq (s17 b) [true])]) [1,2,6] [2] (Ak 1 (An (An (An (zr (AV.agg (cBk b))) tv) (An (t17 (b)) (An hpre.1 (Ak 1 (fun (i0:Env)=>tv))))) (Ak 1 tv))) ?_
 refine swp_seq ?_
 refine zR [1,2,6,13] [2] (Ak 2 tv) ?_
 refine zI (!decide (checkB b=0)) (fun h=>by cases (h.symm.trans (o0 hpre))) (fun _ => ?_)
 refine swp_skip ?_
 refine swp_seq ?_
 refine swp_seq ?_
 refine zR [2,16] [2] (Ak 2 tv) ?_
 refine zI (!is) (fun h=>by cases (h.symm.trans (o1 hpre))) (fun _ => ?_)
 refine swp_skip ?_
 refine swp_seq ?_
 refine zR [2,7] [2,98] (Ak 4 tv) ?_
 refine swp_seq ?_
 refine swp_seq ?_
 refine zR [7,21,22,23] [98] (Ak 4 tv) ?_
 refine swp_block ?_
 refine zL (Hint.ann (h58d b is) [(7,AV.ptr 98 []),(21,AV.sl 3 b.shown.length fun (i:Nat)=>cShn (shB b i)),(22,iv (↑(b.shown.length):Int))] [] 10146) (zEn 2 hE [] [(98,.same 98),(5000,.nil)] [21,22] [] (An (An (An (zr (some (Src.same 98))) (zr nilP)) (An (An (zr (AV.sl 3 b.shown.length fun (i:Nat)=>cShn (shB b i))) (zr true)) (An (An (zr (iv (↑(b.shown.length):Int))) (zr true)) (An (An (ci (o2 hpre)) (zr nilN)) tv)))) (An (An (An (zr 89) (An (An (An (zr 2) (An (zr b.lines.length) (fun (i2:Nat)=>(fun (y3:i2 < b.lines.length)=>(zr (cSpan (lnB b i2))))))) (An (An (zr 3) (An (zr b.shown.length) (fun (i4:Nat)=>(fun (y5:i4 < b.shown.length)=>(zr (cShn (shB b i4))))))) (An (An (zr (iv b.rate)) (zr nilN)) (An (An (zr (iv b.rep)) (zr nilN)) (An (An (zr 4) (An (zr b.ctrs.length) (fun (i6:Nat)=>(fun (y7:i6 < b.ctrs.length)=>(zr (cCtr (ctB b i6))))))) (An (zr (some Src.nil)) tv)))))) (zr true))) (An (o3 hpre) tv)) (An (zr true) (zr true))))) (o4 hpre) (fun (x1:Nat) hx1 => ?_)
 refine swp_seq ?_
 refine zR [7,21,22,23,24] [98,5000] (Ak 1 tv) ?_
 refine swp_seq ?_
 refine zI (decide ((x1:Int) < (↑(b.shown.length):Int))) (fun y8 => ?_) (fun y8 => ?_)
 ·refine swp_skip ?_
  refine swp_seq ?_
  refine swp_block ?_
  refine swp_seq ?_
  refine zR [7,21,22,23,9] [98,10170,5000] (An (An (o5 hpre x1 hx1 y8) (o6 hpre x1 hx1 y8)) (Ak 3 tv)) ?_
  refine zR [7,21,22,23] [98,10274] (Ak 11 (An (o7 hpre x1 hx1 y8) (Ak 3 tv))) ?_
  refine zR [7,21,22,23] [98,10274] (An (o8 hpre x1 hx1 y8) (Ak 1 tv)) ?_
  exact zn (zEn 2 hE [] [(98,.same 98),(5000,.same 10274)] [21,22] [] (An (An (An (zr (some (Src.same 98))) (zr nilP)) (An (An (zr (AV.sl 3 b.shown.length fun (i:Nat)=>cShn (shB b i))) (zr true)) (An (An (zr (iv (↑(b.shown.length):Int))) (zr true)) (An (An (ci (o9 hpre x1 hx1 y8)) (zr nilN)) tv)))) (An (An (An (zr 89) (An (An (An (zr 2) (An (zr b.lines.length) (fun (i9:Nat)=>(fun (y10:i9 < b.lines.length)=>(zr (cSpan (lnB b i9))))))) (An (An (zr 3) (An (zr b.shown.length) (fun (i11:Nat)=>(fun (y12:i11 < b.shown.length)=>(zr (cShn (shB b i11))))))) (An (An (zr (iv b.rate)) (zr nilN)) (An (An (zr (iv b.rep)) (zr nilN)) (An (An (zr 4) (An (zr b.ctrs.length) (fun (i13:Nat)=>(fun (y14:i13 < b.ctrs.length)=>(zr (cCtr (ctB b i13))))))) (An (zr (some (Src.same 10274))) tv)))))) (zr true))) (An (An (zr 61) (An (zr 2) (An (o10 hpre x1 hx1 y8) (fun (i15:Nat)=>(fun (y16:i15 < (List.take x1 (rawD b)).length + 1)=>(o11 hpre x1 hx1 y8 i15 y16)))))) tv)) (An (zr true) (zr true))))) (o12 hpre x1 hx1 y8) (o13 hpre x1 hx1 y8)
 ·refine swp_exit ?_
  refine swp_seq ?_
  refine zC ([(4,CallSpec.eq (c58a b is) [true,true])]) [7] [98,5000] (Ak 4 (An (An (An (zr (AV.vec 5000)) (An (zr (AV.clo 86 [])) tv)) (An (t85 (5000) (rawD b)) (An (An (o14 hpre x1 hx1 y8) (o15 hpre x1 hx1 y8)) (An (An (o16 hpre x1 hx1 y8) tv) (fun (i17:Env)=>tv))))) tv)) ?_
  refine swp_seq ?_
  refine zC ([(5,CallSpec.eq (c58b b is) [true])]) [7] [98] (Ak 5 (An (An (An (zr (AV.vec 5000)) tv) (An (t88 (5000) (sortD (rawD b))) (An (o17 hpre x1 hx1 y8) (An (An (zr (some (OB.vec 61 2 (sortD (rawD b)).length fun (i:Nat)=>cSday ((sortD (rawD b)).getD i default)))) tv) (fun (i18:Env)=>tv))))) (Ak 3 tv))) ?_
  refine swp_seq ?_
  refine zR [4,5] [98] (Ak 3 tv) ?_
  refine swp_ret ?_
  exact zO (ASt.mk [(4,AV.ptr 2 []),(5,iv 0)] [(2,OB.cells 89 (cWk b))] 100) (zEn 2 hE [] [(2,.same 98)] [5] [] (An (An (An (zr (some (Src.same 98))) (zr nilP)) (An (An (zr (iv 0)) (zr true)) tv)) (An (An (An (zr 89) (An (An (An (zr 2) (An (zr b.lines.length) (fun (i19:Nat)=>(fun (y20:i19 < b.lines.length)=>(zr (cSpan (lnB b i19))))))) (An (An (zr 3) (An (zr b.shown.length) (fun (i21:Nat)=>(fun (y22:i21 < b.shown.length)=>(zr (cShn (shB b i21))))))) (An (An (zr (iv b.rate)) (zr nilN)) (An (An (zr (iv b.rep)) (zr nilN)) (An (An (zr 4) (An (zr b.ctrs.length) (fun (i23:Nat)=>(fun (y24:i23 < b.ctrs.length)=>(zr (cCtr (ctB b i23))))))) (An (An (zr 2) (An (o18 hpre x1 hx1 y8) (fun (i25:Nat)=>(fun (y26:i25 < (stds b).length)=>(o19 hpre x1 hx1 y8 i25 y26))))) tv)))))) (zr true))) tv) (An (zr true) (zr true))))) (An (Ak 2 tv) (An (zr (AV.tup [AV.ptr 2 [],iv 0])) (An (o20 hpre x1 hx1 y8) tv)))
theorem t58po (b:Book) (is:Bool) (id:Nat):Triple Try.prog 58 (s58po b is id):=by
 apply wio58p b is (l:=[(2,id)]) (hl:=rfl) (hnd:=by simp)
 all_goals (try delta q4y q4z q50 q51)
 all_goals (rintro ⟨hp,h,h2⟩)
 case o0=>rw [chk_b,h]; rfl
 case o1=>rw [h2]; rfl
 all_goals (have hs:=ok_soundB h; have hsh:=hs.shown)
 case o3=>rfl
 case o4=>omega
 all_goals (try (intro x hx hl; simp only [decide_eq_true_eq,decide_eq_false_iff_not] at hl))
 case o7=>rw [List.length_take]; omega
 case o10=>rw [List.length_take,List.length_take,raw_len]; omega
 case o11 =>
  intro i hi
  rw [take_succ _ default (by rw [raw_len]; omega)]
  exact snoc_cat default cSday _ _ (by rw [raw_get (by omega)]; rfl) i hi
 case o14=>rw [raw_len]; omega
 case o15=>exact raw_ok hs
 case o16=>rw [List.take_of_length_le (by rw [raw_len]; omega)]
 case o17=>rw [sortD_len,raw_len]; omega
 case o18=>rw [cp_stds hs]
 case o19=>intro i hi; rw [cp_stds hs]
 all_goals (first | omega | rfl | (simp only [inI]; omega))
abbrev q52 (b:Book) (is:Bool) (P:Prop):Prop:=smallB b/\okBook b=true/\is=true->P
abbrev q53 (b:Book) (x1:Nat) (P:Prop):Prop:=x1<=b.shown.length->P
abbrev q54 (b:Book) (x1:Nat) (P:Prop):Prop:=q53 b x1 (decide ((x1:Int) < (↑(b.shown.length):Int))=true->P)
abbrev q55 (b:Book) (x1:Nat) (P:Prop):Prop:=q53 b x1 (decide ((x1:Int) < (↑(b.shown.length):Int))=false->P)
theorem wio58d (b:Book) (is:Bool)
 (o0:q52 b is ((!decide (checkB b=0))=false))
 (o1:q52 b is ((!is)=false))
 (o2:q52 b is (0=(↑0:Int)))
 (o3:q52 b is ((List.take 0 (rawD b)).length=0))
 (o4:q52 b is (0<=b.shown.length))
 (o5:q52 b is (∀ (x1:Nat),q54 b x1 (0<=(x1:Int))))
 (o6:q52 b is (∀ (x1:Nat),q54 b x1 ((x1:Int) < (↑(b.shown.length):Int))))
 (o7:q52 b is (∀ (x1:Nat),q54 b x1 ((List.take x1 (rawD b)).length + 1<=65536)))
 (o8:q52 b is (∀ (x1:Nat),q54 b x1 (inI ((x1:Int) + 1))))
 (o9:q52 b is (∀ (x1:Nat),q54 b x1 ((x1:Int) + 1=(↑(x1 + 1):Int))))
 (o10:q52 b is (∀ (x1:Nat),q54 b x1 ((List.take x1 (rawD b)).length + 1=(List.take (x1 + 1) (rawD b)).length)))
 (o11:q52 b is (∀ (x1:Nat),q54 b x1 (∀ (i15:Nat),i15 < (List.take x1 (rawD b)).length + 1->catF (List.take x1 (rawD b)).length (fun (i:Nat)=>cSday ((List.take x1 (rawD b)).getD i default)) (fun (j:Nat)=>List.getD [[iv (shB b x1).ad,iv (shB b x1).day]] j (TI.za ti61)) i15=cSday ((List.take (x1 + 1) (rawD b)).getD i15 default))))
 (o12:q52 b is (∀ (x1:Nat),q54 b x1 (x1 + 1<=b.shown.length)))
 (o13:q52 b is (∀ (x1:Nat),q54 b x1 (b.shown.length - (x1 + 1) < b.shown.length - x1)))
 (o14:q52 b is (∀ (x1:Nat),q55 b x1 ((rawD b).length<=12)))
 (o15:q52 b is (∀ (x1:Nat),q55 b x1 (okDs (rawD b))))
 (o16:q52 b is (∀ (x1:Nat),q55 b x1 (some (OB.vec 61 2 (List.take x1 (rawD b)).length fun (i:Nat)=>cSday ((List.take x1 (rawD b)).getD i default))=some (OB.vec 61 2 (rawD b).length fun (i:Nat)=>cSday ((rawD b).getD i default)))))
 (o17:q52 b is (∀ (x1:Nat),q55 b x1 ((sortD (rawD b)).length<=65536)))
 (o18:q52 b is (∀ (x1:Nat),q55 b x1 ((cpL default (sortD (rawD b))).length=(stds b).length)))
 (o19:q52 b is (∀ (x1:Nat),q55 b x1 (∀ (i25:Nat),i25 < (cpL default (sortD (rawD b))).length->cSday ((cpL default (sortD (rawD b))).getD i25 default)=cSday ((stds b).getD i25 default))))
  (l:List (Nat × Nat)) (hl:l.map (·.1) = [2,3]) (hnd:(l.map (·.2)).Nodup) :
  Triple Try.prog 58 (IoSpec.at (io58d b is) l):=by
 refine triple_io Try.func58 rfl Try.call58 T0_ok (io58d b is) 2 l (by rw [hl]; kernel_rfl) hnd (Nat.le_of_ble_eq_true (by kernel_rfl)) (fun _ _ _ _ h=>h) ?_
 intro hpre C hC _ hE
 obtain ⟨P,w0,E0,av,hA,ro,df⟩:=C
 obtain ⟨rfl,rfl,rfl⟩:=hC
 refine swp_seq ?_
 refine zR [1,2] [2] (Ak 3 tv) ?_
 refine swp_seq ?_
 refine swp_seq ?_
 refine zC ([(1,CallSpec.eq (s17 b) [true])]) [1,2,6] [2] (Ak 1 (An (An (An (zr (AV.agg (cBk b))) tv) (An (t17 (b)) (An hpre.1 (Ak 1 (fun (i0:Env)=>tv))))) (Ak 1 tv))) ?_
 refine swp_seq ?_
 refine zR [1,2,6,13] [2] (Ak 2 tv) ?_
 refine zI (!decide (checkB b=0)) (fun h=>by cases (h.symm.trans (o0 hpre))) (fun _ => ?_)
 refine swp_skip ?_
 refine swp_seq ?_
 refine swp_seq ?_
 refine zR [2,16] [2] (Ak 2 tv) ?_
 refine zI (!is) (fun h=>by cases (h.symm.trans (o1 hpre))) (fun _ => ?_)
 refine swp_skip ?_
 refine swp_seq ?_
 refine zR [2,7] [2,98] (Ak 4 tv) ?_
 refine swp_seq ?_
 refine swp_seq ?_
 refine zR [7,21,22,23] [98] (Ak 4 tv) ?_
 refine swp_block ?_
 refine zL (Hint.ann (h58d b is) [(7,AV.ptr 98 []),(21,AV.sl 3 b.shown.length fun (i:Nat)=>cShn (shB b i)),(22,iv (↑(b.shown.length):Int))] [] 10146) (zEn 2 hE [] [(98,.same 98),(5000,.nil)] [21,22] [] (An (An (An (zr (some (Src.same 98))) (zr nilP)) (An (An (zr (AV.sl 3 b.shown.length fun (i:Nat)=>cShn (shB b i))) (zr true)) (An (An (zr (iv (↑(b.shown.length):Int))) (zr true)) (An (An (ci (o2 hpre)) (zr nilN)) tv)))) (An (An (An (zr 89) (An (An (An (zr 2) (An (zr b.lines.length) (fun (i2:Nat)=>(fun (y3:i2 < b.lines.length)=>(zr (cSpan (lnB b i2))))))) (An (An (zr 3) (An (zr b.shown.length) (fun (i4:Nat)=>(fun (y5:i4 < b.shown.length)=>(zr (cShn (shB b i4))))))) (An (An (zr (iv b.rate)) (zr nilN)) (An (An (zr (iv b.rep)) (zr nilN)) (An (An (zr 4) (An (zr b.ctrs.length) (fun (i6:Nat)=>(fun (y7:i6 < b.ctrs.length)=>(zr (cCtr (ctB b i6))))))) (An (zr (some Src.nil)) tv)))))) (zr true))) (An (o3 hpre) tv)) (An (zr true) (zr true))))) (o4 hpre) (fun (x1:Nat) hx1 => ?_)
 refine swp_seq ?_
 refine zR [7,21,22,23,24] [98,5000] (Ak 1 tv) ?_
 refine swp_seq ?_
 refine zI (decide ((x1:Int) < (↑(b.shown.length):Int))) (fun y8 => ?_) (fun y8 => ?_)
 ·refine swp_skip ?_
  refine swp_seq ?_
  refine swp_block ?_
  refine swp_seq ?_
  refine zR [7,21,22,23,9] [98,10170,5000] (An (An (o5 hpre x1 hx1 y8) (o6 hpre x1 hx1 y8)) (Ak 3 tv)) ?_
  refine zR [7,21,22,23] [98,10274] (Ak 11 (An (o7 hpre x1 hx1 y8) (Ak 3 tv))) ?_
  refine zR [7,21,22,23] [98,10274] (An (o8 hpre x1 hx1 y8) (Ak 1 tv)) ?_
  exact zn (zEn 2 hE [] [(98,.same 98),(5000,.same 10274)] [21,22] [] (An (An (An (zr (some (Src.same 98))) (zr nilP)) (An (An (zr (AV.sl 3 b.shown.length fun (i:Nat)=>cShn (shB b i))) (zr true)) (An (An (zr (iv (↑(b.shown.length):Int))) (zr true)) (An (An (ci (o9 hpre x1 hx1 y8)) (zr nilN)) tv)))) (An (An (An (zr 89) (An (An (An (zr 2) (An (zr b.lines.length) (fun (i9:Nat)=>(fun (y10:i9 < b.lines.length)=>(zr (cSpan (lnB b i9))))))) (An (An (zr 3) (An (zr b.shown.length) (fun (i11:Nat)=>(fun (y12:i11 < b.shown.length)=>(zr (cShn (shB b i11))))))) (An (An (zr (iv b.rate)) (zr nilN)) (An (An (zr (iv b.rep)) (zr nilN)) (An (An (zr 4) (An (zr b.ctrs.length) (fun (i13:Nat)=>(fun (y14:i13 < b.ctrs.length)=>(zr (cCtr (ctB b i13))))))) (An (zr (some (Src.same 10274))) tv)))))) (zr true))) (An (An (zr 61) (An (zr 2) (An (o10 hpre x1 hx1 y8) (fun (i15:Nat)=>(fun (y16:i15 < (List.take x1 (rawD b)).length + 1)=>(o11 hpre x1 hx1 y8 i15 y16)))))) tv)) (An (zr true) (zr true))))) (o12 hpre x1 hx1 y8) (o13 hpre x1 hx1 y8)
 ·refine swp_exit ?_
  refine swp_seq ?_
  refine zC ([(4,CallSpec.eq (c58a b is) [true,true])]) [7] [98,5000] (Ak 4 (An (An (An (zr (AV.vec 5000)) (An (zr (AV.clo 86 [])) tv)) (An (t85 (5000) (rawD b)) (An (An (o14 hpre x1 hx1 y8) (o15 hpre x1 hx1 y8)) (An (An (o16 hpre x1 hx1 y8) tv) (fun (i17:Env)=>tv))))) tv)) ?_
  refine swp_seq ?_
  refine zC ([(5,CallSpec.eq (c58d b is 10234) [true])]) [7] [98,10234] (Ak 5 (An (An (An (zr (AV.vec 5000)) tv) (An (t88o (5000) (sortD (rawD b)) (10234)) (An (o17 hpre x1 hx1 y8) (An (An (zr (some (OB.vec 61 2 (sortD (rawD b)).length fun (i:Nat)=>cSday ((sortD (rawD b)).getD i default)))) tv) (fun (i18:Env)=>tv))))) (Ak 3 tv))) ?_
  refine swp_seq ?_
  refine zR [4,5] [98,10234] (Ak 3 tv) ?_
  refine swp_ret ?_
  exact zO (ASt.mk [(4,AV.ptr 2 []),(5,iv 0)] [(2,OB.cells 89 [AV.sl 2 b.lines.length fun (i:Nat)=>cSpan (lnB b i),AV.sl 3 b.shown.length fun (i:Nat)=>cShn (shB b i),iv b.rate,iv b.rep,AV.sl 4 b.ctrs.length fun (i:Nat)=>cCtr (ctB b i),AV.vec 3]),(3,OB.vec 61 2 (stds b).length fun (i:Nat)=>cSday ((stds b).getD i default))] 100) (zEn 2 hE [] [(2,.same 98),(3,.same 10234)] [5] [] (An (An (An (zr (some (Src.same 98))) (zr nilP)) (An (An (zr (iv 0)) (zr true)) tv)) (An (An (An (zr 89) (An (An (An (zr 2) (An (zr b.lines.length) (fun (i19:Nat)=>(fun (y20:i19 < b.lines.length)=>(zr (cSpan (lnB b i19))))))) (An (An (zr 3) (An (zr b.shown.length) (fun (i21:Nat)=>(fun (y22:i21 < b.shown.length)=>(zr (cShn (shB b i21))))))) (An (An (zr (iv b.rate)) (zr nilN)) (An (An (zr (iv b.rep)) (zr nilN)) (An (An (zr 4) (An (zr b.ctrs.length) (fun (i23:Nat)=>(fun (y24:i23 < b.ctrs.length)=>(zr (cCtr (ctB b i23))))))) (An (zr (some (Src.same 10234))) tv)))))) (zr true))) (An (An (zr 61) (An (zr 2) (An (o18 hpre x1 hx1 y8) (fun (i25:Nat)=>(fun (y26:i25 < (cpL default (sortD (rawD b))).length)=>(o19 hpre x1 hx1 y8 i25 y26)))))) tv)) (An (zr true) (zr true))))) (An (Ak 2 tv) (An (zr (AV.tup [AV.ptr 2 [],iv 0])) (An (zr (some (OB.cells 89 [AV.sl 2 b.lines.length fun (i:Nat)=>cSpan (lnB b i),AV.sl 3 b.shown.length fun (i:Nat)=>cShn (shB b i),iv b.rate,iv b.rep,AV.sl 4 b.ctrs.length fun (i:Nat)=>cCtr (ctB b i),AV.vec 3]))) (An (zr (some (OB.vec 61 2 (stds b).length fun (i:Nat)=>cSday ((stds b).getD i default)))) tv))))
theorem t58do (b:Book) (is:Bool) (id:Nat):Triple Try.prog 58 (s58do b is id):=by
 apply wio58d b is (l:=[(2,id),(3,id + 1)]) (hl:=rfl) (hnd:=by simp)
 all_goals (try delta q52 q53 q54 q55)
 all_goals (rintro ⟨hp,h,h2⟩)
 case o0=>rw [chk_b,h]; rfl
 case o1=>rw [h2]; rfl
 all_goals (have hs:=ok_soundB h; have hsh:=hs.shown)
 case o3=>rfl
 case o4=>omega
 all_goals (try (intro x hx hl; simp only [decide_eq_true_eq,decide_eq_false_iff_not] at hl))
 case o7=>rw [List.length_take]; omega
 case o10=>rw [List.length_take,List.length_take,raw_len]; omega
 case o11 =>
  intro i hi
  rw [take_succ _ default (by rw [raw_len]; omega)]
  exact snoc_cat default cSday _ _ (by rw [raw_get (by omega)]; rfl) i hi
 case o14=>rw [raw_len]; omega
 case o15=>exact raw_ok hs
 case o16=>rw [List.take_of_length_le (by rw [raw_len]; omega)]
 case o17=>rw [sortD_len,raw_len]; omega
 case o18=>rw [cp_stds hs]
 case o19=>intro i hi; rw [cp_stds hs]
 all_goals (first | omega | rfl | (simp only [inI]; omega))
abbrev q56 (b:Book) (ls:List Int) (is:Bool) (P:Prop):Prop:=smallB b/\ls.length<=60000/\okBook b=true/\is=true/\areLnB b ls=true->P
theorem wio60p (b:Book) (ls:List Int) (is:Bool)
 (o0:q56 b ls is ((bif is then decide ((↑(ls.length):Int)=(↑(b.lines.length):Int)) else false)=true->ls.length<=65536))
 (o1:q56 b ls is ((bif bif is then decide ((↑(ls.length):Int)=(↑(b.lines.length):Int)) else false then !anyW ls else false)=true))
 (o2:q56 b ls is (okBook b=true))
 (o3:q56 b ls is (some (OB.cells 89 (cWk b))=some (OB.cells 89 [AV.sl 2 b.lines.length fun (i:Nat)=>cSpan (lnB b i),AV.sl 3 b.shown.length fun (i:Nat)=>cShn (shB b i),iv b.rate,iv b.rep,AV.sl 4 b.ctrs.length fun (i:Nat)=>cCtr (ctB b i),aDays (stds b)])))
  (l:List (Nat × Nat)) (hl:l.map (·.1) = [2]) (hnd:(l.map (·.2)).Nodup) :
  Triple Try.prog 60 (IoSpec.at (io60p b ls is) l):=by
 refine triple_io Try.func60 rfl Try.call60 T0_ok (io60p b ls is) 2 l (by rw [hl]; kernel_rfl) hnd (Nat.le_of_ble_eq_true (by kernel_rfl)) (fun _ _ _ _ h=>h) ?_
 intro hpre C hC _ hE
 obtain ⟨P,w0,E0,av,hA,ro,df⟩:=C
 obtain ⟨rfl,rfl,rfl⟩:=hC
 refine swp_seq ?_
 refine zR [1,2,3] [2] (Ak 3 tv) ?_
 refine swp_seq ?_
 refine zC ([(11,CallSpec.eq (s89 ls) [false,true])]) [2,3] [2] (Ak 2 (An (fun (y0:is=true)=>(An (Ak 1 tv) tv)) (An (fun (y1:is=true)=>(An (An (fun (y2:is=true)=>y1) tv) tv)) (An (fun (y3:is=true)=>(An (Ak 1 tv) tv)) (An (fun (y4:is=true)=>(An (An (fun (y5:is=true)=>y4) tv) tv)) (An (fun (y6:is=true)=>(An (An (fun (y7:is=true)=>y6) tv) tv)) (An (fun (y8:is=true)=>(An (An (fun (y9:is=true)=>y8) (An (fun (y10:is=true)=>y8) tv)) tv)) (An (An (fun (y11:is=true)=>y11) (fun (y12:is=false)=>tv)) (Ak 1 (An (fun (y13:(bif is then decide ((↑(ls.length):Int)=(↑(b.lines.length):Int)) else false)=true)=>(An (Ak 1 tv) tv)) (An (fun (y14:(bif is then decide ((↑(ls.length):Int)=(↑(b.lines.length):Int)) else false)=true)=>(An (Ak 1 (An (fun (y15:(bif is then decide ((↑(ls.length):Int)=(↑(b.lines.length):Int)) else false)=true)=>y14) (Ak 1 tv))) (An (An (An (zr 1) (An (zr ls.length) (fun (i16:Nat)=>(fun (y17:i16 < ls.length)=>(zr ([iv (ls.getD i16 0)])))))) (An (zr (AV.clo 90 [])) tv)) (An (t89 (ls)) (An (o0 hpre y14) (Ak 1 (fun (i18:Env)=>tv))))))) (An (fun (y19:(bif is then decide ((↑(ls.length):Int)=(↑(b.lines.length):Int)) else false)=true)=>(An (An (fun (y20:(bif is then decide ((↑(ls.length):Int)=(↑(b.lines.length):Int)) else false)=true)=>y19) tv) tv)) (An (An (fun (y21:(bif is then decide ((↑(ls.length):Int)=(↑(b.lines.length):Int)) else false)=true)=>y21) (fun (y22:(bif is then decide ((↑(ls.length):Int)=(↑(b.lines.length):Int)) else false)=false)=>tv)) (Ak 1 tv)))))))))))))) ?_
 refine swp_seq ?_
 refine zC ([(2,CallSpec.eq (c60p b ls is 162) [true,false])]) [6,7] [162] (Ak 2 (An (An (An (zr (AV.agg (cBk b))) (An (cb (o1 hpre)) tv)) (An (t58po (b) (true) (162)) (An (An hpre.1 (An (o2 hpre) (zr true))) (Ak 1 (fun (i23:Env)=>tv))))) (Ak 4 tv))) ?_
 refine swp_ret ?_
 exact zO (ASt.mk [(6,AV.ptr 2 []),(7,iv 0)] [(2,OB.cells 89 (cWk b))] 100) (zEn 2 hE [] [(2,.same 162)] [7] [] (An (An (An (zr (some (Src.same 162))) (zr nilP)) (An (An (zr (iv 0)) (zr true)) tv)) (An (An (An (zr 89) (An (An (An (zr 2) (An (zr b.lines.length) (fun (i24:Nat)=>(fun (y25:i24 < b.lines.length)=>(zr (cSpan (lnB b i24))))))) (An (An (zr 3) (An (zr b.shown.length) (fun (i26:Nat)=>(fun (y27:i26 < b.shown.length)=>(zr (cShn (shB b i26))))))) (An (An (zr (iv b.rate)) (zr nilN)) (An (An (zr (iv b.rep)) (zr nilN)) (An (An (zr 4) (An (zr b.ctrs.length) (fun (i28:Nat)=>(fun (y29:i28 < b.ctrs.length)=>(zr (cCtr (ctB b i28))))))) (An (An (zr 2) (An (zr (stds b).length) (fun (i30:Nat)=>(fun (y31:i30 < (stds b).length)=>(zr (cSday ((stds b).getD i30 default))))))) tv)))))) (zr true))) tv) (An (zr true) (zr true))))) (An (Ak 2 tv) (An (zr (AV.tup [AV.ptr 2 [],iv 0])) (An (o3 hpre) tv)))
theorem t60po (b:Book) (ls:List Int) (is:Bool) (id:Nat):Triple Try.prog 60 (s60po b ls is id):=by
 apply wio60p b ls is (l:=[(2,id)]) (hl:=rfl) (hnd:=by simp)
 all_goals (try delta q56)
 all_goals (rintro ⟨hp,h1,h2,h3,h4⟩)
 case o1=>rw [any_are,h3,h4]; rfl
 all_goals (first | exact h2 | rfl | omega | exact hp)
abbrev q57 (b:Book) (l:List Sday) (P:Prop):Prop:=smallB b/\l.length<=60000/\(okBook b && decide ((↑(l.length):Int)<=20))=true->P
theorem w28g (b:Book) (l:List Sday)
 (o0:q57 b l (decide ((↑(l.length):Int)<=20)=true))
 (o1:q57 b l (okBook b=true))
 (o2:q57 b l (AV.clo 68 [AV.rp [AV.sl 2 l.length fun (i:Nat)=>cSday (l.getD i default)]]=AV.clo 68 [AV.rp [aDays l]]))
 (o3:q57 b l ((stds b).length<=65536))
 (o4:q57 b l (l.length<=65536))
 (o5:q57 b l ((delY (stds b) (hasG l)).length=(missB b l).length))
 (o6:q57 b l (∀ (i2:Nat),i2 < (missB b l).length->cSday ((delY (stds b) (hasG l)).getD i2 default)=cSday ((missB b l).getD i2 default))) :
  Triple Try.prog 28 (s28g b l):=by
 refine triple_of Try.func28 rfl Try.call28 T0_ok _ rfl rfl rfl rfl (Nat.le_of_ble_eq_true (by kernel_rfl)) (fun _ _ _ _ h=>h) ?_
 intro hpre C hC _ hE
 obtain ⟨P,w0,E0,av,hA,ro,df⟩:=C
 obtain ⟨rfl,rfl,rfl⟩:=hC
 refine swp_seq ?_
 refine zC ([(1,focB8)]) [2,3] [0] (Ak 4 tv) ?_
 refine swp_seq ?_
 refine zC ([(4,CallSpec.eq (c28g b l 64) [true,false])]) [3,6,7] [64,65] (Ak 4 (An (An (An (zr (AV.agg (cBk b))) (An (cb (o0 hpre)) tv)) (An (t58do (b) (true) (64)) (An (An hpre.1 (An (o1 hpre) (zr true))) (Ak 1 (fun (i0:Env)=>tv))))) (Ak 5 tv))) ?_
 refine swp_seq ?_
 refine swp_seq ?_
 refine zR [3,6,7,17] [64,65] (Ak 2 tv) ?_
 refine zf ?_
 refine swp_skip ?_
 refine swp_seq ?_
 refine zC ([(5,CallSpec.eq (c28d b l 168) [true,false])]) [4,5] [168] (Ak 5 (An (An (An (zr (AV.vec 65)) (An (o2 hpre) tv)) (An (t67 (65) (l) (stds b) (168)) (An (An (o3 hpre) (o4 hpre)) (An (An (zr (some (OB.vec 61 2 (stds b).length fun (i:Nat)=>cSday ((stds b).getD i default)))) tv) (fun (i1:Env)=>tv))))) (Ak 2 tv))) ?_
 refine swp_ret ?_
 exact zT [168] (An (Ak 2 tv) (An (An (An (zr 2) (An (o5 hpre) (fun (i2:Nat)=>(fun (y3:i2 < (missB b l).length)=>(o6 hpre i2 y3))))) (An (An (zr (iv 0)) (zr nilN)) tv)) (An (zr true) (An (zr true) (zr true)))))
theorem t28g (b:Book) (l:List Sday):Triple Try.prog 28 (s28g b l):=by
 apply w28g
 all_goals (try delta q57)
 all_goals (rintro ⟨hp,h1,h2⟩; rw [Bool.and_eq_true] at h2; have hs:=ok_soundB h2.1; have hst:=stds_small hs)
 all_goals (first | exact h2.2 | exact h2.1 | rfl | omega | (intro i _; rfl) | exact hp)
theorem w28n (b:Book) (l:List Sday)
  (o0:smallB b/\l.length<=60000/\(okBook b && decide ((↑(l.length):Int)<=20))=false->(!decide (openE b (decide ((↑(l.length):Int)<=20))=0))=true)
  (o1:smallB b/\l.length<=60000/\(okBook b && decide ((↑(l.length):Int)<=20))=false->openE b (decide ((↑(l.length):Int)<=20))=twE b l) :
  Triple Try.prog 28 (s28n b l):=by
 refine triple_of Try.func28 rfl Try.call28 T0_ok _ rfl rfl rfl rfl (Nat.le_of_ble_eq_true (by kernel_rfl)) (fun _ _ _ _ h=>h) ?_
 intro hpre C hC _ hE
 obtain ⟨P,w0,E0,av,hA,ro,df⟩:=C
 obtain ⟨rfl,rfl,rfl⟩:=hC
 refine swp_seq ?_
 refine zR [2,3] [0,8] (Ak 4 tv) ?_
 refine swp_seq ?_
 refine zC ([(4,CallSpec.eq (s58 b (decide ((↑(l.length):Int)<=20))) [true,true])]) [3,6,7] [8] (Ak 4 (An (An (An (zr (AV.agg (cBk b))) (An (zr (bv (decide ((↑(l.length):Int)<=20)))) tv)) (An (t58 (b) (decide ((↑(l.length):Int)<=20))) (An hpre.1 (Ak 1 (fun (i0:Env)=>tv))))) (Ak 5 tv))) ?_
 refine swp_seq ?_
 refine swp_seq ?_
 refine zR [3,6,7,17] [8] (Ak 2 tv) ?_
 refine zI (!decide (openE b (decide ((↑(l.length):Int)<=20))=0)) (fun _ => ?_) (fun h=>by cases (h.symm.trans (o0 hpre)))
 refine swp_seq ?_
 refine zR [4,5] [] (Ak 3 tv) ?_
 refine swp_ret ?_
 exact zT [] (An (Ak 2 tv) (An (An (zr 0) (An (An (ci (o1 hpre)) (zr nilN)) tv)) (An (zr true) (An (zr true) (zr true)))))
theorem t28n (b:Book) (l:List Sday):Triple Try.prog 28 (s28n b l):=by
 apply w28n
 all_goals (rintro ⟨hp,h1,h2⟩)
 case o0=>rw [open_ok8,h2]; rfl
 all_goals (first | rfl | exact hp)
theorem t28 (b:Book) (l:List Sday):Triple Try.prog 28 (s28 b l):=by
 cases e:okBook b && decide ((l.length:Int)<=20) with
 | true =>
  have:s28 b l = { s28g b l with pre:=(s28 b l).pre }:=by
   have e1:msL b l=missB b l:=by unfold msL; rw [e]; rfl
   have e2:twE b l=0:=open_zero e
   unfold s28 s28g; rw [e1,e2]
  rw [this]; exact triple_pre (t28g b l) (fun hp=>⟨hp.1,hp.2,e⟩)
 | false =>
  have:s28 b l = { s28n b l with pre:=(s28 b l).pre }:=by
   have e1:msL b l = []:=by unfold msL; rw [e]; rfl
   unfold s28 s28n; rw [e1]
  rw [this]; exact triple_pre (t28n b l) (fun hp=>⟨hp.1,hp.2,e⟩)
theorem wo75 (cs:List Ctr)
  (o0:0 < cs.length/\cs.length<=60000->0 + cs.length<=65536)
  (o1:0 < cs.length/\cs.length<=60000->0 + cs.length=cs.length)
  (l:List (Nat × Nat)) (hl:l.map (·.1)=(OutSpec.hout (ou75 cs)).map (·.1)) (hnd:(l.map (·.2)).Nodup) :
  Triple Try.prog 75 (OutSpec.at (ou75 cs) l):=by
 refine triple_out Try.func75 rfl Try.call75 T0_ok _ _ _ _ l rfl (Nat.le_of_ble_eq_true (by kernel_rfl)) hl hnd (by kernel_rfl) (by kernel_rfl) (by kernel_rfl) ?_
 intro hpre C hC hE
 obtain ⟨P,w0,E0,av,hA,ro,df⟩:=C
 obtain ⟨rfl,rfl,rfl⟩:=hC
 refine swp_seq ?_
 refine zR [0] [] (Ak 1 tv) ?_
 refine swp_seq ?_
 refine swp_seq ?_
 refine zR [0,4] [] (Ak 1 (An hpre.1 tv)) ?_
 refine zf ?_
 refine swp_skip ?_
 refine swp_seq ?_
 refine zR [2] [40] (Ak 2 (An (o0 hpre) (Ak 1 tv))) ?_
 refine swp_ret ?_
 exact zO (ASt.mk [(2,AV.vec 0)] [(0,OB.vec 53 4 cs.length fun (i:Nat)=>cCtr (cs.getD i default))] 100) (zE hE [] [(0,.same 40)] [] [] (An (An (zr (some (Src.same 40))) tv) (An (An (An (zr 53) (An (zr 4) (An (o1 hpre) (fun (i0:Nat)=>(fun (y1:i0 < 0 + cs.length)=>(zr (cCtr (cs.getD i0 default)))))))) tv) (An (zr true) (zr true))))) (An (Ak 1 tv) (An (zr (AV.vec 0)) (An (zr (some (OB.vec 53 4 cs.length fun (i:Nat)=>cCtr (cs.getD i default)))) tv)))
theorem t75o (cs:List Ctr) (id:Nat):Triple Try.prog 75 (s75o cs id):=by
 apply wo75 cs (l:=[(0,id)]) (hl:=rfl) (hnd:=by simp)
 all_goals (first | ((repeat intro _) <;> (try simp only [Bool.cond_true_left,Bool.cond_false_right,Bool.not_not,Bool.not_eq_true',Bool.not_eq_false',Bool.or_eq_true,Bool.or_eq_false_iff,Bool.and_eq_true,decide_eq_true_eq,decide_eq_false_iff_not,inI,big] at *) <;> first | (exact rfl) | omega | (exact ⟨Nat.zero_le _,fun j hj=>absurd hj (Nat.not_lt_zero j)⟩) | (simp_all; done) | (simp_all; omega)) | skip)
abbrev q58 (cs:List Ctr) (c:Nat) (P:Prop):Prop:=c + 1 < cs.length/\cs.length<=64->P
theorem wio74a (cs:List Ctr) (c:Nat)
 (o0:q58 cs c (0<=(c:Int)))
 (o1:q58 cs c ((c:Int)<=(c:Int) + 1))
 (o2:q58 cs c ((c:Int) + 1<=(↑(cs.length):Int)))
 (o3:q58 cs c ((↑(cs.length):Int)<=(↑(cs.length):Int)))
 (o4:q58 cs c (0 < cs.length))
 (o5:q58 cs c (decide ((c:Int)=(c:Int) + 1)=false))
 (o6:q58 cs c (0<=(c:Int)))
 (o7:q58 cs c ((c:Int)<=(↑(cs.length):Int)))
 (o8:q58 cs c (0 < cs.length))
 (o9:q58 cs c (0<=(c:Int) + 1))
 (o10:q58 cs c ((c:Int) + 1 < (↑(cs.length):Int)))
 (o11:q58 cs c (c + (cs.length - ((c:Int) + 1).toNat)<=cs.length))
 (o12:q58 cs c (cs.length<=cs.length))
 (o13:q58 cs c (((c:Int) + 1).toNat + (cs.length - ((c:Int) + 1).toNat)<=cs.length))
 (o14:q58 cs c (0<=(↑(c + (cs.length - ((c:Int) + 1).toNat)):Int)))
 (o15:q58 cs c ((↑(c + (cs.length - ((c:Int) + 1).toNat)):Int)<=(↑(cs.length):Int)))
 (o16:q58 cs c ((↑(cs.length):Int)<=(↑(cs.length):Int)))
 (o17:q58 cs c ((↑(c + (cs.length - ((c:Int) + 1).toNat)):Int) < (↑(cs.length):Int)))
 (o18:q58 cs c (c + (cs.length - ((c:Int) + 1).toNat) + (cs.length - (c + (cs.length - ((c:Int) + 1).toNat)))=cs.length))
 (o19:q58 cs c (0 < cs.length - (c + (cs.length - ((c:Int) + 1).toNat))))
 (o20:q58 cs c (c + (cs.length - ((c:Int) + 1).toNat)<=cs.length))
 (o21:q58 cs c (0 < cs.length))
 (o22:q58 cs c (c + (cs.length - ((c:Int) + 1).toNat)=(cutC cs c).length))
 (o23:q58 cs c (∀ (i0:Nat),i0 < c + (cs.length - ((c:Int) + 1).toNat)->Decidable.rec (fun (h:¬i0 < c + (cs.length - ((c:Int) + 1).toNat))=>[iv 0,iv 0,iv 0,iv 0]) (fun (h:i0 < c + (cs.length - ((c:Int) + 1).toNat))=>Decidable.rec (fun (h:¬i0 < c)=>if i0 < c + (cs.length - ((c:Int) + 1).toNat) then cCtr (cs.getD (((c:Int) + 1).toNat + (i0 - c)) default) else cCtr (cs.getD i0 default)) (fun (h:i0 < c)=>cCtr (cs.getD i0 default)) (Nat.decLt i0 c)) (Nat.decLt i0 (c + (cs.length - ((c:Int) + 1).toNat)))=cCtr ((cutC cs c).getD i0 default)))
  (l:List (Nat × Nat)) (hl:l.map (·.1) = [0,3]) (hnd:(l.map (·.2)).Nodup) :
  Triple Try.prog 74 (IoSpec.at (io74a cs c) l):=by
 refine triple_io Try.func74 rfl Try.call74 T0_ok (io74a cs c) 2 l (by rw [hl]; kernel_rfl) hnd (Nat.le_of_ble_eq_true (by kernel_rfl)) (fun _ _ _ _ h=>h) ?_
 intro hpre C hC _ hE
 obtain ⟨P,w0,E0,av,hA,ro,df⟩:=C
 obtain ⟨rfl,rfl,rfl⟩:=hC
 refine swp_seq ?_
 refine zR [0,1,2] [0] (Ak 1 tv) ?_
 refine swp_seq ?_
 refine zR [0,1,2] [0] (Ak 5 (An (An (o0 hpre) (An (o1 hpre) (An (o2 hpre) (An (o3 hpre) (o4 hpre))))) tv)) ?_
 refine swp_seq ?_
 refine swp_seq ?_
 refine zR [0,1,2,16] [0] (Ak 3 tv) ?_
 refine zI (decide ((c:Int)=(c:Int) + 1)) (fun h=>by cases (h.symm.trans (o5 hpre))) (fun _ => ?_)
 refine swp_skip ?_
 refine swp_seq ?_
 refine zR [0,1,2,7] [0] (Ak 3 tv) ?_
 refine swp_seq ?_
 refine zR [0,7] [0] (Ak 2 (An (An (o6 hpre) (An (o7 hpre) (o8 hpre))) (Ak 2 (An (An (o9 hpre) (o10 hpre)) (An (An (o11 hpre) (An (o12 hpre) (o13 hpre))) (Ak 1 tv)))))) ?_
 refine swp_seq ?_
 refine zR [0] [0] (Ak 4 (An (An (o14 hpre) (An (o15 hpre) (An (o16 hpre) (o17 hpre)))) (An (An (o18 hpre) (o19 hpre)) tv))) ?_
 refine swp_seq ?_
 refine zC ([(0,focM)]) [6] [218] (An (An (o20 hpre) (o21 hpre)) (Ak 1 tv)) ?_
 refine swp_ret ?_
 exact zO (ASt.mk [(6,AV.vec 3)] [(3,OB.vec 53 4 (cutC cs c).length fun (i:Nat)=>cCtr ((cutC cs c).getD i default))] 100) (zEn 2 hE [] [(3,.same 218)] [] [] (An (An (zr (some (Src.same 218))) tv) (An (An (An (zr 53) (An (zr 4) (An (o22 hpre) (fun (i0:Nat)=>(fun (y1:i0 < c + (cs.length - ((c:Int) + 1).toNat))=>(o23 hpre i0 y1)))))) tv) (An (zr true) (zr true))))) (An (Ak 1 tv) (An (zr (AV.vec 3)) (An (zr (some (OB.vec 53 4 (cutC cs c).length fun (i:Nat)=>cCtr ((cutC cs c).getD i default)))) tv)))
theorem cut_len {cs:List Ctr} {c:Nat} (h:c < cs.length):(cutC cs c).length + 1=cs.length:=by
 unfold cutC; rw [List.length_append,List.length_take,List.length_drop]; omega
theorem cut_get {cs:List Ctr} {c i:Nat} (h:c < cs.length):(cutC cs c).getD i default=if i < c then cs.getD i default else cs.getD (c + 1 + (i - c)) default:=by
 unfold cutC
 rw [getD_append,List.length_take,Nat.min_eq_left (by omega)]
 by_cases hi:i < c
 ·rw [if_pos hi,if_pos hi,take_getD _ _ hi]
 ·rw [if_neg hi,if_neg hi,List.getD_eq_getElem?_getD,List.getElem?_drop,← List.getD_eq_getElem?_getD]
theorem t74a (b:Nat) (cs:List Ctr) (c:Nat) (id:Nat) (hid:[b,id].Nodup:=by decide):Triple Try.prog 74 ((io74a cs c).at [(0,b),(3,id)]):=by
 apply wio74a cs c (l:=[(0,b),(3,id)]) (hl:=rfl) (hnd:=hid)
 all_goals (try delta q58)
 all_goals (rintro ⟨h1,h2⟩; have hcl:=cut_len (cs:=cs) (c:=c) (by omega))
 case o5=>exact decide_eq_false (by omega)
 case o22=>omega
 case o23 =>
  intro i hi
  rw [cut_get (by omega)]
  refine rec_lt8 (fun h=>by omega) (fun h => ?_)
  refine rec_lt8 (fun h3 => ?_) (fun h3 => ?_)
  ·rw [if_pos h,if_neg h3]; rfl
  ·rw [if_pos h3]
 all_goals omega
abbrev q59 (cs:List Ctr) (c:Nat) (P:Prop):Prop:=c + 1=cs.length/\cs.length<=64->P
theorem wio74b (cs:List Ctr) (c:Nat)
 (o0:q59 cs c (0<=(c:Int)))
 (o1:q59 cs c ((c:Int)<=(c:Int) + 1))
 (o2:q59 cs c ((c:Int) + 1<=(↑(cs.length):Int)))
 (o3:q59 cs c ((↑(cs.length):Int)<=(↑(cs.length):Int)))
 (o4:q59 cs c (0 < cs.length))
 (o5:q59 cs c (decide ((c:Int)=(c:Int) + 1)=false))
 (o6:q59 cs c (0<=(c:Int)))
 (o7:q59 cs c ((c:Int)<=(↑(cs.length):Int)))
 (o8:q59 cs c (0 < cs.length))
 (o9:q59 cs c ((c:Int) + 1=(↑(cs.length):Int)))
 (o10:q59 cs c (0 < cs.length))
 (o11:q59 cs c (0<=(c:Int)))
 (o12:q59 cs c ((c:Int)<=(↑(cs.length):Int)))
 (o13:q59 cs c ((↑(cs.length):Int)<=(↑(cs.length):Int)))
 (o14:q59 cs c ((c:Int) < (↑(cs.length):Int)))
 (o15:q59 cs c (c + (cs.length - c)=cs.length))
 (o16:q59 cs c (0 < cs.length - c))
 (o17:q59 cs c (c<=cs.length))
 (o18:q59 cs c (0 < cs.length))
 (o19:q59 cs c (c=(cutC cs c).length))
 (o20:q59 cs c (∀ (i0:Nat),i0 < c->Decidable.rec (fun (h:¬i0 < c)=>[iv 0,iv 0,iv 0,iv 0]) (fun (h:i0 < c)=>cCtr (cs.getD i0 default)) (Nat.decLt i0 c)=cCtr ((cutC cs c).getD i0 default)))
  (l:List (Nat × Nat)) (hl:l.map (·.1) = [0,3]) (hnd:(l.map (·.2)).Nodup) :
  Triple Try.prog 74 (IoSpec.at (io74b cs c) l):=by
 refine triple_io Try.func74 rfl Try.call74 T0_ok (io74b cs c) 2 l (by rw [hl]; kernel_rfl) hnd (Nat.le_of_ble_eq_true (by kernel_rfl)) (fun _ _ _ _ h=>h) ?_
 intro hpre C hC _ hE
 obtain ⟨P,w0,E0,av,hA,ro,df⟩:=C
 obtain ⟨rfl,rfl,rfl⟩:=hC
 refine swp_seq ?_
 refine zR [0,1,2] [0] (Ak 1 tv) ?_
 refine swp_seq ?_
 refine zR [0,1,2] [0] (Ak 5 (An (An (o0 hpre) (An (o1 hpre) (An (o2 hpre) (An (o3 hpre) (o4 hpre))))) tv)) ?_
 refine swp_seq ?_
 refine swp_seq ?_
 refine zR [0,1,2,16] [0] (Ak 3 tv) ?_
 refine zI (decide ((c:Int)=(c:Int) + 1)) (fun h=>by cases (h.symm.trans (o5 hpre))) (fun _ => ?_)
 refine swp_skip ?_
 refine swp_seq ?_
 refine zR [0,1,2,7] [0] (Ak 3 tv) ?_
 refine swp_seq ?_
 refine zC ([(5,focB8)]) [0,7] [0] (Ak 2 (An (An (o6 hpre) (An (o7 hpre) (o8 hpre))) (Ak 2 (An (An (o9 hpre) (o10 hpre)) (Ak 2 tv))))) ?_
 refine swp_seq ?_
 refine zR [0] [0] (Ak 4 (An (An (o11 hpre) (An (o12 hpre) (An (o13 hpre) (o14 hpre)))) (An (An (o15 hpre) (o16 hpre)) tv))) ?_
 refine swp_seq ?_
 refine zC ([(0,focM)]) [6] [218] (An (An (o17 hpre) (o18 hpre)) (Ak 1 tv)) ?_
 refine swp_ret ?_
 exact zO (ASt.mk [(6,AV.vec 3)] [(3,OB.vec 53 4 (cutC cs c).length fun (i:Nat)=>cCtr ((cutC cs c).getD i default))] 100) (zEn 2 hE [] [(3,.same 218)] [] [] (An (An (zr (some (Src.same 218))) tv) (An (An (An (zr 53) (An (zr 4) (An (o19 hpre) (fun (i0:Nat)=>(fun (y1:i0 < c)=>(o20 hpre i0 y1)))))) tv) (An (zr true) (zr true))))) (An (Ak 1 tv) (An (zr (AV.vec 3)) (An (zr (some (OB.vec 53 4 (cutC cs c).length fun (i:Nat)=>cCtr ((cutC cs c).getD i default)))) tv)))
theorem t74b (b:Nat) (cs:List Ctr) (c:Nat) (id:Nat) (hid:[b,id].Nodup:=by decide):Triple Try.prog 74 ((io74b cs c).at [(0,b),(3,id)]):=by
 apply wio74b cs c (l:=[(0,b),(3,id)]) (hl:=rfl) (hnd:=hid)
 all_goals (try delta q59)
 all_goals (rintro ⟨h1,h2⟩; have hcl:=cut_len (cs:=cs) (c:=c) (by omega))
 case o5=>exact decide_eq_false (by omega)
 case o19=>omega
 case o20 =>
  intro i hi
  rw [cut_get (by omega)]
  refine rec_lt8 (fun h=>by omega) (fun h=>by rw [if_pos h])
 all_goals omega
theorem t74 (b:Nat) (cs:List Ctr) (c:Nat) (id:Nat) (hid:[b,id].Nodup:=by decide):Triple Try.prog 74 (s74 b cs c id):=by
 by_cases h:c + 1 < cs.length
 ·exact triple_pre (q:=c < cs.length/\cs.length<=64) (t74a b cs c id hid) (fun hp=>⟨h,hp.2⟩)
 ·exact triple_pre (q:=c < cs.length/\cs.length<=64) (t74b b cs c id hid) (fun hp=>⟨by omega,hp.2⟩)
abbrev q5a (b:Book) (ls:List Int) (c:Int) (P:Prop):Prop:=smallB b/\ls.length<=60000/\(okBook b && (isCt b c && areLnB b ls))=true->P
theorem w37g (b:Book) (ls:List Int) (c:Int)
 (o0:q5a b ls c (fitsB b))
 (o1:q5a b ls c (isCt b c=true))
 (o2:q5a b ls c (ls.length<=60000))
 (o3:q5a b ls c (okBook b=true))
 (o4:q5a b ls c (areLnB b ls=true))
 (o5:q5a b ls c (SoundB b))
 (o6:q5a b ls c (GoodLn b ls))
 (o7:q5a b ls c (∀ (i5:Nat),i5 < b.ctrs.length->cCtr (ctB b i5)=cCtr (b.ctrs.getD i5 default)))
 (o8:q5a b ls c (0 < b.ctrs.length))
 (o9:q5a b ls c (b.ctrs.length<=60000))
 (o10:q5a b ls c (inI (c + 1)))
 (o11:q5a b ls c (c=(↑(c.toNat):Int)))
 (o12:q5a b ls c (c + 1=(↑(c.toNat):Int) + 1))
 (o13:q5a b ls c (c.toNat < b.ctrs.length))
 (o14:q5a b ls c (b.ctrs.length<=64))
 (o15:q5a b ls c (b.lines.length=(woC b c.toNat).lines.length))
 (o16:q5a b ls c (∀ (i9:Nat),i9 < (woC b c.toNat).lines.length->cSpan (lnB b i9)=cSpan (lnB (woC b c.toNat) i9)))
 (o17:q5a b ls c (b.shown.length=(woC b c.toNat).shown.length))
 (o18:q5a b ls c (∀ (i11:Nat),i11 < (woC b c.toNat).shown.length->cShn (shB b i11)=cShn (shB (woC b c.toNat) i11)))
 (o19:q5a b ls c (b.rate=(woC b c.toNat).rate))
 (o20:q5a b ls c (b.rep=(woC b c.toNat).rep))
 (o21:q5a b ls c ((cutC b.ctrs c.toNat).length=(woC b c.toNat).ctrs.length))
 (o22:q5a b ls c (∀ (i13:Nat),i13 < (woC b c.toNat).ctrs.length->cCtr ((cutC b.ctrs c.toNat).getD i13 default)=cCtr (ctB (woC b c.toNat) i13)))
 (o23:q5a b ls c ((stds b).length=(stds (woC b c.toNat)).length))
 (o24:q5a b ls c (∀ (i15:Nat),i15 < (stds (woC b c.toNat)).length->cSday ((stds b).getD i15 default)=cSday ((stds (woC b c.toNat)).getD i15 default)))
 (o25:q5a b ls c (SoundB (woC b c.toNat)))
 (o26:q5a b ls c (GoodLn (woC b c.toNat) ls))
 (o27:q5a b ls c (inI ((bestB (woC b c.toNat) ls).2 - (bestB b ls).2))) :
  Triple Try.prog 37 (s37g b ls c):=by
 refine triple_of Try.func37 rfl Try.call37 T0_ok _ rfl rfl rfl rfl (Nat.le_of_ble_eq_true (by kernel_rfl)) (fun _ _ _ _ h=>h) ?_
 intro hpre C hC _ hE
 obtain ⟨P,w0,E0,av,hA,ro,df⟩:=C
 obtain ⟨rfl,rfl,rfl⟩:=hC
 refine swp_seq ?_
 refine zR [1,2,3] [0] (Ak 3 tv) ?_
 refine swp_seq ?_
 refine zC ([(4,CallSpec.eq (s73 b c) [true,true]),(5,CallSpec.eq (c37c b ls c 64) [true,false,false])]) [1,2,3,8,9] [0,64] (Ak 4 (An (An (An (zr (AV.agg (cBk b))) (An (zr (iv c)) tv)) (An (t73 (b) (c)) (An (o0 hpre) (Ak 1 (fun (i0:Env)=>tv))))) (An (An (An (zr (AV.agg (cBk b))) (An (An (zr 1) (An (zr ls.length) (fun (i1:Nat)=>(fun (y2:i1 < ls.length)=>(zr ([iv (ls.getD i1 0)])))))) (An (cb (o1 hpre)) tv))) (An (t60po (b) (ls) (true) (64)) (An (An hpre.1 (An (o2 hpre) (An (o3 hpre) (An (zr true) (o4 hpre))))) (Ak 1 (fun (i3:Env)=>tv))))) (Ak 5 tv)))) ?_
 refine swp_seq ?_
 refine swp_seq ?_
 refine zR [1,2,3,8,9,24] [0,64] (Ak 2 tv) ?_
 refine zf ?_
 refine swp_skip ?_
 refine swp_seq ?_
 refine zC ([(2,CallSpec.eq (c37a b ls c 144) [true,true])]) [1,2,3,8,11] [0,64] (Ak 2 (An (An (An (zr (AV.ptr 64 [])) (An (zr (aInts ls)) tv)) (An (lendPT 89 64 0 (t72o (b) (ls) (144)) rfl (fun _ _ h=>capOK_down rfl h)) (An (An (o5 hpre) (o6 hpre)) (An (An (zr (some (OB.cells 89 (cWk b)))) tv) (fun (i4:Env)=>tv))))) (Ak 5 tv))) ?_
 refine swp_seq ?_
 refine zC ([(3,CallSpec.eq (c37l b ls c 216) [false]),(7,CallSpec.eq (c37d b ls c 248) [true,false,false])]) [1,8,11] [64,248] (Ak 3 (An (An (An (An (zr 4) (An (zr b.ctrs.length) (fun (i5:Nat)=>(fun (y6:i5 < b.ctrs.length)=>(o7 hpre i5 y6))))) tv) (An (t75o b.ctrs (216)) (An (An (o8 hpre) (o9 hpre)) (Ak 1 (fun (i7:Env)=>tv))))) (Ak 2 (An (o10 hpre) (An (An (An (zr (AV.vec 216)) (An (ci (o11 hpre)) (An (ci (o12 hpre)) tv))) (An (t74 (216) b.ctrs c.toNat (248)) (An (An (o13 hpre) (o14 hpre)) (An (An (zr (some (OB.vec 53 4 b.ctrs.length fun (i:Nat)=>cCtr (b.ctrs.getD i default)))) tv) (fun (i8:Env)=>tv))))) (Ak 4 tv)))))) ?_
 refine swp_seq ?_
 refine swp_ent (zE (st2:=ASt.mk [(1,aInts ls),(8,AV.ptr 64 []),(11,iv (bestB b ls).2)] [(64,OB.cells 89 (cWk (woC b c.toNat)))] 288) hE [248] [(64,.same 64)] [1,11] [] (An (An (An (zr (aInts ls)) (zr true)) (An (An (zr (some (Src.same 64))) (zr nilP)) (An (An (zr (iv (bestB b ls).2)) (zr true)) tv))) (An (An (An (zr 89) (An (An (An (zr 2) (An (o15 hpre) (fun (i9:Nat)=>(fun (y10:i9 < (woC b c.toNat).lines.length)=>(o16 hpre i9 y10))))) (An (An (zr 3) (An (o17 hpre) (fun (i11:Nat)=>(fun (y12:i11 < (woC b c.toNat).shown.length)=>(o18 hpre i11 y12))))) (An (An (ci (o19 hpre)) (zr nilN)) (An (An (ci (o20 hpre)) (zr nilN)) (An (An (zr 4) (An (o21 hpre) (fun (i13:Nat)=>(fun (y14:i13 < (woC b c.toNat).ctrs.length)=>(o22 hpre i13 y14))))) (An (An (zr 2) (An (o23 hpre) (fun (i15:Nat)=>(fun (y16:i15 < (stds (woC b c.toNat)).length)=>(o24 hpre i15 y16))))) tv)))))) (zr true))) tv) (An (zr true) (zr true))))) ?_
 refine zC ([(2,CallSpec.eq (c37b b ls c 304) [true,true])]) [11,13] [] (Ak 2 (An (An (An (zr (AV.ptr 64 [])) (An (zr (aInts ls)) tv)) (An (lendPT 89 64 0 (t72o (woC b c.toNat) (ls) (304)) rfl (fun _ _ h=>capOK_down rfl h)) (An (An (o25 hpre) (o26 hpre)) (An (An (zr (some (OB.cells 89 (cWk (woC b c.toNat))))) tv) (fun (i17:Env)=>tv))))) (Ak 5 tv))) ?_
 refine swp_seq ?_
 refine zR [6,7] [] (Ak 2 (An (o27 hpre) (Ak 2 tv))) ?_
 refine swp_ret ?_
 exact zT [] (An (Ak 2 tv) (An (An (An (zr (iv ((bestB (woC b c.toNat) ls).2 - (bestB b ls).2))) (zr nilN)) (An (An (zr (iv 0)) (zr nilN)) tv)) (An (zr true) (An (zr true) (zr true)))))
theorem wo_soundI {b:Book} {c:Int} (hs:SoundB b) (h:isCt b c=true):SoundB (woC b c.toNat):=wo_sound hs (by have:=isCt_iff.1 h; omega)
theorem t37g (b:Book) (ls:List Int) (c:Int):Triple Try.prog 37 (s37g b ls c):=by
 apply w37g
 all_goals (try delta q5a)
 all_goals (rintro ⟨hp,h1,h2⟩; rw [Bool.and_eq_true,Bool.and_eq_true] at h2; obtain ⟨h3,h4,h5⟩:=h2; have hs:=ok_soundB h3; have hc:=isCt_iff.1 h4; have hg:=are_goodB h5; have hct:=hs.ctrs)
 case o27 =>
  have b1:=best_in hs hg
  have b2:=best_in (wo_soundI hs h4) (withC_good hg)
  simp only [inI]; omega
 all_goals (first | exact h3 | exact h4 | exact h5 | exact hs | exact hg | exact wo_soundI hs h4 | exact withC_good hg | rfl | (intro i _; rfl) | omega | (simp only [inI]; omega) | exact small_fitsB hp)
abbrev q5b (b:Book) (ls:List Int) (c:Int) (P:Prop):Prop:=smallB b/\ls.length<=60000/\(okBook b && (isCt b c && areLnB b ls))=false->P
theorem w37n (b:Book) (ls:List Int) (c:Int)
 (o0:q5b b ls c (fitsB b))
 (o1:q5b b ls c (ls.length<=60000))
 (o2:q5b b ls c ((!decide (givenE b ls (isCt b c)=0))=true)) :
  Triple Try.prog 37 (s37n b ls c):=by
 refine triple_of Try.func37 rfl Try.call37 T0_ok _ rfl rfl rfl rfl (Nat.le_of_ble_eq_true (by kernel_rfl)) (fun _ _ _ _ h=>h) ?_
 intro hpre C hC _ hE
 obtain ⟨P,w0,E0,av,hA,ro,df⟩:=C
 obtain ⟨rfl,rfl,rfl⟩:=hC
 refine swp_seq ?_
 refine zR [1,2,3] [0] (Ak 3 tv) ?_
 refine swp_seq ?_
 refine zC ([(4,CallSpec.eq (s73 b c) [true,true]),(5,CallSpec.eq (s60 b ls (isCt b c)) [true,true,true])]) [1,2,3,8,9] [0] (Ak 4 (An (An (An (zr (AV.agg (cBk b))) (An (zr (iv c)) tv)) (An (t73 (b) (c)) (An (o0 hpre) (Ak 1 (fun (i0:Env)=>tv))))) (An (An (An (zr (AV.agg (cBk b))) (An (zr (aInts ls)) (An (zr (bv (isCt b c))) tv))) (An (t60 (b) (ls) (isCt b c)) (An (An hpre.1 (o1 hpre)) (Ak 1 (fun (i1:Env)=>tv))))) (Ak 5 tv)))) ?_
 refine swp_seq ?_
 refine swp_seq ?_
 refine zR [1,2,3,8,9,24] [0] (Ak 2 tv) ?_
 refine zI (!decide (givenE b ls (isCt b c)=0)) (fun _ => ?_) (fun h=>by cases (h.symm.trans (o2 hpre)))
 refine swp_seq ?_
 refine zR [6,7] [] (Ak 3 tv) ?_
 refine swp_ret ?_
 exact zT [] (An (Ak 2 tv) (An (An (An (zr (iv 0)) (zr nilN)) (An (An (zr (iv (givenE b ls (isCt b c)))) (zr nilN)) tv)) (An (zr true) (An (zr true) (zr true)))))
theorem giv_eq2 (b:Book) (ls:List Int) (is:Bool):(!decide (givenE b ls is=0)) = !(okBook b && (is && areLnB b ls)):=by unfold givenE; exact open_ok8 b _
theorem t37n (b:Book) (ls:List Int) (c:Int):Triple Try.prog 37 (s37n b ls c):=by
 apply w37n
 all_goals (try delta q5b)
 all_goals (rintro ⟨hp,h1,h2⟩)
 case o2=>rw [giv_eq2,h2]; rfl
 all_goals (first | exact h1 | exact small_fitsB hp)
theorem t37 (b:Book) (ls:List Int) (c:Int):Triple Try.prog 37 (s37 b ls c):=by
 cases e:okBook b && (isCt b c && areLnB b ls) with
 | true =>
  have:s37 b ls c = { s37g b ls c with pre:=(s37 b ls c).pre }:=by
   have e1:worthN b ls c=(bestB (woC b c.toNat) ls).2 - (bestB b ls).2:=by unfold worthN; rw [e]; rfl
   have e2:givenE b ls (isCt b c)=0:=open_zero e
   unfold s37 s37g; rw [e1,e2]
  rw [this]; exact triple_pre (t37g b ls c) (fun hp=>⟨hp.1,hp.2,e⟩)
 | false =>
  have:s37 b ls c = { s37n b ls c with pre:=(s37 b ls c).pre }:=by
   have e1:worthN b ls c=0:=by unfold worthN; rw [e]; rfl
   unfold s37 s37n; rw [e1]
  rw [this]; exact triple_pre (t37n b ls c) (fun hp=>⟨hp.1,hp.2,e⟩)
abbrev q5c (b:Book) (P:Prop):Prop:=smallB b->P
abbrev q5d (b:Book) (c:Int) (P:Prop):Prop:=q5c b ((!decide (openE b (isCt b c)=0))=false->P)
abbrev q5e (b:Book) (x5:Nat) (P:Prop):Prop:=x5 < nTr b->P
abbrev q5f (b:Book) (x5:Nat) (x8:Nat) (P:Prop):Prop:=(x8<=b.lines.length /\ ∀ (q:Nat),q < x8->(trN b x5).getD q 0=(lnB b q).hi)->P
abbrev q5g (b:Book) (x5:Nat) (x8:Nat) (P:Prop):Prop:=q5f b x5 x8 (decide ((x8:Int) < (↑(b.lines.length):Int))=true->P)
abbrev q5h (b:Book) (x5:Nat) (x8:Nat) (P:Prop):Prop:=q5f b x5 x8 ((bif decide ((x8:Int) < (↑(b.lines.length):Int)) then decide (rowL8 b x5 x8 x8=(highsB b).getD x8 0) else false)=true->P)
abbrev q5i (b:Book) (x5:Nat) (x8:Nat) (P:Prop):Prop:=q5f b x5 x8 ((bif decide ((x8:Int) < (↑(b.lines.length):Int)) then decide (rowL8 b x5 x8 x8=(highsB b).getD x8 0) else false)=false->P)
abbrev q5j (b:Book) (x5:Nat) (x8:Nat) (P:Prop):Prop:=q5i b x5 x8 (decide ((x8:Int)=(↑(b.lines.length):Int))=false->P)
abbrev q5k (b:Book) (j3:Nat) (P:Prop):Prop:=j3 < nTr b->True->P
abbrev q5l (b:Book) (c:Int) (P:Prop):Prop:=q5d b c (decide (0=(↑(soTo b c (nTr b)):Int))=false->P)
theorem w42 (b:Book) (c:Int)
 (o0:q5c b (fitsB b))
 (o1:q5c b ((!decide (openE b (isCt b c)=0))=true->0=buyN b c))
 (o2:q5d b c ((okBook b && isCt b c)=true))
 (o3:q5d b c (SoundB b))
 (o4:q5d b c (0=(↑(soTo b c 0):Int)))
 (o5:q5d b c (0=(↑0:Int) - (↑(soTo b c 0):Int)))
 (o6:q5d b c ((lowsB b).length=(trN b 0).length))
 (o7:q5d b c (∀ (i6:Nat),i6 < (lowsB b).length -> [iv ((lowsB b).getD i6 0)] = [iv ((trN b 0).getD i6 0)]))
 (o8:q5d b c (0 < nTr b))
 (o9:q5d b c (∀ (x5:Nat),q5e b x5 (0=(↑0:Int))))
 (o10:q5d b c (∀ (x5:Nat),q5e b x5 ((trN b x5).length=b.lines.length)))
 (o11:q5d b c (∀ (x5:Nat),q5e b x5 (∀ (i9:Nat),i9 < (trN b x5).length -> [iv ((trN b x5).getD i9 0)] = [iv (rowL8 b x5 0 i9)])))
 (o12:q5d b c (∀ (x5:Nat),q5e b x5 (0<=b.lines.length /\ ∀ (q:Nat),q < 0->(trN b x5).getD q 0=(lnB b q).hi)))
 (o13:q5d b c (∀ (x5:Nat),q5e b x5 (∀ (x8:Nat),q5g b x5 x8 (0<=(x8:Int)))))
 (o14:q5d b c (∀ (x5:Nat),q5e b x5 (∀ (x8:Nat),q5g b x5 x8 ((x8:Int) < (↑(b.lines.length):Int)))))
 (o15:q5d b c (∀ (x5:Nat),q5e b x5 (∀ (x8:Nat),q5g b x5 x8 (x8 < b.lines.length))))
 (o16:q5d b c (∀ (x5:Nat),q5e b x5 (∀ (x8:Nat),q5g b x5 x8 (0<=(x8:Int)))))
 (o17:q5d b c (∀ (x5:Nat),q5e b x5 (∀ (x8:Nat),q5g b x5 x8 ((x8:Int) < (↑((highsB b).length):Int)))))
 (o18:q5d b c (∀ (x5:Nat),q5e b x5 (∀ (x8:Nat),q5g b x5 x8 (x8 < (highsB b).length))))
 (o19:q5d b c (∀ (x5:Nat),q5e b x5 (∀ (x8:Nat),q5h b x5 x8 (0<=(x8:Int)))))
 (o20:q5d b c (∀ (x5:Nat),q5e b x5 (∀ (x8:Nat),q5h b x5 x8 ((x8:Int) < (↑(b.lines.length):Int)))))
 (o21:q5d b c (∀ (x5:Nat),q5e b x5 (∀ (x8:Nat),q5h b x5 x8 (0<=(x8:Int)))))
 (o22:q5d b c (∀ (x5:Nat),q5e b x5 (∀ (x8:Nat),q5h b x5 x8 ((x8:Int) < (↑(b.lines.length):Int)))))
 (o23:q5d b c (∀ (x5:Nat),q5e b x5 (∀ (x8:Nat),q5h b x5 x8 (x8 < b.lines.length))))
 (o24:q5d b c (∀ (x5:Nat),q5e b x5 (∀ (x8:Nat),q5h b x5 x8 (inI ((x8:Int) + 1)))))
 (o25:q5d b c (∀ (x5:Nat),q5e b x5 (∀ (x8:Nat),q5h b x5 x8 ((x8:Int) + 1=(↑(x8 + 1):Int)))))
 (o26:q5d b c (∀ (x5:Nat),q5e b x5 (∀ (x8:Nat),q5h b x5 x8 (∀ (i31:Nat),i31 < b.lines.length->Decidable.rec (fun (h:¬i31=x8)=>[iv (rowL8 b x5 x8 i31)]) (fun (h:i31=x8)=>[iv (lnB b x8).lo] ++ []) (instDecidableEqNat i31 x8) = [iv (rowL8 b x5 (x8 + 1) i31)]))))
 (o27:q5d b c (∀ (x5:Nat),q5e b x5 (∀ (x8:Nat),q5h b x5 x8 (x8 + 1<=b.lines.length /\ ∀ (q:Nat),q < x8 + 1->(trN b x5).getD q 0=(lnB b q).hi))))
 (o28:q5d b c (∀ (x5:Nat),q5e b x5 (∀ (x8:Nat),q5h b x5 x8 (b.lines.length - (x8 + 1) < b.lines.length - x8))))
 (o29:q5d b c (∀ (x5:Nat),q5e b x5 (∀ (x8:Nat),q5i b x5 x8 (decide ((x8:Int)=(↑(b.lines.length):Int))=true->(↑(soTo b c (x5 + 1)):Int)=(↑(soTo b c (nTr b)):Int)))))
 (o30:q5d b c (∀ (x5:Nat),q5e b x5 (∀ (x8:Nat),q5i b x5 x8 (decide ((x8:Int)=(↑(b.lines.length):Int))=true->(↑(x5 + 1):Int) - (↑(soTo b c (x5 + 1)):Int)=(↑(nTr b):Int) - (↑(soTo b c (nTr b)):Int)))))
 (o31:q5d b c (∀ (x5:Nat),q5e b x5 (∀ (x8:Nat),q5j b x5 x8 (0<=(x8:Int)))))
 (o32:q5d b c (∀ (x5:Nat),q5e b x5 (∀ (x8:Nat),q5j b x5 x8 ((x8:Int) < (↑(b.lines.length):Int)))))
 (o33:q5d b c (∀ (x5:Nat),q5e b x5 (∀ (x8:Nat),q5j b x5 x8 (x8 < b.lines.length))))
 (o34:q5d b c (∀ (x5:Nat),q5e b x5 (∀ (x8:Nat),q5j b x5 x8 (inI (rowL8 b x5 x8 x8 + 1)))))
 (o35:q5d b c (∀ (x5:Nat),q5e b x5 (∀ (x8:Nat),q5j b x5 x8 (0<=(x8:Int)))))
 (o36:q5d b c (∀ (x5:Nat),q5e b x5 (∀ (x8:Nat),q5j b x5 x8 ((x8:Int) < (↑(b.lines.length):Int)))))
 (o37:q5d b c (∀ (x5:Nat),q5e b x5 (∀ (x8:Nat),q5j b x5 x8 (x8 < b.lines.length))))
 (o38:q5d b c (∀ (x5:Nat),q5e b x5 (∀ (x8:Nat),q5j b x5 x8 (b.lines.length=(trN b (x5 + 1)).length))))
 (o39:q5d b c (∀ (x5:Nat),q5e b x5 (∀ (x8:Nat),q5j b x5 x8 (∀ (i34:Nat),i34 < b.lines.length->Decidable.rec (fun (h:¬i34=x8)=>[iv (rowL8 b x5 x8 i34)]) (fun (h:i34=x8)=>[iv (rowL8 b x5 x8 x8 + 1)] ++ []) (instDecidableEqNat i34 x8) = [iv ((trN b (x5 + 1)).getD i34 0)]))))
 (o40:q5d b c (∀ (x5:Nat),q5e b x5 (∀ (x8:Nat),q5j b x5 x8 (x5 + 1 < nTr b))))
 (o41:q5d b c (∀ (x5:Nat),q5e b x5 (∀ (x8:Nat),q5j b x5 x8 (nTr b - (x5 + 1) < nTr b - x5))))
 (o42:q5d b c (∀ (j3:Nat),q5k b j3 ((okBook b && isCt b c)=true)))
 (o43:q5d b c (∀ (j3:Nat),q5k b j3 (SoundB b)))
 (o44:q5d b c (∀ (j3:Nat),q5k b j3 (GoodLn b (trN b j3))))
 (o45:q5d b c (∀ (j3:Nat),q5k b j3 ((boughtB b (trN b j3)).length<=65536)))
 (o46:q5d b c (∀ (j3:Nat),q5k b j3 (hasG (boughtB b (trN b j3)) c=true->inI ((↑(soTo b c j3):Int) + 1))))
 (o47:q5d b c (∀ (j3:Nat),q5k b j3 (hasG (boughtB b (trN b j3)) c=true->(↑(soTo b c j3):Int) + 1=(↑(soTo b c (j3 + 1)):Int))))
 (o48:q5d b c (∀ (j3:Nat),q5k b j3 (hasG (boughtB b (trN b j3)) c=true->(j3:Int) - (↑(soTo b c j3):Int)=(↑(j3 + 1):Int) - (↑(soTo b c (j3 + 1)):Int))))
 (o49:q5d b c (∀ (j3:Nat),q5k b j3 (hasG (boughtB b (trN b j3)) c=false->inI ((j3:Int) - (↑(soTo b c j3):Int) + 1))))
 (o50:q5d b c (∀ (j3:Nat),q5k b j3 (hasG (boughtB b (trN b j3)) c=false->(↑(soTo b c j3):Int)=(↑(soTo b c (j3 + 1)):Int))))
 (o51:q5d b c (∀ (j3:Nat),q5k b j3 (hasG (boughtB b (trN b j3)) c=false->(j3:Int) - (↑(soTo b c j3):Int) + 1=(↑(j3 + 1):Int) - (↑(soTo b c (j3 + 1)):Int))))
 (o52:q5d b c (decide (0=(↑(soTo b c (nTr b)):Int))=true->2=buyN b c))
 (o53:q5d b c (decide (0=(↑(soTo b c (nTr b)):Int))=true->0=openE b (isCt b c)))
 (o54:q5l b c (decide (0=(↑(nTr b):Int) - (↑(soTo b c (nTr b)):Int))=true->1=buyN b c))
 (o55:q5l b c (decide (0=(↑(nTr b):Int) - (↑(soTo b c (nTr b)):Int))=true->0=openE b (isCt b c)))
 (o56:q5l b c (decide (0=(↑(nTr b):Int) - (↑(soTo b c (nTr b)):Int))=false->3=buyN b c))
 (o57:q5l b c (decide (0=(↑(nTr b):Int) - (↑(soTo b c (nTr b)):Int))=false->0=openE b (isCt b c))) :
  Triple Try.prog 42 (s42 b c):=by
 refine triple_of Try.func42 rfl Try.call42 T0_ok _ rfl rfl rfl rfl (Nat.le_of_ble_eq_true (by kernel_rfl)) (fun _ _ _ _ h=>h) ?_
 intro hpre C hC _ hE
 obtain ⟨P,w0,E0,av,hA,ro,df⟩:=C
 obtain ⟨rfl,rfl,rfl⟩:=hC
 refine swp_seq ?_
 refine zC ([(1,focB8)]) [2,3] [0] (Ak 4 tv) ?_
 refine swp_seq ?_
 refine zC ([(3,CallSpec.eq (s73 b c) [true,true]),(4,CallSpec.eq (s58 b (isCt b c)) [true,true])]) [3,6,7] [96] (Ak 3 (An (An (An (zr (AV.agg (cBk b))) (An (zr (iv c)) tv)) (An (t73 (b) (c)) (An (o0 hpre) (Ak 1 (fun (i0:Env)=>tv))))) (An (An (An (zr (AV.agg (cBk b))) (An (zr (bv (isCt b c))) tv)) (An (t58 (b) (isCt b c)) (An hpre (Ak 1 (fun (i1:Env)=>tv))))) (Ak 6 tv)))) ?_
 refine swp_seq ?_
 refine swp_seq ?_
 refine zR [3,6,7,20] [96] (Ak 2 tv) ?_
 refine zI (!decide (openE b (isCt b c)=0)) (fun y2 => ?_) (fun y2 => ?_)
 ·refine swp_seq ?_
  refine zR [4,5] [] (Ak 3 tv) ?_
  refine swp_ret ?_
  exact zT [] (An (Ak 2 tv) (An (An (An (ci (o1 hpre y2)) (zr nilN)) (An (An (zr (iv (openE b (isCt b c)))) (zr nilN)) tv)) (An (zr true) (An (zr true) (zr true)))))
 ·refine swp_skip ?_
  refine swp_seq ?_
  refine zR [3,6,8,9] [96,136,144] (Ak 4 tv) ?_
  refine swp_seq ?_
  refine swp_seq ?_
  refine zR [3,6,8,9,23] [96,136,144] (Ak 1 (An (o2 hpre y2) tv)) ?_
  refine swp_block ?_
  refine zGm (r42 b c) 184 2000184 0 [3,6,8,9] (cWk b) Try.func76 Try.call76 rfl (fun C hC hY3 hE => ?_) (fun (j3:Nat) hj3 hp3 C hC hE => ?_) ?_
  ·obtain ⟨P,w0,E0,av,hA,ro,df⟩:=C
   subst hC
   refine swp_seq ?_
   refine zC ([(1,CallSpec.eq (c42e b c 192) [true])]) [0,1,4,5] [96,136,144,192,193] (Ak 1 (An (An (An (zr (AV.rp (cWk b))) tv) (An (t95o (b) (192)) (An (o3 hpre y2) (Ak 1 (fun (i4:Env)=>tv))))) (Ak 5 tv))) ?_
   refine swp_block ?_
   refine zL (Hint.ann (h42a b c) [(0,AV.rp (cWk b)),(1,AV.fn 0),(5,AV.vec 193)] [(193,OB.vec 3 1 (highsB b).length fun (i:Nat)=>[iv ((highsB b).getD i 0)])] 10240) (zEn 184 hE [] [(96,.same 96),(136,.same 136),(144,.same 144),(193,.same 193),(5000,.same 192)] [0,1] [193,96] (An (An (An (zr (AV.rp (cWk b))) (zr true)) (An (An (zr (AV.fn 0)) (zr true)) (An (zr (some (Src.same 193))) (An (zr (some (Src.same 192))) tv)))) (An (An (An (zr (OB.vec 3 1 (highsB b).length fun (i:Nat)=>[iv ((highsB b).getD i 0)])) (zr true)) (An (An (zr (OB.cells 85 [AV.opt (okBook b && isCt b c) (cWk b)])) (zr true)) (An (An (zr 3) (An (An (An (ci (o4 hpre y2)) (zr nilN)) tv) (zr true))) (An (An (zr 3) (An (An (An (ci (o5 hpre y2)) (zr nilN)) tv) (zr true))) (An (An (zr 3) (An (zr 1) (An (o6 hpre y2) (fun (i6:Nat)=>(fun (y7:i6 < (lowsB b).length)=>(o7 hpre y2 i6 y7)))))) tv))))) (An (zr true) (zr true))))) (o8 hpre y2) (fun (x5:Nat) hx5 => ?_)
   refine swp_block ?_
   refine swp_seq ?_
   refine swp_seq ?_
   refine zC ([(2,CallSpec.eq (y42 b c x5) [true])]) [0,1,5,4,15] [96,136,144,193,5000] (Ak 2 (An (An (An (zr (AV.vec 5000)) tv) (An (hY3 x5 hx5) (Ak 1 (An (zr (some (OB.cells 85 [AV.opt (okBook b && isCt b c) (cWk b)]))) (An (zr (some (OB.cells 3 [iv (↑(soTo b c x5):Int)]))) (An (zr (some (OB.cells 3 [iv ((x5:Int) - (↑(soTo b c x5):Int))]))) (An (zr (some (OB.vec 3 1 (trN b x5).length fun (i:Nat)=>[iv ((trN b x5).getD i 0)]))) tv))))))) (Ak 1 tv))) ?_
   refine zf ?_
   refine swp_skip ?_
   refine swp_seq ?_
   refine zR [0,1,5,4,6] [96,136,144,193,5000] (Ak 1 tv) ?_
   refine swp_seq ?_
   refine swp_block ?_
   refine zL (Hint.ann (h42b b c x5) [(0,AV.rp (cWk b)),(1,AV.fn 0),(5,AV.vec 193),(4,AV.vec 5000)] [(96,OB.cells 85 [AV.opt (okBook b && isCt b c) (cWk b)]),(136,OB.cells 3 [iv (↑(soTo b c (x5 + 1)):Int)]),(144,OB.cells 3 [iv ((↑(x5 + 1):Int) - (↑(soTo b c (x5 + 1)):Int))]),(193,OB.vec 3 1 (highsB b).length fun (i:Nat)=>[iv ((highsB b).getD i 0)])] 20280) (zEn 184 hE [] [(96,.same 96),(136,.same 136),(144,.same 144),(193,.same 193),(5000,.same 5000)] [0,1] [96,136,144,193] (An (An (An (zr (AV.rp (cWk b))) (zr true)) (An (An (zr (AV.fn 0)) (zr true)) (An (zr (some (Src.same 193))) (An (zr (some (Src.same 5000))) (An (An (ci (o9 hpre y2 x5 hx5)) (zr nilN)) tv))))) (An (An (An (zr (OB.cells 85 [AV.opt (okBook b && isCt b c) (cWk b)])) (zr true)) (An (An (zr (OB.cells 3 [iv (↑(soTo b c (x5 + 1)):Int)])) (zr true)) (An (An (zr (OB.cells 3 [iv ((↑(x5 + 1):Int) - (↑(soTo b c (x5 + 1)):Int))])) (zr true)) (An (An (zr (OB.vec 3 1 (highsB b).length fun (i:Nat)=>[iv ((highsB b).getD i 0)])) (zr true)) (An (An (zr 3) (An (zr 1) (An (o10 hpre y2 x5 hx5) (fun (i9:Nat)=>(fun (y10:i9 < (trN b x5).length)=>(o11 hpre y2 x5 hx5 i9 y10)))))) tv))))) (An (zr true) (zr true))))) (o12 hpre y2 x5 hx5) (fun (x8:Nat) hx8 => ?_)
   refine swp_seq ?_
   refine swp_seq ?_
   refine zR [0,1,5,4,6,30] [96,136,144,193,5000] (Ak 5 (An (fun (y11:decide ((x8:Int) < (↑(b.lines.length):Int))=true)=>(An (Ak 1 tv) tv)) (An (fun (y12:decide ((x8:Int) < (↑(b.lines.length):Int))=true)=>(An (Ak 1 tv) tv)) (An (fun (y13:decide ((x8:Int) < (↑(b.lines.length):Int))=true)=>(An (An (fun (y14:decide ((x8:Int) < (↑(b.lines.length):Int))=true)=>y13) (An (fun (y15:decide ((x8:Int) < (↑(b.lines.length):Int))=true)=>y13) tv)) (An (o13 hpre y2 x5 hx5 x8 hx8 y13) (o14 hpre y2 x5 hx5 x8 hx8 y13)))) (An (fun (y16:decide ((x8:Int) < (↑(b.lines.length):Int))=true)=>(An (An (fun (y17:decide ((x8:Int) < (↑(b.lines.length):Int))=true)=>y16) tv) (An (o15 hpre y2 x5 hx5 x8 hx8 y16) tv))) (An (fun (y18:decide ((x8:Int) < (↑(b.lines.length):Int))=true)=>(An (Ak 1 tv) tv)) (An (fun (y19:decide ((x8:Int) < (↑(b.lines.length):Int))=true)=>(An (Ak 1 tv) tv)) (An (fun (y20:decide ((x8:Int) < (↑(b.lines.length):Int))=true)=>(An (An (fun (y21:decide ((x8:Int) < (↑(b.lines.length):Int))=true)=>y20) (An (fun (y22:decide ((x8:Int) < (↑(b.lines.length):Int))=true)=>y20) tv)) (An (o16 hpre y2 x5 hx5 x8 hx8 y20) (o17 hpre y2 x5 hx5 x8 hx8 y20)))) (An (fun (y23:decide ((x8:Int) < (↑(b.lines.length):Int))=true)=>(An (An (fun (y24:decide ((x8:Int) < (↑(b.lines.length):Int))=true)=>y23) tv) (An (o18 hpre y2 x5 hx5 x8 hx8 y23) tv))) (An (fun (y25:decide ((x8:Int) < (↑(b.lines.length):Int))=true)=>(An (An (fun (y26:decide ((x8:Int) < (↑(b.lines.length):Int))=true)=>y25) (An (fun (y27:decide ((x8:Int) < (↑(b.lines.length):Int))=true)=>y25) tv)) tv)) (An (An (fun (y28:decide ((x8:Int) < (↑(b.lines.length):Int))=true)=>y28) (fun (y29:decide ((x8:Int) < (↑(b.lines.length):Int))=false)=>tv)) tv))))))))))) ?_
   refine zI (bif decide ((x8:Int) < (↑(b.lines.length):Int)) then decide (rowL8 b x5 x8 x8=(highsB b).getD x8 0) else false) (fun y30 => ?_) (fun y30 => ?_)
   ·refine swp_skip ?_
    refine swp_seq ?_
    refine swp_block ?_
    refine zR [0,1,5,4,6] [96,136,144,193,5000] (Ak 8 (An (An (o19 hpre y2 x5 hx5 x8 hx8 y30) (o20 hpre y2 x5 hx5 x8 hx8 y30)) (Ak 2 (An (An (o21 hpre y2 x5 hx5 x8 hx8 y30) (o22 hpre y2 x5 hx5 x8 hx8 y30)) (An (An (o23 hpre y2 x5 hx5 x8 hx8 y30) tv) tv))))) ?_
    refine zR [0,1,5,4,6] [96,136,144,193,5000] (Ak 1 (An (o24 hpre y2 x5 hx5 x8 hx8 y30) (Ak 1 tv))) ?_
    exact zn (zEn 184 hE [] [(96,.same 96),(136,.same 136),(144,.same 144),(193,.same 193),(5000,.same 5000)] [0,1] [96,136,144,193] (An (An (An (zr (AV.rp (cWk b))) (zr true)) (An (An (zr (AV.fn 0)) (zr true)) (An (zr (some (Src.same 193))) (An (zr (some (Src.same 5000))) (An (An (ci (o25 hpre y2 x5 hx5 x8 hx8 y30)) (zr nilN)) tv))))) (An (An (An (zr (OB.cells 85 [AV.opt (okBook b && isCt b c) (cWk b)])) (zr true)) (An (An (zr (OB.cells 3 [iv (↑(soTo b c (x5 + 1)):Int)])) (zr true)) (An (An (zr (OB.cells 3 [iv ((↑(x5 + 1):Int) - (↑(soTo b c (x5 + 1)):Int))])) (zr true)) (An (An (zr (OB.vec 3 1 (highsB b).length fun (i:Nat)=>[iv ((highsB b).getD i 0)])) (zr true)) (An (An (zr 3) (An (zr 1) (An (zr b.lines.length) (fun (i31:Nat)=>(fun (y32:i31 < b.lines.length)=>(o26 hpre y2 x5 hx5 x8 hx8 y30 i31 y32)))))) tv))))) (An (zr true) (zr true))))) (o27 hpre y2 x5 hx5 x8 hx8 y30) (o28 hpre y2 x5 hx5 x8 hx8 y30)
   ·refine swp_exit ?_
    refine swp_seq ?_
    refine swp_seq ?_
    refine zR [0,1,5,4,6,48] [96,136,144,193,5000] (Ak 4 tv) ?_
    refine zI (decide ((x8:Int)=(↑(b.lines.length):Int))) (fun y33 => ?_) (fun y33 => ?_)
    ·refine swp_ret ?_
     exact zM (zEn 184 hE [] [(96,.same 96),(136,.same 136),(144,.same 144)] [] [96] (Ak 1 (An (An (An (zr (OB.cells 85 [AV.opt (okBook b && isCt b c) (cWk b)])) (zr true)) (An (An (zr 3) (An (An (An (ci (o29 hpre y2 x5 hx5 x8 hx8 y30 y33)) (zr nilN)) tv) (zr true))) (An (An (zr 3) (An (An (An (ci (o30 hpre y2 x5 hx5 x8 hx8 y30 y33)) (zr nilN)) tv) (zr true))) tv))) (An (zr true) (zr true)))))
    ·refine swp_skip ?_
     refine zR [0,1,5,4] [96,136,144,193,5000] (Ak 2 (An (An (o31 hpre y2 x5 hx5 x8 hx8 y30 y33) (o32 hpre y2 x5 hx5 x8 hx8 y30 y33)) (An (An (o33 hpre y2 x5 hx5 x8 hx8 y30 y33) tv) (An (o34 hpre y2 x5 hx5 x8 hx8 y30 y33) (An (An (o35 hpre y2 x5 hx5 x8 hx8 y30 y33) (o36 hpre y2 x5 hx5 x8 hx8 y30 y33)) (An (An (o37 hpre y2 x5 hx5 x8 hx8 y30 y33) tv) tv)))))) ?_
     exact zn (zEn 184 hE [] [(96,.same 96),(136,.same 136),(144,.same 144),(193,.same 193),(5000,.same 5000)] [0,1] [193,96,136,144] (An (An (An (zr (AV.rp (cWk b))) (zr true)) (An (An (zr (AV.fn 0)) (zr true)) (An (zr (some (Src.same 193))) (An (zr (some (Src.same 5000))) tv)))) (An (An (An (zr (OB.vec 3 1 (highsB b).length fun (i:Nat)=>[iv ((highsB b).getD i 0)])) (zr true)) (An (An (zr (OB.cells 85 [AV.opt (okBook b && isCt b c) (cWk b)])) (zr true)) (An (An (zr (OB.cells 3 [iv (↑(soTo b c (x5 + 1)):Int)])) (zr true)) (An (An (zr (OB.cells 3 [iv ((↑(x5 + 1):Int) - (↑(soTo b c (x5 + 1)):Int))])) (zr true)) (An (An (zr 3) (An (zr 1) (An (o38 hpre y2 x5 hx5 x8 hx8 y30 y33) (fun (i34:Nat)=>(fun (y35:i34 < b.lines.length)=>(o39 hpre y2 x5 hx5 x8 hx8 y30 y33 i34 y35)))))) tv))))) (An (zr true) (zr true))))) (o40 hpre y2 x5 hx5 x8 hx8 y30 y33) (o41 hpre y2 x5 hx5 x8 hx8 y30 y33)
  ·obtain ⟨P,w0,E0,av,hA,ro,df⟩:=C
   subst hC
   refine zR [3,6,8,9,10] [96,136,144,5000] (Ak 1 tv) ?_
   intro C hC hE
   obtain ⟨P,w0,E0,av,hA,ro,df⟩:=C
   subst hC
   refine swp_block ?_
   refine swp_seq ?_
   refine zC ([(2,CallSpec.eq (c42b b c j3 6024) [false,true]),(4,CallSpec.eq (c42c b c j3) [false,true])]) [8,9,29] [96,136,144,5000] (Ak 2 (An (An (An (An (o42 hpre y2 j3 hj3 hp3) (zr (cWk b))) (An (zr (AV.vec 5000)) tv)) (An (lendT 3 5000 1 (none) (t78o (b) (trN b j3) (6024))) (An (An (o43 hpre y2 j3 hj3 hp3) (o44 hpre y2 j3 hj3 hp3)) (An (An (zr (some (OB.vec 3 1 (trN b j3).length fun (i:Nat)=>[iv ((trN b j3).getD i 0)]))) tv) (fun (i36:Env)=>tv))))) (Ak 1 (An (An (An (An (zr 1) (An (zr (boughtB b (trN b j3)).length) (fun (i37:Nat)=>(fun (y38:i37 < (boughtB b (trN b j3)).length)=>(zr ([iv ((boughtB b (trN b j3)).getD i37 0)])))))) (An (zr (iv c)) tv)) (An (t77 (boughtB b (trN b j3)) (c)) (An (o45 hpre y2 j3 hj3 hp3) (Ak 1 (fun (i39:Env)=>tv))))) tv)))) ?_
   refine zI (hasG (boughtB b (trN b j3)) c) (fun y40 => ?_) (fun y40 => ?_)
   ·refine zR [] [96,136,144,5000] (Ak 1 (An (o46 hpre y2 j3 hj3 hp3 y40) (Ak 1 tv))) ?_
    exact zN 1006000 (zEn 6000 hE [] [(96,.same 96),(136,.same 136),(144,.same 144),(5000,.same 5000)] [] [96,5000] (Ak 1 (An (An (An (zr (OB.cells 85 [AV.opt (okBook b && isCt b c) (cWk b)])) (zr true)) (An (An (zr 3) (An (An (An (ci (o47 hpre y2 j3 hj3 hp3 y40)) (zr nilN)) tv) (zr true))) (An (An (zr 3) (An (An (An (ci (o48 hpre y2 j3 hj3 hp3 y40)) (zr nilN)) tv) (zr true))) (An (An (zr (OB.vec 3 1 (trN b j3).length fun (i:Nat)=>[iv ((trN b j3).getD i 0)])) (zr true)) tv)))) (An (zr true) (zr true)))))
   ·refine zR [] [96,136,144,5000] (Ak 1 (An (o49 hpre y2 j3 hj3 hp3 y40) (Ak 1 tv))) ?_
    exact zN 1006000 (zEn 6000 hE [] [(96,.same 96),(136,.same 136),(144,.same 144),(5000,.same 5000)] [] [96,5000] (Ak 1 (An (An (An (zr (OB.cells 85 [AV.opt (okBook b && isCt b c) (cWk b)])) (zr true)) (An (An (zr 3) (An (An (An (ci (o50 hpre y2 j3 hj3 hp3 y40)) (zr nilN)) tv) (zr true))) (An (An (zr 3) (An (An (An (ci (o51 hpre y2 j3 hj3 hp3 y40)) (zr nilN)) tv) (zr true))) (An (An (zr (OB.vec 3 1 (trN b j3).length fun (i:Nat)=>[iv ((trN b j3).getD i 0)])) (zr true)) tv)))) (An (zr true) (zr true)))))
  ·refine swp_seq ?_
   refine swp_block ?_
   refine swp_seq ?_
   refine zR [9,34] [144] (Ak 3 tv) ?_
   refine zI (decide (0=(↑(soTo b c (nTr b)):Int))) (fun y41 => ?_) (fun y41 => ?_)
   ·refine swp_seq ?_
    refine zR [4,5] [] (Ak 2 tv) ?_
    refine swp_ret ?_
    exact zT [] (An (Ak 2 tv) (An (An (An (ci (o52 hpre y2 y41)) (zr nilN)) (An (An (ci (o53 hpre y2 y41)) (zr nilN)) tv)) (An (zr true) (An (zr true) (zr true)))))
   ·refine swp_seq ?_
    refine zR [37] [] (Ak 3 tv) ?_
    refine zI (decide (0=(↑(nTr b):Int) - (↑(soTo b c (nTr b)):Int))) (fun y42 => ?_) (fun y42 => ?_)
    ·refine swp_seq ?_
     refine zR [4,5] [] (Ak 2 tv) ?_
     refine swp_ret ?_
     exact zT [] (An (Ak 2 tv) (An (An (An (ci (o54 hpre y2 y41 y42)) (zr nilN)) (An (An (ci (o55 hpre y2 y41 y42)) (zr nilN)) tv)) (An (zr true) (An (zr true) (zr true)))))
    ·refine swp_skip ?_
     refine swp_seq ?_
     refine zR [4,5] [] (Ak 2 tv) ?_
     refine swp_ret ?_
     exact zT [] (An (Ak 2 tv) (An (An (An (ci (o56 hpre y2 y41 y42)) (zr nilN)) (An (An (ci (o57 hpre y2 y41 y42)) (zr nilN)) tv)) (An (zr true) (An (zr true) (zr true)))))
theorem bought_len (b:Book) (ls:List Int):(boughtB b ls).length<=b.ctrs.length:=by
 unfold boughtB; exact Nat.le_trans (List.length_filterMap_le _ _) (by rw [List.length_range]; omega)
theorem trN_len (b:Book) (i:Nat):(trN b i).length=b.lines.length:=lineN_len _ _
theorem tr_zero (b:Book) {q:Nat} (h:q < b.lines.length):(trN b 0).getD q 0=(lnB b q).lo:=lineN_zero q h
theorem t42 (b:Book) (c:Int):Triple Try.prog 42 (s42 b c):=by
  apply w42
  all_goals (try delta q5c q5d q5e q5f q5g q5h q5i q5j q5k q5l)
  case o0=>exact fun hp=>small_fitsB hp
  all_goals (intro hp h; rw [open_ok8] at h)
  case o1=>simp only [Bool.not_eq_true'] at h; unfold buyN; rw [h]; rfl
  all_goals (simp only [Bool.not_eq_false'] at h; have hh:=h; rw [Bool.and_eq_true] at hh; have hs:=ok_soundB hh.1; have hct:=isCt_iff.1 hh.2; have hln:=hs.lines; have hris:=hs.ris; have hnt:=nTr_le hs; have hnp:=nTr_pos hs)
  case o2=>exact h
  case o3=>exact hs
  case o4 | o5=>all_goals rfl
  case o6=>rw [lows_len,trN_len]
  case o7=>intro i hi; rw [lows_len] at hi; rw [lows_get hi,tr_zero b hi]
  case o8=>exact hnp
  case o52=>intro h0; have:=of_decide_eq_true h0; unfold buyN buyB; rw [h,if_pos rfl,if_pos (by omega)]
  case o53 | o55 | o57=>all_goals (intros; exact (open_zero h).symm)
  case o54=>intro h0 h1; have:=of_decide_eq_false h0; have h1:=of_decide_eq_true h1; have hle:=soTo_le b c (nTr b); unfold buyN buyB; rw [h,if_pos rfl,if_neg (by omega),if_pos (by omega)]
  case o56=>intro h0 h1; have:=of_decide_eq_false h0; have h1:=of_decide_eq_false h1; have hle:=soTo_le b c (nTr b); unfold buyN buyB; rw [h,if_pos rfl,if_neg (by omega),if_neg (by omega)]
  case o42=>intros; exact h
  case o43=>intros; exact hs
  case o44=>intro j hj _; exact tr_good hs j
  case o45=>intro j hj _; exact Nat.le_trans (bought_len b _) (by have:=hs.ctrs; omega)
  case o46 | o47 | o48 | o49 | o50 | o51=>all_goals (
    intro j hj _ hb
    have hb:isIn (boughtB b (trN b j)) c=_:=hb
    have h1:=soTo_succ b c j
    rw [hb] at h1
    have h2:=soTo_le b c j
    simp only [if_true,if_false,Bool.false_eq_true] at h1
    first | omega | (simp only [inI]; omega))
  all_goals (intro x hx)
  case o9=>rfl
  case o10=>exact trN_len b x
  case o11=>intro i _; rfl
  case o12=>exact ⟨Nat.zero_le _,fun q hq=>absurd hq (Nat.not_lt_zero _)⟩
  all_goals (rintro n ⟨hn,hfull⟩ hc)
  all_goals (have hhl:=highs_len b)
  case o13 | o14 | o15 | o16 | o17 | o18=>all_goals (have:=of_decide_eq_true hc; omega)
  case o19 | o20 | o21 | o22 | o23 | o24 | o25 | o26 | o27 | o28=>all_goals (
    rw [Bool.cond_false_right,Bool.and_eq_true,decide_eq_true_eq,decide_eq_true_eq] at hc
    obtain ⟨hc1,hc2⟩:=hc
    first
    | omega
    | (simp only [inI]; omega)
    | (intro i hi
       unfold rowL8 rowL
       refine rec_ei8 (fun h => ?_) (fun h => ?_)
       · by_cases hin:i < n
         · rw [if_pos hin,if_pos (by omega)]
         · rw [if_neg hin,if_neg (by omega)]
       · rw [h,if_pos (by omega)]; rfl)
    | (refine ⟨by omega,lt_succ_cases hfull ?_⟩
       unfold rowL8 rowL at hc2
       rw [if_neg (Nat.lt_irrefl n),highs_get (by omega)] at hc2
       exact hc2))
  case o29 | o30=>all_goals (
    intro h0
    have h0:=of_decide_eq_true h0
    have:=lineN_full hris hx (fun q hq=>hfull q (by omega))
    have e:x + 1=nTr b:=this
    rw [e])
  all_goals (intro h0; have h0:=of_decide_eq_false h0; have hnl:n < b.lines.length:=by omega)
  all_goals (rw [Bool.cond_false_right,decide_eq_true (show (n:Int) < b.lines.length by omega),Bool.true_and,decide_eq_false_iff_not] at hc; unfold rowL8 rowL at hc; rw [if_neg (Nat.lt_irrefl n),highs_get hnl] at hc)
  all_goals (obtain ⟨g1,g2⟩:=lineN_next hris hx hnl hfull hc)
  case o34 =>
    have h1:=(tr_in hs x).2 n hnl
    have h2:=hs.line n hnl
    unfold rowL8 rowL
    rw [if_neg (Nat.lt_irrefl n)]
    show inI ((trN b x).getD n 0 + 1)
    simp only [inI]; omega
  case o38=>exact (trN_len b _).symm
  case o39 =>
    intro i hi
    show _ = [iv ((lineN b.lines (x + 1)).getD i 0)]
    rw [g2 i hi]
    unfold rowL8 rowL
    refine rec_ei8 (fun h => ?_) (fun h => ?_)
    · rw [if_neg h]
    · rw [if_pos h,if_neg (Nat.lt_irrefl n),h]; rfl
  case o40=>exact g1
  all_goals (first | omega | (have:x + 1 < nTr b:=g1; omega))
end Go.Ab
namespace Go.Sh
open Go.Ab
end Go.Sh
namespace Go.Ab
open Go Go.RowKit Go.Proofs Go.Sh Go.En
end Go.Ab
namespace Go.Ab
open Go Go.RowKit Go.Proofs Go.Sh Go.En
end Go.Ab
namespace Go.Sh
open Go.Ab
def exB:Book:=⟨[⟨2,3⟩,⟨4,4⟩],[⟨0,1,0⟩,⟨0,1,2⟩,⟨0,2,0⟩,⟨1,2,0⟩,⟨1,5,1⟩],3,2,[⟨1,2,8,15⟩,⟨2,7,20,20⟩]⟩
def exD:List Sday:=[⟨0,1⟩,⟨1,5⟩,⟨0,1⟩,⟨1,1⟩]
structure NewC where
 ctr:Int
 more:Ctr
 cheap:Int
 room:Int
structure DearX where
 times:Int
 ctr:Int
end Go.Sh
namespace Go.En
open Go Go.Ab Go.Sh
end Go.En
namespace Go.Ab
open Go Go.RowKit Go.Proofs Go.Sh Go.En
def s53 (a d:Int):CallSpec:={ args:=[iv a,iv d],res:=vSday ⟨a,d⟩ }
def s83 (a d e:Int):CallSpec:={ args:=[iv a,iv d,iv e],res:=vShn ⟨a,d,e⟩ }
def s51:CallSpec:={ args:=[],res:=vBk exB }
def s51o (b:Book):CallSpec:={ args:=[],res:=vBk b,pre:=b=exB }
def sw15 (b:Book):CallSpec:={ args:=[],res:=bv true,pre:=b=exB }
def s15:CallSpec:={ args:=[],res:=bv true }
def c15e (b:Book):CallSpec:=s51o b
def c15c (b:Book):CallSpec:=s21 b [2,4] [0,0,-1,-1]
def c15b (b:Book):CallSpec:=s35 b [2,4]
def c15w (b:Book):CallSpec:=s37 b [2,4] 1
def c15t (b:Book):CallSpec:=s26 b exD
def c15x (b:Book):CallSpec:=s25 (billL b [2,4]) [-1,1,1,1]
def c15y (b:Book):CallSpec:=s25 (twL b exD) [2,3]
end Go.Ab
namespace Go.Ab
open Go Go.RowKit Go.Proofs Go.Sh Go.En
theorem w53 (a:Int) (d:Int) :
  Triple Try.prog 53 (s53 a d):=by
 refine triple_of Try.func53 rfl Try.call53 T0_ok _ rfl rfl rfl rfl (Nat.le_of_ble_eq_true (by kernel_rfl)) (fun _ _ _ _ h=>h) ?_
 intro _ C hC _ hE
 obtain ⟨P,w0,E0,av,hA,ro,df⟩:=C
 obtain ⟨rfl,rfl,rfl⟩:=hC
 refine swp_seq ?_
 refine zR [0,1,4] [0] (Ak 1 tv) ?_
 refine swp_seq ?_
 refine zR [4] [0] (Ak 4 tv) ?_
 refine swp_ret ?_
 exact zT [] (An (Ak 1 tv) (An (An (An (zr (iv a)) (zr nilN)) (An (An (zr (iv d)) (zr nilN)) tv)) (An (zr true) (An (zr true) (zr true)))))
theorem t53 (a d:Int):Triple Try.prog 53 (s53 a d):=by
 apply w53
theorem w83 (a:Int) (d:Int) (e:Int) :
  Triple Try.prog 83 (s83 a d e):=by
 refine triple_of Try.func83 rfl Try.call83 T0_ok _ rfl rfl rfl rfl (Nat.le_of_ble_eq_true (by kernel_rfl)) (fun _ _ _ _ h=>h) ?_
 intro _ C hC _ hE
 obtain ⟨P,w0,E0,av,hA,ro,df⟩:=C
 obtain ⟨rfl,rfl,rfl⟩:=hC
 refine swp_seq ?_
 refine zR [0,1,2,6] [0] (Ak 1 tv) ?_
 refine swp_seq ?_
 refine zR [6] [0] (Ak 5 tv) ?_
 refine swp_ret ?_
 exact zT [] (An (Ak 1 tv) (An (An (An (zr (iv a)) (zr nilN)) (An (An (zr (iv d)) (zr nilN)) (An (An (zr (iv e)) (zr nilN)) tv))) (An (zr true) (An (zr true) (zr true)))))
theorem t83 (a d e:Int):Triple Try.prog 83 (s83 a d e):=by
 apply w83
theorem w51 
  (o0:∀ (i5:Nat),i5 < exB.lines.length->List.getD [[iv 2,iv 3],[iv 4,iv 4]] i5 (TI.za ti63)=cSpan (lnB exB i5))
  (o1:∀ (i7:Nat),i7 < exB.shown.length->List.getD [[iv 0,iv 1,iv 0],[iv 0,iv 1,iv 2],[iv 0,iv 2,iv 0],[iv 1,iv 2,iv 0],[iv 1,iv 5,iv 1]] i7 (TI.za ti70)=cShn (shB exB i7))
  (o2:3=Book.rate exB)
  (o3:2=Book.rep exB)
  (o4:∀ (i9:Nat),i9 < exB.ctrs.length->List.getD [[iv 1,iv 2,iv 8,iv 15],[iv 2,iv 7,iv 20,iv 20]] i9 (TI.za ti53)=cCtr (ctB exB i9)) :
  Triple Try.prog 51 (s51):=by
 refine triple_of Try.func51 rfl Try.call51 T0_ok _ rfl rfl rfl rfl (Nat.le_of_ble_eq_true (by kernel_rfl)) (fun _ _ _ _ h=>h) ?_
 intro _ C hC _ hE
 obtain ⟨P,w0,E0,av,hA,ro,df⟩:=C
 obtain ⟨rfl,rfl,rfl⟩:=hC
 refine swp_seq ?_
 refine zR [0] [0] (Ak 1 tv) ?_
 refine swp_seq ?_
 refine zC ([(3,CallSpec.eq (s83 0 1 0) [true,true,true]),(4,CallSpec.eq (s83 0 1 2) [true,true,true]),(5,CallSpec.eq (s83 0 2 0) [true,true,true]),(6,CallSpec.eq (s83 1 2 0) [true,true,true]),(7,CallSpec.eq (s83 1 5 1) [true,true,true])]) [0] [0,24,72,96] (Ak 3 (An (An (An (zr (iv 0)) (An (zr (iv 1)) (An (zr (iv 0)) tv))) (An (t83 (0) (1) (0)) (Ak 2 (fun (i0:Env)=>tv)))) (An (An (An (zr (iv 0)) (An (zr (iv 1)) (An (zr (iv 2)) tv))) (An (t83 (0) (1) (2)) (Ak 2 (fun (i1:Env)=>tv)))) (An (An (An (zr (iv 0)) (An (zr (iv 2)) (An (zr (iv 0)) tv))) (An (t83 (0) (2) (0)) (Ak 2 (fun (i2:Env)=>tv)))) (An (An (An (zr (iv 1)) (An (zr (iv 2)) (An (zr (iv 0)) tv))) (An (t83 (1) (2) (0)) (Ak 2 (fun (i3:Env)=>tv)))) (An (An (An (zr (iv 1)) (An (zr (iv 5)) (An (zr (iv 1)) tv))) (An (t83 (1) (5) (1)) (Ak 2 (fun (i4:Env)=>tv)))) (Ak 6 tv))))))) ?_
 refine swp_ret ?_
 exact zT [24,72,96] (An (Ak 1 tv) (An (An (An (zr 2) (An (by decide:2=exB.lines.length) (fun (i5:Nat)=>(fun (y6:i5 < exB.lines.length)=>(o0 i5 y6))))) (An (An (zr 3) (An (by decide:5=exB.shown.length) (fun (i7:Nat)=>(fun (y8:i7 < exB.shown.length)=>(o1 i7 y8))))) (An (An (ci (o2)) (zr nilN)) (An (An (ci (o3)) (zr nilN)) (An (An (zr 4) (An (by decide:2=exB.ctrs.length) (fun (i9:Nat)=>(fun (y10:i9 < exB.ctrs.length)=>(o4 i9 y10))))) tv))))) (An (zr true) (An (zr true) (zr true)))))
theorem t51:Triple Try.prog 51 s51:=by
 apply w51
 case o0 =>
  intro i hi
  have:i=0 ∨ i=1:=by simp [exB] at hi; omega
  rcases this with rfl | rfl <;> rfl
 case o1 =>
  intro i hi
  have:i=0 ∨ i=1 ∨ i=2 ∨ i=3 ∨ i=4:=by simp [exB] at hi; omega
  rcases this with rfl | rfl | rfl | rfl | rfl <;> rfl
 case o4 =>
  intro i hi
  have:i=0 ∨ i=1:=by simp [exB] at hi; omega
  rcases this with rfl | rfl <;> rfl
 all_goals rfl
theorem t51o (b:Book):Triple Try.prog 51 (s51o b):=⟨t51.1,fun h=>by cases h; exact t51.2 trivial⟩
abbrev q5m (b:Book) (P:Prop):Prop:=b=exB->(bif bif bif bif bif bif decide (costE b [2,4] [0,0,-1,-1]=0) then decide (givenE b [2,4] true=0) else false then decide (givenE b [2,4] (isCt b 1)=0) else false then decide (checkB b=0) else false then decide (openE b (isCt b 1)=0) else false then decide (twE b exD=0) else false then decide (costN b [2,4] [0,0,-1,-1]=39) else false)=true->P
abbrev q5n (b:Book) (P:Prop):Prop:=b=exB->(bif bif bif bif bif bif bif bif bif bif decide (costE b [2,4] [0,0,-1,-1]=0) then decide (givenE b [2,4] true=0) else false then decide (givenE b [2,4] (isCt b 1)=0) else false then decide (checkB b=0) else false then decide (openE b (isCt b 1)=0) else false then decide (twE b exD=0) else false then decide (costN b [2,4] [0,0,-1,-1]=39) else false then sameInts (billL b [2,4]) [-1,1,1,1] else false then decide (worthN b [2,4] 1=1) else false then decide ((owedN b).lo=26) && (decide ((owedN b).hi=29) && true) else false then decide (buyN b 1=1) else false)=true->P
theorem w15 (b:Book)
 (o0:b=exB -> ∀ (i1:Nat),i1 < List.length [2,4]->List.getD [[iv 2],[iv 4]] i1 (TI.za ti3) = [iv (List.getD [2,4] i1 0)])
 (o1:b=exB -> ∀ (i3:Nat),i3 < List.length [0,0,-1,-1]->List.getD [[iv 0],[iv 0],[iv (-1)],[iv (-1)]] i3 (TI.za ti3) = [iv (List.getD [0,0,-1,-1] i3 0)])
 (o2:b=exB->smallB b)
 (o3:b=exB -> ∀ (i6:Nat),i6 < List.length [2,4]->List.getD [[iv 2],[iv 4]] i6 (TI.za ti3) = [iv (List.getD [2,4] i6 0)])
 (o4:b=exB->smallB b)
 (o5:b=exB -> ∀ (i9:Nat),i9 < List.length [2,4]->List.getD [[iv 2],[iv 4]] i9 (TI.za ti3) = [iv (List.getD [2,4] i9 0)])
 (o6:b=exB->smallB b)
 (o7:b=exB->smallB b)
 (o8:b=exB->smallB b)
 (o9:b=exB -> ∀ (i18:Nat),i18 < exD.length->List.getD [[iv 0,iv 1],[iv 1,iv 5],[iv 0,iv 1],[iv 1,iv 1]] i18 (TI.za ti61)=cSday (exD.getD i18 default))
 (o10:b=exB->smallB b)
 (o11:q5m b (∀ (i58:Nat),i58 < List.length [-1,1,1,1]->List.getD [[iv (-1)],[iv 1],[iv 1],[iv 1]] i58 (TI.za ti3) = [iv (List.getD [-1,1,1,1] i58 0)]))
 (o12:q5m b ((billL b [2,4]).length<=big))
 (o13:q5n b (∀ (i87:Nat),i87 < List.length [2,3]->List.getD [[iv 2],[iv 3]] i87 (TI.za ti3) = [iv (List.getD [2,3] i87 0)]))
 (o14:q5n b ((twL b exD).length<=big))
 (o15:b=exB->(bif bif bif bif bif bif bif bif bif bif bif decide (costE b [2,4] [0,0,-1,-1]=0) then decide (givenE b [2,4] true=0) else false then decide (givenE b [2,4] (isCt b 1)=0) else false then decide (checkB b=0) else false then decide (openE b (isCt b 1)=0) else false then decide (twE b exD=0) else false then decide (costN b [2,4] [0,0,-1,-1]=39) else false then sameInts (billL b [2,4]) [-1,1,1,1] else false then decide (worthN b [2,4] 1=1) else false then decide ((owedN b).lo=26) && (decide ((owedN b).hi=29) && true) else false then decide (buyN b 1=1) else false then sameInts (twL b exD) [2,3] else false)=true) :
  Triple Try.prog 15 (sw15 b):=by
 refine triple_of Try.func15 rfl Try.call15 T0_ok _ rfl rfl rfl rfl (Nat.le_of_ble_eq_true (by kernel_rfl)) (fun _ _ _ _ h=>h) ?_
 intro hpre C hC _ hE
 obtain ⟨P,w0,E0,av,hA,ro,df⟩:=C
 obtain ⟨rfl,rfl,rfl⟩:=hC
 refine swp_seq ?_
 refine zR [] [] (Ak 1 tv) ?_
 refine swp_seq ?_
 refine zC ([(0,CallSpec.eq (c15e b) [])]) [1] [16] (An (Ak 1 (An (t51o (b)) (An hpre (Ak 1 (fun (i0:Env)=>tv))))) (Ak 2 tv)) ?_
 refine swp_seq ?_
 refine zC ([(3,CallSpec.eq (c15c b) [true,false,false])]) [1,2,3] [16] (Ak 3 (An (An (An (zr (AV.agg (cBk b))) (An (An (zr 1) (An (zr 2) (fun (i1:Nat)=>(fun (y2:i1 < List.length [2,4])=>(o0 hpre i1 y2))))) (An (An (zr 1) (An (zr 4) (fun (i3:Nat)=>(fun (y4:i3 < List.length [0,0,-1,-1])=>(o1 hpre i3 y4))))) tv))) (An (t21 (b) ([2,4]) ([0,0,-1,-1])) (An (An (o2 hpre) (An (by decide:List.length [2,4]<=60000) (by decide:List.length [0,0,-1,-1]<=60000))) (Ak 1 (fun (i5:Env)=>tv))))) (Ak 5 tv))) ?_
 refine swp_seq ?_
 refine zC ([(2,CallSpec.eq (c15b b) [true,false])]) [1,2,3,4,5] [16] (Ak 2 (An (An (An (zr (AV.agg (cBk b))) (An (An (zr 1) (An (zr 2) (fun (i6:Nat)=>(fun (y7:i6 < List.length [2,4])=>(o3 hpre i6 y7))))) tv)) (An (t35 (b) ([2,4])) (An (An (o4 hpre) (by decide:List.length [2,4]<=60000)) (Ak 1 (fun (i8:Env)=>tv))))) (Ak 5 tv))) ?_
 refine swp_seq ?_
 refine zC ([(2,CallSpec.eq (c15w b) [true,false,true])]) [1,2,3,4,5,6,7] [16] (Ak 2 (An (An (An (zr (AV.agg (cBk b))) (An (An (zr 1) (An (zr 2) (fun (i9:Nat)=>(fun (y10:i9 < List.length [2,4])=>(o5 hpre i9 y10))))) (An (zr (iv 1)) tv))) (An (t37 (b) ([2,4]) (1)) (An (An (o6 hpre) (by decide:List.length [2,4]<=60000)) (Ak 1 (fun (i11:Env)=>tv))))) (Ak 5 tv))) ?_
 refine swp_seq ?_
 refine zC ([(1,CallSpec.eq (s52 b) [true])]) [1,2,3,4,5,6,7,8,9] [16,272] (Ak 1 (An (An (An (zr (AV.agg (cBk b))) tv) (An (t52 (b)) (An (o7 hpre) (Ak 1 (fun (i12:Env)=>tv))))) (Ak 6 tv))) ?_
 refine swp_seq ?_
 refine zC ([(1,CallSpec.eq (s42 b 1) [true,true])]) [1,2,3,4,5,6,7,8,9,10,11] [16,272] (Ak 1 (An (An (An (zr (AV.agg (cBk b))) (An (zr (iv 1)) tv)) (An (t42 (b) (1)) (An (o8 hpre) (Ak 1 (fun (i13:Env)=>tv))))) (Ak 5 tv))) ?_
 refine swp_seq ?_
 refine zC ([(1,CallSpec.eq (s53 0 1) [true,true]),(2,CallSpec.eq (s53 1 5) [true,true]),(3,CallSpec.eq (s53 0 1) [true,true]),(4,CallSpec.eq (s53 1 1) [true,true]),(6,CallSpec.eq (c15t b) [true,false])]) [2,3,4,5,6,7,8,9,10,11,12,13] [272] (Ak 1 (An (An (An (zr (iv 0)) (An (zr (iv 1)) tv)) (An (t53 (0) (1)) (Ak 2 (fun (i14:Env)=>tv)))) (An (An (An (zr (iv 1)) (An (zr (iv 5)) tv)) (An (t53 (1) (5)) (Ak 2 (fun (i15:Env)=>tv)))) (An (An (An (zr (iv 0)) (An (zr (iv 1)) tv)) (An (t53 (0) (1)) (Ak 2 (fun (i16:Env)=>tv)))) (An (An (An (zr (iv 1)) (An (zr (iv 1)) tv)) (An (t53 (1) (1)) (Ak 2 (fun (i17:Env)=>tv)))) (Ak 1 (An (An (An (zr (AV.agg (cBk b))) (An (An (zr 2) (An (by decide:4=exD.length) (fun (i18:Nat)=>(fun (y19:i18 < exD.length)=>(o9 hpre i18 y19))))) tv)) (An (t26 (b) (exD)) (An (An (o10 hpre) (by decide:exD.length<=60000)) (Ak 1 (fun (i20:Env)=>tv))))) (Ak 5 tv)))))))) ?_
 refine swp_seq ?_
 refine zC ([(29,CallSpec.eq (c15x b) [false,false]),(47,CallSpec.eq (c15y b) [false,false])]) [0] [] (Ak 3 (An (fun (y21:decide (costE b [2,4] [0,0,-1,-1]=0)=true)=>(An (Ak 1 tv) tv)) (An (fun (y22:decide (costE b [2,4] [0,0,-1,-1]=0)=true)=>(An (An (fun (y23:decide (costE b [2,4] [0,0,-1,-1]=0)=true)=>y22) (Ak 1 tv)) tv)) (An (An (fun (y24:decide (costE b [2,4] [0,0,-1,-1]=0)=true)=>y24) (fun (y25:decide (costE b [2,4] [0,0,-1,-1]=0)=false)=>tv)) (Ak 1 (An (fun (y26:(bif decide (costE b [2,4] [0,0,-1,-1]=0) then decide (givenE b [2,4] true=0) else false)=true)=>(An (Ak 1 tv) tv)) (An (fun (y27:(bif decide (costE b [2,4] [0,0,-1,-1]=0) then decide (givenE b [2,4] true=0) else false)=true)=>(An (An (fun (y28:(bif decide (costE b [2,4] [0,0,-1,-1]=0) then decide (givenE b [2,4] true=0) else false)=true)=>y27) (Ak 1 tv)) tv)) (An (An (fun (y29:(bif decide (costE b [2,4] [0,0,-1,-1]=0) then decide (givenE b [2,4] true=0) else false)=true)=>y29) (fun (y30:(bif decide (costE b [2,4] [0,0,-1,-1]=0) then decide (givenE b [2,4] true=0) else false)=false)=>tv)) (Ak 1 (An (fun (y31:(bif bif decide (costE b [2,4] [0,0,-1,-1]=0) then decide (givenE b [2,4] true=0) else false then decide (givenE b [2,4] (isCt b 1)=0) else false)=true)=>(An (Ak 1 tv) tv)) (An (fun (y32:(bif bif decide (costE b [2,4] [0,0,-1,-1]=0) then decide (givenE b [2,4] true=0) else false then decide (givenE b [2,4] (isCt b 1)=0) else false)=true)=>(An (An (fun (y33:(bif bif decide (costE b [2,4] [0,0,-1,-1]=0) then decide (givenE b [2,4] true=0) else false then decide (givenE b [2,4] (isCt b 1)=0) else false)=true)=>y32) (Ak 1 tv)) tv)) (An (An (fun (y34:(bif bif decide (costE b [2,4] [0,0,-1,-1]=0) then decide (givenE b [2,4] true=0) else false then decide (givenE b [2,4] (isCt b 1)=0) else false)=true)=>y34) (fun (y35:(bif bif decide (costE b [2,4] [0,0,-1,-1]=0) then decide (givenE b [2,4] true=0) else false then decide (givenE b [2,4] (isCt b 1)=0) else false)=false)=>tv)) (Ak 1 (An (fun (y36:(bif bif bif decide (costE b [2,4] [0,0,-1,-1]=0) then decide (givenE b [2,4] true=0) else false then decide (givenE b [2,4] (isCt b 1)=0) else false then decide (checkB b=0) else false)=true)=>(An (Ak 1 tv) tv)) (An (fun (y37:(bif bif bif decide (costE b [2,4] [0,0,-1,-1]=0) then decide (givenE b [2,4] true=0) else false then decide (givenE b [2,4] (isCt b 1)=0) else false then decide (checkB b=0) else false)=true)=>(An (An (fun (y38:(bif bif bif decide (costE b [2,4] [0,0,-1,-1]=0) then decide (givenE b [2,4] true=0) else false then decide (givenE b [2,4] (isCt b 1)=0) else false then decide (checkB b=0) else false)=true)=>y37) (Ak 1 tv)) tv)) (An (An (fun (y39:(bif bif bif decide (costE b [2,4] [0,0,-1,-1]=0) then decide (givenE b [2,4] true=0) else false then decide (givenE b [2,4] (isCt b 1)=0) else false then decide (checkB b=0) else false)=true)=>y39) (fun (y40:(bif bif bif decide (costE b [2,4] [0,0,-1,-1]=0) then decide (givenE b [2,4] true=0) else false then decide (givenE b [2,4] (isCt b 1)=0) else false then decide (checkB b=0) else false)=false)=>tv)) (Ak 1 (An (fun (y41:(bif bif bif bif decide (costE b [2,4] [0,0,-1,-1]=0) then decide (givenE b [2,4] true=0) else false then decide (givenE b [2,4] (isCt b 1)=0) else false then decide (checkB b=0) else false then decide (openE b (isCt b 1)=0) else false)=true)=>(An (Ak 1 tv) tv)) (An (fun (y42:(bif bif bif bif decide (costE b [2,4] [0,0,-1,-1]=0) then decide (givenE b [2,4] true=0) else false then decide (givenE b [2,4] (isCt b 1)=0) else false then decide (checkB b=0) else false then decide (openE b (isCt b 1)=0) else false)=true)=>(An (An (fun (y43:(bif bif bif bif decide (costE b [2,4] [0,0,-1,-1]=0) then decide (givenE b [2,4] true=0) else false then decide (givenE b [2,4] (isCt b 1)=0) else false then decide (checkB b=0) else false then decide (openE b (isCt b 1)=0) else false)=true)=>y42) (Ak 1 tv)) tv)) (An (An (fun (y44:(bif bif bif bif decide (costE b [2,4] [0,0,-1,-1]=0) then decide (givenE b [2,4] true=0) else false then decide (givenE b [2,4] (isCt b 1)=0) else false then decide (checkB b=0) else false then decide (openE b (isCt b 1)=0) else false)=true)=>y44) (fun (y45:(bif bif bif bif decide (costE b [2,4] [0,0,-1,-1]=0) then decide (givenE b [2,4] true=0) else false then decide (givenE b [2,4] (isCt b 1)=0) else false then decide (checkB b=0) else false then decide (openE b (isCt b 1)=0) else false)=false)=>tv)) (Ak 1 (An (fun (y46:(bif bif bif bif bif decide (costE b [2,4] [0,0,-1,-1]=0) then decide (givenE b [2,4] true=0) else false then decide (givenE b [2,4] (isCt b 1)=0) else false then decide (checkB b=0) else false then decide (openE b (isCt b 1)=0) else false then decide (twE b exD=0) else false)=true)=>(An (Ak 1 tv) tv)) (An (fun (y47:(bif bif bif bif bif decide (costE b [2,4] [0,0,-1,-1]=0) then decide (givenE b [2,4] true=0) else false then decide (givenE b [2,4] (isCt b 1)=0) else false then decide (checkB b=0) else false then decide (openE b (isCt b 1)=0) else false then decide (twE b exD=0) else false)=true)=>(An (An (fun (y48:(bif bif bif bif bif decide (costE b [2,4] [0,0,-1,-1]=0) then decide (givenE b [2,4] true=0) else false then decide (givenE b [2,4] (isCt b 1)=0) else false then decide (checkB b=0) else false then decide (openE b (isCt b 1)=0) else false then decide (twE b exD=0) else false)=true)=>y47) (Ak 1 tv)) tv)) (An (An (fun (y49:(bif bif bif bif bif decide (costE b [2,4] [0,0,-1,-1]=0) then decide (givenE b [2,4] true=0) else false then decide (givenE b [2,4] (isCt b 1)=0) else false then decide (checkB b=0) else false then decide (openE b (isCt b 1)=0) else false then decide (twE b exD=0) else false)=true)=>y49) (fun (y50:(bif bif bif bif bif decide (costE b [2,4] [0,0,-1,-1]=0) then decide (givenE b [2,4] true=0) else false then decide (givenE b [2,4] (isCt b 1)=0) else false then decide (checkB b=0) else false then decide (openE b (isCt b 1)=0) else false then decide (twE b exD=0) else false)=false)=>tv)) (Ak 1 (An (fun (y51:(bif bif bif bif bif bif decide (costE b [2,4] [0,0,-1,-1]=0) then decide (givenE b [2,4] true=0) else false then decide (givenE b [2,4] (isCt b 1)=0) else false then decide (checkB b=0) else false then decide (openE b (isCt b 1)=0) else false then decide (twE b exD=0) else false then decide (costN b [2,4] [0,0,-1,-1]=39) else false)=true)=>(An (Ak 1 tv) tv)) (An (fun (y52:(bif bif bif bif bif bif decide (costE b [2,4] [0,0,-1,-1]=0) then decide (givenE b [2,4] true=0) else false then decide (givenE b [2,4] (isCt b 1)=0) else false then decide (checkB b=0) else false then decide (openE b (isCt b 1)=0) else false then decide (twE b exD=0) else false then decide (costN b [2,4] [0,0,-1,-1]=39) else false)=true)=>(An (Ak 4 tv) tv)) (An (fun (y53:(bif bif bif bif bif bif decide (costE b [2,4] [0,0,-1,-1]=0) then decide (givenE b [2,4] true=0) else false then decide (givenE b [2,4] (isCt b 1)=0) else false then decide (checkB b=0) else false then decide (openE b (isCt b 1)=0) else false then decide (twE b exD=0) else false then decide (costN b [2,4] [0,0,-1,-1]=39) else false)=true)=>(An (Ak 1 (An (fun (y54:(bif bif bif bif bif bif decide (costE b [2,4] [0,0,-1,-1]=0) then decide (givenE b [2,4] true=0) else false then decide (givenE b [2,4] (isCt b 1)=0) else false then decide (checkB b=0) else false then decide (openE b (isCt b 1)=0) else false then decide (twE b exD=0) else false then decide (costN b [2,4] [0,0,-1,-1]=39) else false)=true)=>y53) (An (fun (y55:(bif bif bif bif bif bif decide (costE b [2,4] [0,0,-1,-1]=0) then decide (givenE b [2,4] true=0) else false then decide (givenE b [2,4] (isCt b 1)=0) else false then decide (checkB b=0) else false then decide (openE b (isCt b 1)=0) else false then decide (twE b exD=0) else false then decide (costN b [2,4] [0,0,-1,-1]=39) else false)=true)=>y53) tv))) (An (An (An (zr 1) (An (zr (billL b [2,4]).length) (fun (i56:Nat)=>(fun (y57:i56 < (billL b [2,4]).length)=>(zr ([iv ((billL b [2,4]).getD i56 0)])))))) (An (An (zr 1) (An (zr 4) (fun (i58:Nat)=>(fun (y59:i58 < List.length [-1,1,1,1])=>(o11 hpre y53 i58 y59))))) tv)) (An (t25 (billL b [2,4]) ([-1,1,1,1])) (An (o12 hpre y53) (Ak 1 (fun (i60:Env)=>tv))))))) (An (An (fun (y61:(bif bif bif bif bif bif decide (costE b [2,4] [0,0,-1,-1]=0) then decide (givenE b [2,4] true=0) else false then decide (givenE b [2,4] (isCt b 1)=0) else false then decide (checkB b=0) else false then decide (openE b (isCt b 1)=0) else false then decide (twE b exD=0) else false then decide (costN b [2,4] [0,0,-1,-1]=39) else false)=true)=>y61) (fun (y62:(bif bif bif bif bif bif decide (costE b [2,4] [0,0,-1,-1]=0) then decide (givenE b [2,4] true=0) else false then decide (givenE b [2,4] (isCt b 1)=0) else false then decide (checkB b=0) else false then decide (openE b (isCt b 1)=0) else false then decide (twE b exD=0) else false then decide (costN b [2,4] [0,0,-1,-1]=39) else false)=false)=>tv)) (Ak 1 (An (fun (y63:(bif bif bif bif bif bif bif decide (costE b [2,4] [0,0,-1,-1]=0) then decide (givenE b [2,4] true=0) else false then decide (givenE b [2,4] (isCt b 1)=0) else false then decide (checkB b=0) else false then decide (openE b (isCt b 1)=0) else false then decide (twE b exD=0) else false then decide (costN b [2,4] [0,0,-1,-1]=39) else false then sameInts (billL b [2,4]) [-1,1,1,1] else false)=true)=>(An (Ak 1 tv) tv)) (An (fun (y64:(bif bif bif bif bif bif bif decide (costE b [2,4] [0,0,-1,-1]=0) then decide (givenE b [2,4] true=0) else false then decide (givenE b [2,4] (isCt b 1)=0) else false then decide (checkB b=0) else false then decide (openE b (isCt b 1)=0) else false then decide (twE b exD=0) else false then decide (costN b [2,4] [0,0,-1,-1]=39) else false then sameInts (billL b [2,4]) [-1,1,1,1] else false)=true)=>(An (An (fun (y65:(bif bif bif bif bif bif bif decide (costE b [2,4] [0,0,-1,-1]=0) then decide (givenE b [2,4] true=0) else false then decide (givenE b [2,4] (isCt b 1)=0) else false then decide (checkB b=0) else false then decide (openE b (isCt b 1)=0) else false then decide (twE b exD=0) else false then decide (costN b [2,4] [0,0,-1,-1]=39) else false then sameInts (billL b [2,4]) [-1,1,1,1] else false)=true)=>y64) (Ak 1 tv)) tv)) (An (An (fun (y66:(bif bif bif bif bif bif bif decide (costE b [2,4] [0,0,-1,-1]=0) then decide (givenE b [2,4] true=0) else false then decide (givenE b [2,4] (isCt b 1)=0) else false then decide (checkB b=0) else false then decide (openE b (isCt b 1)=0) else false then decide (twE b exD=0) else false then decide (costN b [2,4] [0,0,-1,-1]=39) else false then sameInts (billL b [2,4]) [-1,1,1,1] else false)=true)=>y66) (fun (y67:(bif bif bif bif bif bif bif decide (costE b [2,4] [0,0,-1,-1]=0) then decide (givenE b [2,4] true=0) else false then decide (givenE b [2,4] (isCt b 1)=0) else false then decide (checkB b=0) else false then decide (openE b (isCt b 1)=0) else false then decide (twE b exD=0) else false then decide (costN b [2,4] [0,0,-1,-1]=39) else false then sameInts (billL b [2,4]) [-1,1,1,1] else false)=false)=>tv)) (Ak 1 (An (fun (y68:(bif bif bif bif bif bif bif bif decide (costE b [2,4] [0,0,-1,-1]=0) then decide (givenE b [2,4] true=0) else false then decide (givenE b [2,4] (isCt b 1)=0) else false then decide (checkB b=0) else false then decide (openE b (isCt b 1)=0) else false then decide (twE b exD=0) else false then decide (costN b [2,4] [0,0,-1,-1]=39) else false then sameInts (billL b [2,4]) [-1,1,1,1] else false then decide (worthN b [2,4] 1=1) else false)=true)=>(An (Ak 1 tv) tv)) (An (fun (y69:(bif bif bif bif bif bif bif bif decide (costE b [2,4] [0,0,-1,-1]=0) then decide (givenE b [2,4] true=0) else false then decide (givenE b [2,4] (isCt b 1)=0) else false then decide (checkB b=0) else false then decide (openE b (isCt b 1)=0) else false then decide (twE b exD=0) else false then decide (costN b [2,4] [0,0,-1,-1]=39) else false then sameInts (billL b [2,4]) [-1,1,1,1] else false then decide (worthN b [2,4] 1=1) else false)=true)=>(An (Ak 2 tv) tv)) (An (fun (y70:(bif bif bif bif bif bif bif bif decide (costE b [2,4] [0,0,-1,-1]=0) then decide (givenE b [2,4] true=0) else false then decide (givenE b [2,4] (isCt b 1)=0) else false then decide (checkB b=0) else false then decide (openE b (isCt b 1)=0) else false then decide (twE b exD=0) else false then decide (costN b [2,4] [0,0,-1,-1]=39) else false then sameInts (billL b [2,4]) [-1,1,1,1] else false then decide (worthN b [2,4] 1=1) else false)=true)=>(An (An (fun (y71:(bif bif bif bif bif bif bif bif decide (costE b [2,4] [0,0,-1,-1]=0) then decide (givenE b [2,4] true=0) else false then decide (givenE b [2,4] (isCt b 1)=0) else false then decide (checkB b=0) else false then decide (openE b (isCt b 1)=0) else false then decide (twE b exD=0) else false then decide (costN b [2,4] [0,0,-1,-1]=39) else false then sameInts (billL b [2,4]) [-1,1,1,1] else false then decide (worthN b [2,4] 1=1) else false)=true)=>y70) (An (fun (y72:(bif bif bif bif bif bif bif bif decide (costE b [2,4] [0,0,-1,-1]=0) then decide (givenE b [2,4] true=0) else false then decide (givenE b [2,4] (isCt b 1)=0) else false then decide (checkB b=0) else false then decide (openE b (isCt b 1)=0) else false then decide (twE b exD=0) else false then decide (costN b [2,4] [0,0,-1,-1]=39) else false then sameInts (billL b [2,4]) [-1,1,1,1] else false then decide (worthN b [2,4] 1=1) else false)=true)=>y70) tv)) tv)) (An (An (fun (y73:(bif bif bif bif bif bif bif bif decide (costE b [2,4] [0,0,-1,-1]=0) then decide (givenE b [2,4] true=0) else false then decide (givenE b [2,4] (isCt b 1)=0) else false then decide (checkB b=0) else false then decide (openE b (isCt b 1)=0) else false then decide (twE b exD=0) else false then decide (costN b [2,4] [0,0,-1,-1]=39) else false then sameInts (billL b [2,4]) [-1,1,1,1] else false then decide (worthN b [2,4] 1=1) else false)=true)=>y73) (fun (y74:(bif bif bif bif bif bif bif bif decide (costE b [2,4] [0,0,-1,-1]=0) then decide (givenE b [2,4] true=0) else false then decide (givenE b [2,4] (isCt b 1)=0) else false then decide (checkB b=0) else false then decide (openE b (isCt b 1)=0) else false then decide (twE b exD=0) else false then decide (costN b [2,4] [0,0,-1,-1]=39) else false then sameInts (billL b [2,4]) [-1,1,1,1] else false then decide (worthN b [2,4] 1=1) else false)=false)=>tv)) (Ak 1 (An (fun (y75:(bif bif bif bif bif bif bif bif bif decide (costE b [2,4] [0,0,-1,-1]=0) then decide (givenE b [2,4] true=0) else false then decide (givenE b [2,4] (isCt b 1)=0) else false then decide (checkB b=0) else false then decide (openE b (isCt b 1)=0) else false then decide (twE b exD=0) else false then decide (costN b [2,4] [0,0,-1,-1]=39) else false then sameInts (billL b [2,4]) [-1,1,1,1] else false then decide (worthN b [2,4] 1=1) else false then decide ((owedN b).lo=26) && (decide ((owedN b).hi=29) && true) else false)=true)=>(An (Ak 1 tv) tv)) (An (fun (y76:(bif bif bif bif bif bif bif bif bif decide (costE b [2,4] [0,0,-1,-1]=0) then decide (givenE b [2,4] true=0) else false then decide (givenE b [2,4] (isCt b 1)=0) else false then decide (checkB b=0) else false then decide (openE b (isCt b 1)=0) else false then decide (twE b exD=0) else false then decide (costN b [2,4] [0,0,-1,-1]=39) else false then sameInts (billL b [2,4]) [-1,1,1,1] else false then decide (worthN b [2,4] 1=1) else false then decide ((owedN b).lo=26) && (decide ((owedN b).hi=29) && true) else false)=true)=>(An (An (fun (y77:(bif bif bif bif bif bif bif bif bif decide (costE b [2,4] [0,0,-1,-1]=0) then decide (givenE b [2,4] true=0) else false then decide (givenE b [2,4] (isCt b 1)=0) else false then decide (checkB b=0) else false then decide (openE b (isCt b 1)=0) else false then decide (twE b exD=0) else false then decide (costN b [2,4] [0,0,-1,-1]=39) else false then sameInts (billL b [2,4]) [-1,1,1,1] else false then decide (worthN b [2,4] 1=1) else false then decide ((owedN b).lo=26) && (decide ((owedN b).hi=29) && true) else false)=true)=>y76) (Ak 1 tv)) tv)) (An (An (fun (y78:(bif bif bif bif bif bif bif bif bif decide (costE b [2,4] [0,0,-1,-1]=0) then decide (givenE b [2,4] true=0) else false then decide (givenE b [2,4] (isCt b 1)=0) else false then decide (checkB b=0) else false then decide (openE b (isCt b 1)=0) else false then decide (twE b exD=0) else false then decide (costN b [2,4] [0,0,-1,-1]=39) else false then sameInts (billL b [2,4]) [-1,1,1,1] else false then decide (worthN b [2,4] 1=1) else false then decide ((owedN b).lo=26) && (decide ((owedN b).hi=29) && true) else false)=true)=>y78) (fun (y79:(bif bif bif bif bif bif bif bif bif decide (costE b [2,4] [0,0,-1,-1]=0) then decide (givenE b [2,4] true=0) else false then decide (givenE b [2,4] (isCt b 1)=0) else false then decide (checkB b=0) else false then decide (openE b (isCt b 1)=0) else false then decide (twE b exD=0) else false then decide (costN b [2,4] [0,0,-1,-1]=39) else false then sameInts (billL b [2,4]) [-1,1,1,1] else false then decide (worthN b [2,4] 1=1) else false then decide ((owedN b).lo=26) && (decide ((owedN b).hi=29) && true) else false)=false)=>tv)) (Ak 1 (An (fun (y80:(bif bif bif bif bif bif bif bif bif bif decide (costE b [2,4] [0,0,-1,-1]=0) then decide (givenE b [2,4] true=0) else false then decide (givenE b [2,4] (isCt b 1)=0) else false then decide (checkB b=0) else false then decide (openE b (isCt b 1)=0) else false then decide (twE b exD=0) else false then decide (costN b [2,4] [0,0,-1,-1]=39) else false then sameInts (billL b [2,4]) [-1,1,1,1] else false then decide (worthN b [2,4] 1=1) else false then decide ((owedN b).lo=26) && (decide ((owedN b).hi=29) && true) else false then decide (buyN b 1=1) else false)=true)=>(An (Ak 1 tv) tv)) (An (fun (y81:(bif bif bif bif bif bif bif bif bif bif decide (costE b [2,4] [0,0,-1,-1]=0) then decide (givenE b [2,4] true=0) else false then decide (givenE b [2,4] (isCt b 1)=0) else false then decide (checkB b=0) else false then decide (openE b (isCt b 1)=0) else false then decide (twE b exD=0) else false then decide (costN b [2,4] [0,0,-1,-1]=39) else false then sameInts (billL b [2,4]) [-1,1,1,1] else false then decide (worthN b [2,4] 1=1) else false then decide ((owedN b).lo=26) && (decide ((owedN b).hi=29) && true) else false then decide (buyN b 1=1) else false)=true)=>(An (Ak 2 tv) tv)) (An (fun (y82:(bif bif bif bif bif bif bif bif bif bif decide (costE b [2,4] [0,0,-1,-1]=0) then decide (givenE b [2,4] true=0) else false then decide (givenE b [2,4] (isCt b 1)=0) else false then decide (checkB b=0) else false then decide (openE b (isCt b 1)=0) else false then decide (twE b exD=0) else false then decide (costN b [2,4] [0,0,-1,-1]=39) else false then sameInts (billL b [2,4]) [-1,1,1,1] else false then decide (worthN b [2,4] 1=1) else false then decide ((owedN b).lo=26) && (decide ((owedN b).hi=29) && true) else false then decide (buyN b 1=1) else false)=true)=>(An (Ak 1 (An (fun (y83:(bif bif bif bif bif bif bif bif bif bif decide (costE b [2,4] [0,0,-1,-1]=0) then decide (givenE b [2,4] true=0) else false then decide (givenE b [2,4] (isCt b 1)=0) else false then decide (checkB b=0) else false then decide (openE b (isCt b 1)=0) else false then decide (twE b exD=0) else false then decide (costN b [2,4] [0,0,-1,-1]=39) else false then sameInts (billL b [2,4]) [-1,1,1,1] else false then decide (worthN b [2,4] 1=1) else false then decide ((owedN b).lo=26) && (decide ((owedN b).hi=29) && true) else false then decide (buyN b 1=1) else false)=true)=>y82) (An (fun (y84:(bif bif bif bif bif bif bif bif bif bif decide (costE b [2,4] [0,0,-1,-1]=0) then decide (givenE b [2,4] true=0) else false then decide (givenE b [2,4] (isCt b 1)=0) else false then decide (checkB b=0) else false then decide (openE b (isCt b 1)=0) else false then decide (twE b exD=0) else false then decide (costN b [2,4] [0,0,-1,-1]=39) else false then sameInts (billL b [2,4]) [-1,1,1,1] else false then decide (worthN b [2,4] 1=1) else false then decide ((owedN b).lo=26) && (decide ((owedN b).hi=29) && true) else false then decide (buyN b 1=1) else false)=true)=>y82) tv))) (An (An (An (zr 1) (An (zr (twL b exD).length) (fun (i85:Nat)=>(fun (y86:i85 < (twL b exD).length)=>(zr ([iv ((twL b exD).getD i85 0)])))))) (An (An (zr 1) (An (zr 2) (fun (i87:Nat)=>(fun (y88:i87 < List.length [2,3])=>(o13 hpre y82 i87 y88))))) tv)) (An (t25 (twL b exD) ([2,3])) (An (o14 hpre y82) (Ak 1 (fun (i89:Env)=>tv))))))) (An (An (fun (y90:(bif bif bif bif bif bif bif bif bif bif decide (costE b [2,4] [0,0,-1,-1]=0) then decide (givenE b [2,4] true=0) else false then decide (givenE b [2,4] (isCt b 1)=0) else false then decide (checkB b=0) else false then decide (openE b (isCt b 1)=0) else false then decide (twE b exD=0) else false then decide (costN b [2,4] [0,0,-1,-1]=39) else false then sameInts (billL b [2,4]) [-1,1,1,1] else false then decide (worthN b [2,4] 1=1) else false then decide ((owedN b).lo=26) && (decide ((owedN b).hi=29) && true) else false then decide (buyN b 1=1) else false)=true)=>y90) (fun (y91:(bif bif bif bif bif bif bif bif bif bif decide (costE b [2,4] [0,0,-1,-1]=0) then decide (givenE b [2,4] true=0) else false then decide (givenE b [2,4] (isCt b 1)=0) else false then decide (checkB b=0) else false then decide (openE b (isCt b 1)=0) else false then decide (twE b exD=0) else false then decide (costN b [2,4] [0,0,-1,-1]=39) else false then sameInts (billL b [2,4]) [-1,1,1,1] else false then decide (worthN b [2,4] 1=1) else false then decide ((owedN b).lo=26) && (decide ((owedN b).hi=29) && true) else false then decide (buyN b 1=1) else false)=false)=>tv)) (Ak 1 tv)))))))))))))))))))))))))))))))))))))))))))))))) ?_
 refine swp_ret ?_
 exact zT [] (An (Ak 1 tv) (An (An (cb (o15 hpre)) (zr nilN)) (An (zr true) (An (zr true) (zr true)))))
set_option maxRecDepth 4000
theorem x8_cost:costE exB [2,4] [0,0,-1,-1]=0/\costN exB [2,4] [0,0,-1,-1]=39:=by decide +kernel
theorem x8_bill:givenE exB [2,4] true=0/\billL exB [2,4] = [-1,1,1,1]:=by decide +kernel
theorem x8_worth:givenE exB [2,4] (isCt exB 1)=0/\worthN exB [2,4] 1=1:=by decide +kernel
theorem x8_owed:checkB exB=0/\(owedN exB).lo=26/\(owedN exB).hi=29:=by decide +kernel
theorem x8_buy:openE exB (isCt exB 1)=0/\buyN exB 1=1:=by decide +kernel
theorem x8_twice:twE exB exD=0/\twL exB exD = [2,3]:=by decide +kernel
theorem two_get (x y:Int):∀ i,i < [x,y].length->List.getD [[iv x],[iv y]] i (TI.za ti3) = [iv ([x,y].getD i 0)]:=by
 intro i hi
 have:i=0 ∨ i=1:=by simp at hi; omega
 rcases this with rfl | rfl <;> rfl
theorem four_get (x y z t:Int):∀ i,i < [x,y,z,t].length->List.getD [[iv x],[iv y],[iv z],[iv t]] i (TI.za ti3) = [iv ([x,y,z,t].getD i 0)]:=by
 intro i hi
 have:i=0 ∨ i=1 ∨ i=2 ∨ i=3:=by simp at hi; omega
 rcases this with rfl | rfl | rfl | rfl <;> rfl
theorem small_exB:smallB exB:=by unfold smallB; decide
theorem tw15 (b:Book):Triple Try.prog 15 (sw15 b):=by
 apply w15
 all_goals (try delta q5m q5n)
 all_goals (rintro rfl)
 case o0 | o3 | o5=>all_goals exact two_get 2 4
 case o1=>exact four_get 0 0 (-1) (-1)
 case o9 =>
  intro i hi
  have:i=0 ∨ i=1 ∨ i=2 ∨ i=3:=by simp [exD] at hi; omega
  rcases this with rfl | rfl | rfl | rfl <;> rfl
 case o11=>intro _; exact four_get (-1) 1 1 1
 case o13=>intro _; exact two_get 2 3
 all_goals (first | exact small_exB | skip)
 all_goals (
  obtain ⟨a1,a2⟩:=x8_cost
  obtain ⟨b1,b2⟩:=x8_bill
  obtain ⟨c1,c2⟩:=x8_worth
  obtain ⟨d1,d2,d3⟩:=x8_owed
  obtain ⟨e1,e2⟩:=x8_buy
  obtain ⟨g1,g2⟩:=x8_twice
  try simp only [a1,a2,b1,b2,c1,c2,d1,d2,d3,e1,e2,g1,g2]
  intros; first | rfl | decide)
theorem t15:Triple Try.prog 15 s15:=⟨(tw15 exB).1,fun _=>(tw15 exB).2 rfl⟩
theorem not_huge {b:Book} (h:hugeB b=false):smallB b:=by
 unfold hugeB at h
 simp only [Bool.or_eq_false_iff,decide_eq_false_iff_not] at h
 exact ⟨by omega,by omega,by omega⟩
theorem chk_zero {b:Book} (h:okBook b=true):checkB b=0:=by unfold checkB; rw [h]; rfl
end Go.Ab
namespace Go.Sh
open Go.Ab
def allO (b:Book) (l:List Sday):List Sday:=keptTo b l l.length ++ missB b l
def cntAt (l:List Sday) (x:Sday) (j:Nat):Nat:=(l.take j).count x
end Go.Sh
namespace Go.Ab
open Go Go.RowKit Go.Proofs Go.Sh Go.En
def s7 (b:Book) (l:List Sday):CallSpec:={ args:=[vBk b,aDays l],res:=bv true,pre:=fitsB b/\l.length<=big }
def c7t (b:Book) (l:List Sday):CallSpec:=s26 b l
def c7m (b:Book) (l:List Sday):CallSpec:=s28 b l
def h7a (b:Book) (l:List Sday):Hint:={ X:=Nat,M:=fun i=>[(9,.vec 5000),(10,iv i)],H:=fun i=>[(5000,rowS (keptTo b l i))],I:=fun i=>i<=l.length,mu:=fun i=>l.length - i,x0:=(0:Nat),nx:=fun i=>i + 1 }
def h7b (b:Book) (l:List Sday):Hint:={ X:=Nat,M:=fun i=>[(13,iv i)],I:=fun i=>i<=(stds b).length,mu:=fun i=>(stds b).length - i,x0:=(0:Nat),nx:=fun i=>i + 1 }
def h7c (b:Book) (l:List Sday) (i:Nat):Hint:={ X:=Nat,M:=fun j=>[(14,iv (cntAt (allO b l) (sdA b i) j)),(15,iv j)],I:=fun j=>j<=(allO b l).length,mu:=fun j=>(allO b l).length - j,x0:=(0:Nat),nx:=fun j=>j + 1 }
def h8 (b:Book) (ls:List Int) (c:Int):Hint:={ X:=Nat,M:=fun i=>[(10,.vec 5000),(11,.vec 5001),(12,iv i)],H:=fun i=>[(5000,rowZ ((lowsB b).take i)),(5001,rowZ ((highsB b).take i))],I:=fun i=>i<=b.lines.length,mu:=fun i=>b.lines.length - i,x0:=(0:Nat),nx:=fun i=>i + 1 }
end Go.Ab
namespace Go.Sh
open Go.Ab
def dearTo (b:Book) (t:Int) (i j:Nat):Ctr:=if j < i then dearC t (ctB b j) else ctB b j
end Go.Sh
namespace Go.Ab
open Go Go.RowKit Go.Proofs Go.Sh Go.En
def s3 (b:Book) (ls l:List Int):CallSpec:={ args:=[vBk b,aInts ls,aInts l],res:=bv true,pre:=fitsB b/\ls.length<=big/\l.length<=big }
def e3 (b:Book) (ls l:List Int):List (Nat × OB):=[(176,.cells 26 (cBk b))]
def e4 (b:Book) (l:List Sday):List (Nat × OB):=[(112,.cells 26 (cBk b))]
def e5 (b:Book) (ls:List Int):List (Nat × OB):=[(10096,.cells 26 (cBk (withC b [])))]
def h6 (b:Book) (ls:List Int) (x:DearX):Hint:={ X:=Nat,M:=fun i=>[(8,iv i)],H:=fun i=>[(114,.vec 53 4 b.ctrs.length (fun j=>cCtr (dearTo b x.times i j)))],I:=fun i=>i<=b.ctrs.length,mu:=fun i=>b.ctrs.length - i,x0:=(0:Nat),nx:=fun i=>i + 1 }
def e6 (b:Book) (ls:List Int) (x:DearX):List (Nat × OB):=[(120,.cells 26 (cBk (dearB b x.times)))]
end Go.Ab
namespace Go.Ab
open Go Go.RowKit Go.Proofs Go.Sh Go.En
theorem cond2 {p q r:Bool} (h:(bif bif p then true else q then true else r)=false):p=false/\q=false/\r=false:=by cases p <;> cases q <;> cases r <;> simp_all
theorem big_ge:100000<=big:=by decide
end Go.Ab
namespace Go.Ab
open Go Go.RowKit Go.Proofs Go.Sh Go.En
theorem rising_of {l:List Int} {lo hi:Int} (h:l.Pairwise (· < ·)) (hb:∀ x,x ∈ l->lo<=x/\x<=hi):rising l lo hi=true:=by
 unfold rising
 rw [List.all_eq_true]
 intro i hi2
 have hi2:=List.mem_range.1 hi2
 unfold risAt
 rw [Go.Sh.within_iff.2 (hb _ (getD_mem l 0 hi2)),Bool.true_and]
 by_cases h0:0 < i
 ·have h1:=List.pairwise_iff_getElem.1 h (i - 1) i (by omega) hi2 (by omega)
  rw [← getD_lt l 0 (by omega),← getD_lt l 0 hi2] at h1
  rw [decide_eq_false (show ¬ l.getD i 0<=l.getD (i - 1) 0 by omega)]; simp
 ·rw [decide_eq_false (show ¬ (i:Int) > 0 by omega)]; rfl
theorem kept_t {b:Book} {l:List Sday} {n:Nat} (h:twiceAt b l n=true):keptTo b l (n + 1)=keptTo b l n:=by rw [kept_succ,if_pos h,List.append_nil]
theorem kept_f {b:Book} {l:List Sday} {n:Nat} (h:twiceAt b l n=false):keptTo b l (n + 1)=keptTo b l n ++ [l.getD n default]:=by rw [kept_succ,if_neg (by rw [h]; exact Bool.false_ne_true)]
theorem kept_len (b:Book) (l:List Sday) (n:Nat):(keptTo b l n).length<=n:=by
 unfold keptTo; exact Nat.le_trans (List.length_filterMap_le _ _) (by rw [List.length_range]; omega)
theorem isIn_twice {b:Book} {l:List Sday} {i:Nat} (h:i < l.length):isIn (twiceB b l) i=twiceAt b l i:=by
 rw [Bool.eq_iff_iff,isIn_iff8]; exact twice_mem h
theorem all_len (b:Book) (l:List Sday):(allO b l).length=(stds b).length:=(once_perm l).length_eq
theorem cnt_one {b:Book} {l:List Sday} {i:Nat} (h:i < (stds b).length):cntAt (allO b l) (sdA b i) (allO b l).length=1:=by
 unfold cntAt
 rw [List.take_length]
 unfold allO
 rw [(once_perm l).count_eq]
 exact List.Nodup.count (std_nodup) |>.trans (if_pos (getD_mem _ _ h))
theorem cnt_step {l:List Sday} {x:Sday} {j:Nat} (h:j < l.length):cntAt l x (j + 1)=cntAt l x j + if decide (l.getD j default=x) then 1 else 0:=by
 unfold cntAt
 rw [take_succ _ default h,List.count_append,List.count_singleton]
 congr 1
theorem cnt_le (l:List Sday) (x:Sday) (j:Nat):cntAt l x j<=j:=by
 unfold cntAt; exact Nat.le_trans List.count_le_length (by rw [List.length_take]; omega)
abbrev q5o (b:Book) (l:List Sday) (P:Prop):Prop:=fitsB b/\l.length<=big->P
abbrev q5p (b:Book) (l:List Sday) (P:Prop):Prop:=q5o b l ((bif bif hugeB b then true else !decide (checkB b=0) then true else decide (20 < (↑(l.length):Int)))=false->P)
abbrev q5q (b:Book) (l:List Sday) (P:Prop):Prop:=q5p b l ((bif bif bif !decide (twE b l=0) then true else !decide (twE b l=0) then true else !rising (twL b l) 0 ((↑(l.length):Int) - 1) then true else decide (6 < (↑((msL b l).length):Int)))=false->P)
abbrev q5r (l:List Sday) (x53:Nat) (P:Prop):Prop:=x53<=l.length->P
abbrev q5s (l:List Sday) (x53:Nat) (P:Prop):Prop:=q5r l x53 (decide ((x53:Int) < (↑(l.length):Int))=true->P)
abbrev q5t (b:Book) (l:List Sday) (x53:Nat) (P:Prop):Prop:=q5s l x53 ((!isIn (twL b l) (x53:Int))=true->P)
abbrev q5u (b:Book) (l:List Sday) (x53:Nat) (P:Prop):Prop:=q5s l x53 ((!isIn (twL b l) (x53:Int))=false->P)
abbrev q5v (l:List Sday) (x53:Nat) (P:Prop):Prop:=q5r l x53 (decide ((x53:Int) < (↑(l.length):Int))=false->P)
abbrev q5w (b:Book) (l:List Sday) (x53:Nat) (P:Prop):Prop:=q5v l x53 ((bif bif !decide (checkB b=0) then true else !decide ((↑((allO b l).length):Int)=(↑((if okBook b=true then stds b else []).length):Int)) then true else decide (6 < (↑((if okBook b=true then stds b else []).length):Int)))=false->P)
abbrev q5x (b:Book) (x83:Nat) (P:Prop):Prop:=x83<=(stds b).length->decide ((x83:Int) < (↑((if okBook b=true then stds b else []).length):Int))=true->P
abbrev q5y (b:Book) (l:List Sday) (x85:Nat) (P:Prop):Prop:=x85<=(allO b l).length->P
abbrev q5z (b:Book) (l:List Sday) (x85:Nat) (P:Prop):Prop:=q5y b l x85 (decide ((x85:Int) < (↑((allO b l).length):Int))=true->P)
abbrev q60 (b:Book) (l:List Sday) (x83:Nat) (x85:Nat) (P:Prop):Prop:=q5z b l x85 ((decide (((allO b l).getD x85 default).ad=((if okBook b=true then stds b else []).getD x83 default).ad) && (decide (((allO b l).getD x85 default).day=((if okBook b=true then stds b else []).getD x83 default).day) && true))=true->P)
abbrev q61 (b:Book) (l:List Sday) (x83:Nat) (x85:Nat) (P:Prop):Prop:=q5z b l x85 ((decide (((allO b l).getD x85 default).ad=((if okBook b=true then stds b else []).getD x83 default).ad) && (decide (((allO b l).getD x85 default).day=((if okBook b=true then stds b else []).getD x83 default).day) && true))=false->P)
abbrev q62 (b:Book) (l:List Sday) (x85:Nat) (P:Prop):Prop:=q5y b l x85 (decide ((x85:Int) < (↑((allO b l).length):Int))=false->P)
abbrev q63 (b:Book) (l:List Sday) (x83:Nat) (x85:Nat) (P:Prop):Prop:=q62 b l x85 ((!!decide ((↑(cntAt (allO b l) (sdA b x83) x85):Int)=1))=true->P)
abbrev q64 (b:Book) (l:List Sday) (x83:Nat) (x85:Nat) (P:Prop):Prop:=q62 b l x85 ((bif !decide ((↑(cntAt (allO b l) (sdA b x83) x85):Int)=1) then true else !stoodB b ((if okBook b=true then stds b else []).getD x83 default).ad ((if okBook b=true then stds b else []).getD x83 default).day)=false->P)
theorem w7 (b:Book) (l:List Sday)
 (o0:q5o b l (hugeB b=false->(!hugeB b)=true))
 (o1:q5o b l ((bif hugeB b then true else !decide (checkB b=0))=false->(!bif hugeB b then true else !decide (checkB b=0))=true))
 (o2:q5p b l (0 + l.length<=65536))
 (o3:q5p b l (0 + l.length=l.length))
 (o4:q5p b l (smallB b))
 (o5:q5p b l (l.length<=60000))
 (o6:q5p b l (0 + l.length<=65536))
 (o7:q5p b l (0 + l.length=l.length))
 (o8:q5p b l (smallB b))
 (o9:q5p b l (l.length<=60000))
 (o10:q5p b l ((!decide (twE b l=0))=false->(!!decide (twE b l=0))=true))
 (o11:q5p b l ((!bif !decide (twE b l=0) then true else !decide (twE b l=0))=true->inI ((↑(l.length):Int) - 1)))
 (o12:q5p b l ((!bif !decide (twE b l=0) then true else !decide (twE b l=0))=true->(twL b l).length<=big))
 (o13:q5p b l ((bif !decide (twE b l=0) then true else !decide (twE b l=0))=false->(!bif !decide (twE b l=0) then true else !decide (twE b l=0))=true))
 (o14:q5p b l ((bif bif !decide (twE b l=0) then true else !decide (twE b l=0) then true else !rising (twL b l) 0 ((↑(l.length):Int) - 1))=false->(!bif bif !decide (twE b l=0) then true else !decide (twE b l=0) then true else !rising (twL b l) 0 ((↑(l.length):Int) - 1))=true))
 (o15:q5p b l ((bif bif bif !decide (twE b l=0) then true else !decide (twE b l=0) then true else !rising (twL b l) 0 ((↑(l.length):Int) - 1) then true else decide (6 < (↑((msL b l).length):Int)))=true->false=true))
 (o16:q5q b l (0=(↑0:Int)))
 (o17:q5q b l ((keptTo b l 0).length=0))
 (o18:q5q b l (0<=l.length))
 (o19:q5q b l (∀ (x53:Nat),q5s l x53 ((twL b l).length<=big)))
 (o20:q5q b l (∀ (x53:Nat),q5t b l x53 (0<=(x53:Int))))
 (o21:q5q b l (∀ (x53:Nat),q5t b l x53 ((x53:Int) < (↑(l.length):Int))))
 (o22:q5q b l (∀ (x53:Nat),q5t b l x53 ((keptTo b l x53).length + 1<=65536)))
 (o23:q5q b l (∀ (x53:Nat),q5t b l x53 (inI ((x53:Int) + 1))))
 (o24:q5q b l (∀ (x53:Nat),q5t b l x53 ((x53:Int) + 1=(↑(x53 + 1):Int))))
 (o25:q5q b l (∀ (x53:Nat),q5t b l x53 ((keptTo b l x53).length + 1=(keptTo b l (x53 + 1)).length)))
 (o26:q5q b l (∀ (x53:Nat),q5t b l x53 (∀ (i57:Nat),i57 < (keptTo b l x53).length + 1->catF (keptTo b l x53).length (fun (i:Nat)=>cSday ((keptTo b l x53).getD i default)) (fun (j:Nat)=>List.getD [[iv (l.getD x53 default).ad,iv (l.getD x53 default).day]] j (TI.za ti61)) i57=cSday ((keptTo b l (x53 + 1)).getD i57 default))))
 (o27:q5q b l (∀ (x53:Nat),q5t b l x53 (x53 + 1<=l.length)))
 (o28:q5q b l (∀ (x53:Nat),q5t b l x53 (l.length - (x53 + 1) < l.length - x53)))
 (o29:q5q b l (∀ (x53:Nat),q5u b l x53 (inI ((x53:Int) + 1))))
 (o30:q5q b l (∀ (x53:Nat),q5u b l x53 ((x53:Int) + 1=(↑(x53 + 1):Int))))
 (o31:q5q b l (∀ (x53:Nat),q5u b l x53 ((keptTo b l x53).length=(keptTo b l (x53 + 1)).length)))
 (o32:q5q b l (∀ (x53:Nat),q5u b l x53 (∀ (i59:Nat),i59 < (keptTo b l x53).length->cSday ((keptTo b l x53).getD i59 default)=cSday ((keptTo b l (x53 + 1)).getD i59 default))))
 (o33:q5q b l (∀ (x53:Nat),q5u b l x53 (x53 + 1<=l.length)))
 (o34:q5q b l (∀ (x53:Nat),q5u b l x53 (l.length - (x53 + 1) < l.length - x53)))
 (o35:q5q b l (∀ (x53:Nat),q5v l x53 ((keptTo b l x53).length + (msL b l).length<=65536)))
 (o36:q5q b l (∀ (x53:Nat),q5v l x53 ((keptTo b l x53).length + (msL b l).length=(allO b l).length)))
 (o37:q5q b l (∀ (x53:Nat),q5v l x53 (∀ (i61:Nat),i61 < (keptTo b l x53).length + (msL b l).length->catF (keptTo b l x53).length (fun (i:Nat)=>cSday ((keptTo b l x53).getD i default)) (fun (i:Nat)=>cSday ((msL b l).getD i default)) i61=cSday ((allO b l).getD i61 default))))
 (o38:q5q b l (∀ (x53:Nat),q5v l x53 (smallB b)))
 (o39:q5q b l (∀ (x53:Nat),q5v l x53 ((!decide (checkB b=0))=false->(!!decide (checkB b=0))=true)))
 (o40:q5q b l (∀ (x53:Nat),q5v l x53 ((bif !decide (checkB b=0) then true else !decide ((↑((allO b l).length):Int)=(↑((if okBook b=true then stds b else []).length):Int)))=false->(!bif !decide (checkB b=0) then true else !decide ((↑((allO b l).length):Int)=(↑((if okBook b=true then stds b else []).length):Int)))=true)))
 (o41:q5q b l (∀ (x53:Nat),q5v l x53 ((bif bif !decide (checkB b=0) then true else !decide ((↑((allO b l).length):Int)=(↑((if okBook b=true then stds b else []).length):Int)) then true else decide (6 < (↑((if okBook b=true then stds b else []).length):Int)))=true->false=true)))
 (o42:q5q b l (∀ (x53:Nat),q5w b l x53 (0=(↑0:Int))))
 (o43:q5q b l (∀ (x53:Nat),q5w b l x53 (0<=(stds b).length)))
 (o44:q5q b l (∀ (x53:Nat),q5w b l x53 (∀ (x83:Nat),q5x b x83 (0=(↑(cntAt (allO b l) (sdA b x83) 0):Int)))))
 (o45:q5q b l (∀ (x53:Nat),q5w b l x53 (∀ (x83:Nat),q5x b x83 (0=(↑0:Int)))))
 (o46:q5q b l (∀ (x53:Nat),q5w b l x53 (∀ (x83:Nat),q5x b x83 (0<=(allO b l).length))))
 (o47:q5q b l (∀ (x53:Nat),q5w b l x53 (∀ (x83:Nat),q5x b x83 (∀ (x85:Nat),q5z b l x85 (0<=(x85:Int))))))
 (o48:q5q b l (∀ (x53:Nat),q5w b l x53 (∀ (x83:Nat),q5x b x83 (∀ (x85:Nat),q5z b l x85 ((x85:Int) < (↑((allO b l).length):Int))))))
 (o49:q5q b l (∀ (x53:Nat),q5w b l x53 (∀ (x83:Nat),q5x b x83 (∀ (x85:Nat),q5z b l x85 (x85 < (allO b l).length)))))
 (o50:q5q b l (∀ (x53:Nat),q5w b l x53 (∀ (x83:Nat),q5x b x83 (∀ (x85:Nat),q5z b l x85 (0<=(x83:Int))))))
 (o51:q5q b l (∀ (x53:Nat),q5w b l x53 (∀ (x83:Nat),q5x b x83 (∀ (x85:Nat),q5z b l x85 ((x83:Int) < (↑((if okBook b=true then stds b else []).length):Int))))))
 (o52:q5q b l (∀ (x53:Nat),q5w b l x53 (∀ (x83:Nat),q5x b x83 (∀ (x85:Nat),q60 b l x83 x85 (inI ((↑(cntAt (allO b l) (sdA b x83) x85):Int) + 1))))))
 (o53:q5q b l (∀ (x53:Nat),q5w b l x53 (∀ (x83:Nat),q5x b x83 (∀ (x85:Nat),q60 b l x83 x85 (inI ((x85:Int) + 1))))))
 (o54:q5q b l (∀ (x53:Nat),q5w b l x53 (∀ (x83:Nat),q5x b x83 (∀ (x85:Nat),q60 b l x83 x85 ((↑(cntAt (allO b l) (sdA b x83) x85):Int) + 1=(↑(cntAt (allO b l) (sdA b x83) (x85 + 1)):Int))))))
 (o55:q5q b l (∀ (x53:Nat),q5w b l x53 (∀ (x83:Nat),q5x b x83 (∀ (x85:Nat),q60 b l x83 x85 ((x85:Int) + 1=(↑(x85 + 1):Int))))))
 (o56:q5q b l (∀ (x53:Nat),q5w b l x53 (∀ (x83:Nat),q5x b x83 (∀ (x85:Nat),q60 b l x83 x85 (x85 + 1<=(allO b l).length)))))
 (o57:q5q b l (∀ (x53:Nat),q5w b l x53 (∀ (x83:Nat),q5x b x83 (∀ (x85:Nat),q60 b l x83 x85 ((allO b l).length - (x85 + 1) < (allO b l).length - x85)))))
 (o58:q5q b l (∀ (x53:Nat),q5w b l x53 (∀ (x83:Nat),q5x b x83 (∀ (x85:Nat),q61 b l x83 x85 (inI ((x85:Int) + 1))))))
 (o59:q5q b l (∀ (x53:Nat),q5w b l x53 (∀ (x83:Nat),q5x b x83 (∀ (x85:Nat),q61 b l x83 x85 ((↑(cntAt (allO b l) (sdA b x83) x85):Int)=(↑(cntAt (allO b l) (sdA b x83) (x85 + 1)):Int))))))
 (o60:q5q b l (∀ (x53:Nat),q5w b l x53 (∀ (x83:Nat),q5x b x83 (∀ (x85:Nat),q61 b l x83 x85 ((x85:Int) + 1=(↑(x85 + 1):Int))))))
 (o61:q5q b l (∀ (x53:Nat),q5w b l x53 (∀ (x83:Nat),q5x b x83 (∀ (x85:Nat),q61 b l x83 x85 (x85 + 1<=(allO b l).length)))))
 (o62:q5q b l (∀ (x53:Nat),q5w b l x53 (∀ (x83:Nat),q5x b x83 (∀ (x85:Nat),q61 b l x83 x85 ((allO b l).length - (x85 + 1) < (allO b l).length - x85)))))
 (o63:q5q b l (∀ (x53:Nat),q5w b l x53 (∀ (x83:Nat),q5x b x83 (∀ (x85:Nat),q63 b l x83 x85 (0<=(x83:Int))))))
 (o64:q5q b l (∀ (x53:Nat),q5w b l x53 (∀ (x83:Nat),q5x b x83 (∀ (x85:Nat),q63 b l x83 x85 ((x83:Int) < (↑((if okBook b=true then stds b else []).length):Int))))))
 (o65:q5q b l (∀ (x53:Nat),q5w b l x53 (∀ (x83:Nat),q5x b x83 (∀ (x85:Nat),q63 b l x83 x85 (0<=(x83:Int))))))
 (o66:q5q b l (∀ (x53:Nat),q5w b l x53 (∀ (x83:Nat),q5x b x83 (∀ (x85:Nat),q63 b l x83 x85 ((x83:Int) < (↑((if okBook b=true then stds b else []).length):Int))))))
 (o67:q5q b l (∀ (x53:Nat),q5w b l x53 (∀ (x83:Nat),q5x b x83 (∀ (x85:Nat),q62 b l x85 ((!decide ((↑(cntAt (allO b l) (sdA b x83) x85):Int)=1))=false->(!!decide ((↑(cntAt (allO b l) (sdA b x83) x85):Int)=1))=true)))))
 (o68:q5q b l (∀ (x53:Nat),q5w b l x53 (∀ (x83:Nat),q5x b x83 (∀ (x85:Nat),q62 b l x85 ((bif !decide ((↑(cntAt (allO b l) (sdA b x83) x85):Int)=1) then true else !stoodB b ((if okBook b=true then stds b else []).getD x83 default).ad ((if okBook b=true then stds b else []).getD x83 default).day)=true->false=true)))))
 (o69:q5q b l (∀ (x53:Nat),q5w b l x53 (∀ (x83:Nat),q5x b x83 (∀ (x85:Nat),q64 b l x83 x85 (inI ((x83:Int) + 1))))))
 (o70:q5q b l (∀ (x53:Nat),q5w b l x53 (∀ (x83:Nat),q5x b x83 (∀ (x85:Nat),q64 b l x83 x85 ((x83:Int) + 1=(↑(x83 + 1):Int))))))
 (o71:q5q b l (∀ (x53:Nat),q5w b l x53 (∀ (x83:Nat),q5x b x83 (∀ (x85:Nat),q64 b l x83 x85 (x83 + 1<=(stds b).length)))))
 (o72:q5q b l (∀ (x53:Nat),q5w b l x53 (∀ (x83:Nat),q5x b x83 (∀ (x85:Nat),q64 b l x83 x85 ((stds b).length - (x83 + 1) < (stds b).length - x83))))) :
  Triple Try.prog 7 (s7 b l):=by
 refine triple_of Try.func7 rfl Try.call7 T0_ok _ rfl rfl rfl rfl (Nat.le_of_ble_eq_true (by kernel_rfl)) (fun _ _ _ _ h=>h) ?_
 intro hpre C hC _ hE
 obtain ⟨P,w0,E0,av,hA,ro,df⟩:=C
 obtain ⟨rfl,rfl,rfl⟩:=hC
 refine swp_seq ?_
 refine zR [1,2] [0] (Ak 2 tv) ?_
 refine swp_seq ?_
 refine swp_seq ?_
 refine zC ([(1,CallSpec.eq (s14 b) [true]),(4,CallSpec.eq (s18 b) [true])]) [1,2,27] [0] (Ak 1 (An (An (An (zr (AV.agg (cBk b))) tv) (An (t14 (b)) (An hpre.1 (Ak 1 (fun (i0:Env)=>tv))))) (Ak 1 (An (fun (y1:(!hugeB b)=true)=>(An (Ak 1 tv) tv)) (An (fun (y2:(!hugeB b)=true)=>(An (Ak 1 (An (fun (y3:(!hugeB b)=true)=>y2) tv)) (An (An (zr (AV.agg (cBk b))) tv) (An (t18 (b)) (An hpre.1 (Ak 1 (fun (i4:Env)=>tv))))))) (An (fun (y5:(!hugeB b)=true)=>(An (An (fun (y6:(!hugeB b)=true)=>y5) (Ak 1 tv)) tv)) (An (An (fun (y7:hugeB b=true)=>tv) (fun (y8:hugeB b=false)=>(o0 hpre y8))) (Ak 1 (An (fun (y9:(!bif hugeB b then true else !decide (checkB b=0))=true)=>(An (Ak 1 tv) tv)) (An (fun (y10:(!bif hugeB b then true else !decide (checkB b=0))=true)=>(An (An (fun (y11:(!bif hugeB b then true else !decide (checkB b=0))=true)=>y10) tv) tv)) (An (fun (y12:(!bif hugeB b then true else !decide (checkB b=0))=true)=>(An (An (fun (y13:(!bif hugeB b then true else !decide (checkB b=0))=true)=>y12) (Ak 1 tv)) tv)) (An (An (fun (y14:(bif hugeB b then true else !decide (checkB b=0))=true)=>tv) (fun (y15:(bif hugeB b then true else !decide (checkB b=0))=false)=>(o1 hpre y15))) tv)))))))))))) ?_
 refine zI (bif bif hugeB b then true else !decide (checkB b=0) then true else decide (20 < (↑(l.length):Int))) (fun y16 => ?_) (fun y16 => ?_)
 ·refine swp_seq ?_
  refine zC ([(0,CallSpec.eq s15 [])]) [4] [] (An (Ak 1 (An (t15) (Ak 2 (fun (i17:Env)=>tv)))) (Ak 1 tv)) ?_
  refine swp_ret ?_
  exact zT [] (An (Ak 1 tv) (An (An (zr (bv true)) (zr nilN)) (An (zr true) (An (zr true) (zr true)))))
 ·refine swp_skip ?_
  refine swp_seq ?_
  refine zC ([(4,CallSpec.eq (c7t b l) [true,false])]) [1,2,5,6] [0] (Ak 3 (An (o2 hpre y16) (An (An (An (zr (AV.agg (cBk b))) (An (An (zr 2) (An (o3 hpre y16) (fun (i18:Nat)=>(fun (y19:i18 < l.length)=>(zr (cSday (l.getD i18 default))))))) tv)) (An (t26 (b) (l)) (An (An (o4 hpre y16) (o5 hpre y16)) (Ak 1 (fun (i20:Env)=>tv))))) (Ak 5 tv)))) ?_
  refine swp_seq ?_
  refine zC ([(4,CallSpec.eq (c7m b l) [true,false])]) [1,2,5,6,7,8] [0] (Ak 3 (An (o6 hpre y16) (An (An (An (zr (AV.agg (cBk b))) (An (An (zr 2) (An (o7 hpre y16) (fun (i21:Nat)=>(fun (y22:i21 < l.length)=>(zr (cSday (l.getD i21 default))))))) tv)) (An (t28 (b) (l)) (An (An (o8 hpre y16) (o9 hpre y16)) (Ak 1 (fun (i23:Env)=>tv))))) (Ak 5 tv)))) ?_
  refine swp_seq ?_
  refine swp_seq ?_
  refine zC ([(11,CallSpec.eq (s38 (twL b l) 0 ((↑(l.length):Int) - 1)) [false,true,true])]) [1,2,5,7,63] [0] (Ak 3 (An (fun (y24:(!!decide (twE b l=0))=true)=>(An (Ak 1 tv) tv)) (An (fun (y25:(!!decide (twE b l=0))=true)=>(An (An (fun (y26:(!!decide (twE b l=0))=true)=>y25) (Ak 1 tv)) tv)) (An (An (fun (y27:(!decide (twE b l=0))=true)=>tv) (fun (y28:(!decide (twE b l=0))=false)=>(o10 hpre y16 y28))) (Ak 1 (An (fun (y29:(!bif !decide (twE b l=0) then true else !decide (twE b l=0))=true)=>(An (Ak 1 tv) tv)) (An (fun (y30:(!bif !decide (twE b l=0) then true else !decide (twE b l=0))=true)=>(An (Ak 1 tv) tv)) (An (fun (y31:(!bif !decide (twE b l=0) then true else !decide (twE b l=0))=true)=>(An (An (fun (y32:(!bif !decide (twE b l=0) then true else !decide (twE b l=0))=true)=>y31) tv) tv)) (An (fun (y33:(!bif !decide (twE b l=0) then true else !decide (twE b l=0))=true)=>(An (An (fun (y34:(!bif !decide (twE b l=0) then true else !decide (twE b l=0))=true)=>y33) (Ak 1 tv)) (o11 hpre y16 y33))) (An (fun (y35:(!bif !decide (twE b l=0) then true else !decide (twE b l=0))=true)=>(An (Ak 1 (An (fun (y36:(!bif !decide (twE b l=0) then true else !decide (twE b l=0))=true)=>y35) (Ak 1 (An (fun (y37:(!bif !decide (twE b l=0) then true else !decide (twE b l=0))=true)=>y35) tv)))) (An (An (An (zr 1) (An (zr (twL b l).length) (fun (i38:Nat)=>(fun (y39:i38 < (twL b l).length)=>(zr ([iv ((twL b l).getD i38 0)])))))) (An (zr (iv 0)) (An (zr (iv ((↑(l.length):Int) - 1))) tv))) (An (t38 (twL b l) (0) ((↑(l.length):Int) - 1)) (An (o12 hpre y16 y35) (Ak 1 (fun (i40:Env)=>tv))))))) (An (fun (y41:(!bif !decide (twE b l=0) then true else !decide (twE b l=0))=true)=>(An (An (fun (y42:(!bif !decide (twE b l=0) then true else !decide (twE b l=0))=true)=>y41) tv) tv)) (An (An (fun (y43:(bif !decide (twE b l=0) then true else !decide (twE b l=0))=true)=>tv) (fun (y44:(bif !decide (twE b l=0) then true else !decide (twE b l=0))=false)=>(o13 hpre y16 y44))) (Ak 1 (An (fun (y45:(!bif bif !decide (twE b l=0) then true else !decide (twE b l=0) then true else !rising (twL b l) 0 ((↑(l.length):Int) - 1))=true)=>(An (Ak 1 tv) tv)) (An (fun (y46:(!bif bif !decide (twE b l=0) then true else !decide (twE b l=0) then true else !rising (twL b l) 0 ((↑(l.length):Int) - 1))=true)=>(An (An (fun (y47:(!bif bif !decide (twE b l=0) then true else !decide (twE b l=0) then true else !rising (twL b l) 0 ((↑(l.length):Int) - 1))=true)=>y46) tv) tv)) (An (fun (y48:(!bif bif !decide (twE b l=0) then true else !decide (twE b l=0) then true else !rising (twL b l) 0 ((↑(l.length):Int) - 1))=true)=>(An (An (fun (y49:(!bif bif !decide (twE b l=0) then true else !decide (twE b l=0) then true else !rising (twL b l) 0 ((↑(l.length):Int) - 1))=true)=>y48) (Ak 1 tv)) tv)) (An (An (fun (y50:(bif bif !decide (twE b l=0) then true else !decide (twE b l=0) then true else !rising (twL b l) 0 ((↑(l.length):Int) - 1))=true)=>tv) (fun (y51:(bif bif !decide (twE b l=0) then true else !decide (twE b l=0) then true else !rising (twL b l) 0 ((↑(l.length):Int) - 1))=false)=>(o14 hpre y16 y51))) tv))))))))))))))))) ?_
  refine zI (bif bif bif !decide (twE b l=0) then true else !decide (twE b l=0) then true else !rising (twL b l) 0 ((↑(l.length):Int) - 1) then true else decide (6 < (↑((msL b l).length):Int))) (fun y52 => ?_) (fun y52 => ?_)
  ·refine swp_seq ?_
   refine zR [4] [] (Ak 1 tv) ?_
   refine swp_ret ?_
   exact zT [] (An (Ak 1 tv) (An (An (cb (o15 hpre y16 y52)) (zr nilN)) (An (zr true) (An (zr true) (zr true)))))
  ·refine swp_skip ?_
   refine swp_seq ?_
   refine zR [1,2,5,7,9] [0] (Ak 1 tv) ?_
   refine swp_seq ?_
   refine swp_seq ?_
   refine zR [1,2,5,7,9,10] [0] (Ak 1 tv) ?_
   refine swp_block ?_
   refine zL (Hint.ann (h7a b l) [(1,aDays l),(2,AV.ptr 0 []),(5,aInts (twL b l)),(7,aDays (msL b l))] [(0,OB.cells 26 (cBk b))] 10440) (zE hE [] [(0,.same 0),(5000,.nil)] [1,5,7] [0] (An (An (An (zr (aDays l)) (zr true)) (An (An (zr (some (Src.same 0))) (zr nilP)) (An (An (zr (aInts (twL b l))) (zr true)) (An (An (zr (aDays (msL b l))) (zr true)) (An (zr (some Src.nil)) (An (An (ci (o16 hpre y16 y52)) (zr nilN)) tv)))))) (An (An (An (zr (OB.cells 26 (cBk b))) (zr true)) (An (o17 hpre y16 y52) tv)) (An (zr true) (zr true))))) (o18 hpre y16 y52) (fun (x53:Nat) hx53 => ?_)
   refine swp_seq ?_
   refine swp_seq ?_
   refine zR [1,2,5,7,9,10,67] [0,5000] (Ak 4 tv) ?_
   refine zI (decide ((x53:Int) < (↑(l.length):Int))) (fun y54 => ?_) (fun y54 => ?_)
   ·refine swp_skip ?_
    refine swp_seq ?_
    refine swp_block ?_
    refine swp_seq ?_
    refine zC ([(2,CallSpec.eq (s39 (twL b l) (x53:Int)) [true,true])]) [1,2,5,7,9,10,73] [0,5000] (Ak 2 (An (An (An (zr (aInts (twL b l))) (An (zr (iv (x53:Int))) tv)) (An (t39 (twL b l) ((x53:Int))) (An (o19 hpre y16 y52 x53 hx53 y54) (Ak 1 (fun (i55:Env)=>tv))))) (Ak 1 tv))) ?_
    refine zI (!isIn (twL b l) (x53:Int)) (fun y56 => ?_) (fun y56 => ?_)
    ·refine zR [1,2,5,7,9,10] [0,10552] (Ak 3 (An (An (o20 hpre y16 y52 x53 hx53 y54 y56) (o21 hpre y16 y52 x53 hx53 y54 y56)) (Ak 2 (An (o22 hpre y16 y52 x53 hx53 y54 y56) (Ak 1 tv))))) ?_
     refine zR [1,2,5,7,9,10] [0,10552] (Ak 1 (An (o23 hpre y16 y52 x53 hx53 y54 y56) (Ak 1 tv))) ?_
     exact zn (zE hE [] [(0,.same 0),(5000,.same 10552)] [1,5,7] [0] (An (An (An (zr (aDays l)) (zr true)) (An (An (zr (some (Src.same 0))) (zr nilP)) (An (An (zr (aInts (twL b l))) (zr true)) (An (An (zr (aDays (msL b l))) (zr true)) (An (zr (some (Src.same 10552))) (An (An (ci (o24 hpre y16 y52 x53 hx53 y54 y56)) (zr nilN)) tv)))))) (An (An (An (zr (OB.cells 26 (cBk b))) (zr true)) (An (An (zr 61) (An (zr 2) (An (o25 hpre y16 y52 x53 hx53 y54 y56) (fun (i57:Nat)=>(fun (y58:i57 < (keptTo b l x53).length + 1)=>(o26 hpre y16 y52 x53 hx53 y54 y56 i57 y58)))))) tv)) (An (zr true) (zr true))))) (o27 hpre y16 y52 x53 hx53 y54 y56) (o28 hpre y16 y52 x53 hx53 y54 y56)
    ·refine swp_skip ?_
     refine zR [1,2,5,7,9,10] [0,5000] (Ak 1 (An (o29 hpre y16 y52 x53 hx53 y54 y56) (Ak 1 tv))) ?_
     exact zn (zE hE [] [(0,.same 0),(5000,.same 5000)] [1,5,7] [0] (An (An (An (zr (aDays l)) (zr true)) (An (An (zr (some (Src.same 0))) (zr nilP)) (An (An (zr (aInts (twL b l))) (zr true)) (An (An (zr (aDays (msL b l))) (zr true)) (An (zr (some (Src.same 5000))) (An (An (ci (o30 hpre y16 y52 x53 hx53 y54 y56)) (zr nilN)) tv)))))) (An (An (An (zr (OB.cells 26 (cBk b))) (zr true)) (An (An (zr 61) (An (zr 2) (An (o31 hpre y16 y52 x53 hx53 y54 y56) (fun (i59:Nat)=>(fun (y60:i59 < (keptTo b l x53).length)=>(o32 hpre y16 y52 x53 hx53 y54 y56 i59 y60)))))) tv)) (An (zr true) (zr true))))) (o33 hpre y16 y52 x53 hx53 y54 y56) (o34 hpre y16 y52 x53 hx53 y54 y56)
   ·refine swp_exit ?_
    refine swp_seq ?_
    refine zR [2,9] [0,10488] (Ak 2 (An (o35 hpre y16 y52 x53 hx53 y54) (Ak 1 tv))) ?_
    refine swp_seq ?_
    refine swp_ent (zE (st2:=ASt.mk [(2,AV.ptr 0 []),(9,AV.vec 10488)] [(10488,OB.vec 61 2 (allO b l).length fun (i:Nat)=>cSday ((allO b l).getD i default)),(0,OB.cells 26 (cBk b))] 10504) hE [] [(0,.same 0),(10488,.same 10488)] [] [0] (An (An (An (zr (some (Src.same 0))) (zr nilP)) (An (zr (some (Src.same 10488))) tv)) (An (An (An (zr 61) (An (zr 2) (An (o36 hpre y16 y52 x53 hx53 y54) (fun (i61:Nat)=>(fun (y62:i61 < (keptTo b l x53).length + (msL b l).length)=>(o37 hpre y16 y52 x53 hx53 y54 i61 y62)))))) (An (An (zr (OB.cells 26 (cBk b))) (zr true)) tv)) (An (zr true) (zr true))))) ?_
    refine zC ([(1,CallSpec.eq (s19 b) [true])]) [2,9,11,12] [0,10488] (Ak 1 (An (An (An (zr (AV.agg (cBk b))) tv) (An (t19 (b)) (An (o38 hpre y16 y52 x53 hx53 y54) (Ak 1 (fun (i63:Env)=>tv))))) (Ak 5 tv))) ?_
    refine swp_seq ?_
    refine swp_seq ?_
    refine zR [2,9,11,102] [0,10488] (Ak 3 (An (fun (y64:(!!decide (checkB b=0))=true)=>(An (Ak 1 tv) tv)) (An (fun (y65:(!!decide (checkB b=0))=true)=>(An (An (fun (y66:(!!decide (checkB b=0))=true)=>y65) tv) tv)) (An (fun (y67:(!!decide (checkB b=0))=true)=>(An (Ak 1 tv) tv)) (An (fun (y68:(!!decide (checkB b=0))=true)=>(An (An (fun (y69:(!!decide (checkB b=0))=true)=>y68) tv) tv)) (An (fun (y70:(!!decide (checkB b=0))=true)=>(An (An (fun (y71:(!!decide (checkB b=0))=true)=>y70) (An (fun (y72:(!!decide (checkB b=0))=true)=>y70) tv)) tv)) (An (An (fun (y73:(!decide (checkB b=0))=true)=>tv) (fun (y74:(!decide (checkB b=0))=false)=>(o39 hpre y16 y52 x53 hx53 y54 y74))) (Ak 1 (An (fun (y75:(!bif !decide (checkB b=0) then true else !decide ((↑((allO b l).length):Int)=(↑((if okBook b=true then stds b else []).length):Int)))=true)=>(An (Ak 1 tv) tv)) (An (fun (y76:(!bif !decide (checkB b=0) then true else !decide ((↑((allO b l).length):Int)=(↑((if okBook b=true then stds b else []).length):Int)))=true)=>(An (An (fun (y77:(!bif !decide (checkB b=0) then true else !decide ((↑((allO b l).length):Int)=(↑((if okBook b=true then stds b else []).length):Int)))=true)=>y76) tv) tv)) (An (fun (y78:(!bif !decide (checkB b=0) then true else !decide ((↑((allO b l).length):Int)=(↑((if okBook b=true then stds b else []).length):Int)))=true)=>(An (An (fun (y79:(!bif !decide (checkB b=0) then true else !decide ((↑((allO b l).length):Int)=(↑((if okBook b=true then stds b else []).length):Int)))=true)=>y78) (Ak 1 tv)) tv)) (An (An (fun (y80:(bif !decide (checkB b=0) then true else !decide ((↑((allO b l).length):Int)=(↑((if okBook b=true then stds b else []).length):Int)))=true)=>tv) (fun (y81:(bif !decide (checkB b=0) then true else !decide ((↑((allO b l).length):Int)=(↑((if okBook b=true then stds b else []).length):Int)))=false)=>(o40 hpre y16 y52 x53 hx53 y54 y81))) tv)))))))))))) ?_
    refine zI (bif bif !decide (checkB b=0) then true else !decide ((↑((allO b l).length):Int)=(↑((if okBook b=true then stds b else []).length):Int)) then true else decide (6 < (↑((if okBook b=true then stds b else []).length):Int))) (fun y82 => ?_) (fun y82 => ?_)
    ·refine swp_seq ?_
     refine zR [4] [] (Ak 1 tv) ?_
     refine swp_ret ?_
     exact zT [] (An (Ak 1 tv) (An (An (cb (o41 hpre y16 y52 x53 hx53 y54 y82)) (zr nilN)) (An (zr true) (An (zr true) (zr true)))))
    ·refine swp_skip ?_
     refine swp_seq ?_
     refine swp_seq ?_
     refine zR [2,9,11,13] [0,10488] (Ak 1 tv) ?_
     refine swp_block ?_
     refine zL (Hint.ann (h7b b l) [(2,AV.ptr 0 []),(9,AV.vec 10488),(11,aDays (if okBook b=true then stds b else []))] [(0,OB.cells 26 (cBk b)),(10488,OB.vec 61 2 (allO b l).length fun (i:Nat)=>cSday ((allO b l).getD i default))] 20680) (zE hE [] [(0,.same 0),(10488,.same 10488)] [11] [0,10488] (An (An (An (zr (some (Src.same 0))) (zr nilP)) (An (zr (some (Src.same 10488))) (An (An (zr (aDays (if okBook b=true then stds b else []))) (zr true)) (An (An (ci (o42 hpre y16 y52 x53 hx53 y54 y82)) (zr nilN)) tv)))) (An (An (An (zr (OB.cells 26 (cBk b))) (zr true)) (An (An (zr (OB.vec 61 2 (allO b l).length fun (i:Nat)=>cSday ((allO b l).getD i default))) (zr true)) tv)) (An (zr true) (zr true))))) (o43 hpre y16 y52 x53 hx53 y54 y82) (fun (x83:Nat) hx83 => ?_)
     refine swp_seq ?_
     refine swp_seq ?_
     refine zR [2,9,11,13,106] [0,10488] (Ak 4 tv) ?_
     refine zI (decide ((x83:Int) < (↑((if okBook b=true then stds b else []).length):Int))) (fun y84 => ?_) (fun y84 => ?_)
     ·refine swp_skip ?_
      refine swp_seq ?_
      refine swp_block ?_
      refine swp_seq ?_
      refine zR [2,9,11,13,14] [0,10488] (Ak 1 tv) ?_
      refine swp_seq ?_
      refine swp_seq ?_
      refine zR [2,9,11,13,14,15] [0,10488] (Ak 1 tv) ?_
      refine swp_block ?_
      refine zL (Hint.ann (h7c b l x83) [(2,AV.ptr 0 []),(9,AV.vec 10488),(11,aDays (if okBook b=true then stds b else [])),(13,iv (x83:Int))] [(0,OB.cells 26 (cBk b)),(10488,OB.vec 61 2 (allO b l).length fun (i:Nat)=>cSday ((allO b l).getD i default))] 30728) (zE hE [] [(0,.same 0),(10488,.same 10488)] [11,13] [0,10488] (An (An (An (zr (some (Src.same 0))) (zr nilP)) (An (zr (some (Src.same 10488))) (An (An (zr (aDays (if okBook b=true then stds b else []))) (zr true)) (An (An (zr (iv (x83:Int))) (zr true)) (An (An (ci (o44 hpre y16 y52 x53 hx53 y54 y82 x83 hx83 y84)) (zr nilN)) (An (An (ci (o45 hpre y16 y52 x53 hx53 y54 y82 x83 hx83 y84)) (zr nilN)) tv)))))) (An (An (An (zr (OB.cells 26 (cBk b))) (zr true)) (An (An (zr (OB.vec 61 2 (allO b l).length fun (i:Nat)=>cSday ((allO b l).getD i default))) (zr true)) tv)) (An (zr true) (zr true))))) (o46 hpre y16 y52 x53 hx53 y54 y82 x83 hx83 y84) (fun (x85:Nat) hx85 => ?_)
      refine swp_seq ?_
      refine swp_seq ?_
      refine zR [2,9,11,13,14,15,112] [0,10488] (Ak 4 tv) ?_
      refine zI (decide ((x85:Int) < (↑((allO b l).length):Int))) (fun y86 => ?_) (fun y86 => ?_)
      ·refine swp_skip ?_
       refine swp_seq ?_
       refine swp_block ?_
       refine swp_seq ?_
       refine zR [2,9,11,13,14,15,123] [0,10488] (Ak 2 (An (An (o47 hpre y16 y52 x53 hx53 y54 y82 x83 hx83 y84 x85 hx85 y86) (o48 hpre y16 y52 x53 hx53 y54 y82 x83 hx83 y84 x85 hx85 y86)) (An (An (o49 hpre y16 y52 x53 hx53 y54 y82 x83 hx83 y84 x85 hx85 y86) tv) (Ak 2 (An (An (o50 hpre y16 y52 x53 hx53 y54 y82 x83 hx83 y84 x85 hx85 y86) (o51 hpre y16 y52 x53 hx53 y54 y82 x83 hx83 y84 x85 hx85 y86)) (Ak 2 tv)))))) ?_
       refine zI (decide (((allO b l).getD x85 default).ad=((if okBook b=true then stds b else []).getD x83 default).ad) && (decide (((allO b l).getD x85 default).day=((if okBook b=true then stds b else []).getD x83 default).day) && true)) (fun y87 => ?_) (fun y87 => ?_)
       ·refine zR [2,9,11,13,14,15] [0,10488] (Ak 1 (An (o52 hpre y16 y52 x53 hx53 y54 y82 x83 hx83 y84 x85 hx85 y86 y87) (Ak 1 tv))) ?_
        refine zR [2,9,11,13,14,15] [0,10488] (Ak 1 (An (o53 hpre y16 y52 x53 hx53 y54 y82 x83 hx83 y84 x85 hx85 y86 y87) (Ak 1 tv))) ?_
        exact zn (zE hE [] [(0,.same 0),(10488,.same 10488)] [11,13] [0,10488] (An (An (An (zr (some (Src.same 0))) (zr nilP)) (An (zr (some (Src.same 10488))) (An (An (zr (aDays (if okBook b=true then stds b else []))) (zr true)) (An (An (zr (iv (x83:Int))) (zr true)) (An (An (ci (o54 hpre y16 y52 x53 hx53 y54 y82 x83 hx83 y84 x85 hx85 y86 y87)) (zr nilN)) (An (An (ci (o55 hpre y16 y52 x53 hx53 y54 y82 x83 hx83 y84 x85 hx85 y86 y87)) (zr nilN)) tv)))))) (An (An (An (zr (OB.cells 26 (cBk b))) (zr true)) (An (An (zr (OB.vec 61 2 (allO b l).length fun (i:Nat)=>cSday ((allO b l).getD i default))) (zr true)) tv)) (An (zr true) (zr true))))) (o56 hpre y16 y52 x53 hx53 y54 y82 x83 hx83 y84 x85 hx85 y86 y87) (o57 hpre y16 y52 x53 hx53 y54 y82 x83 hx83 y84 x85 hx85 y86 y87)
       ·refine swp_skip ?_
        refine zR [2,9,11,13,14,15] [0,10488] (Ak 1 (An (o58 hpre y16 y52 x53 hx53 y54 y82 x83 hx83 y84 x85 hx85 y86 y87) (Ak 1 tv))) ?_
        exact zn (zE hE [] [(0,.same 0),(10488,.same 10488)] [11,13] [0,10488] (An (An (An (zr (some (Src.same 0))) (zr nilP)) (An (zr (some (Src.same 10488))) (An (An (zr (aDays (if okBook b=true then stds b else []))) (zr true)) (An (An (zr (iv (x83:Int))) (zr true)) (An (An (ci (o59 hpre y16 y52 x53 hx53 y54 y82 x83 hx83 y84 x85 hx85 y86 y87)) (zr nilN)) (An (An (ci (o60 hpre y16 y52 x53 hx53 y54 y82 x83 hx83 y84 x85 hx85 y86 y87)) (zr nilN)) tv)))))) (An (An (An (zr (OB.cells 26 (cBk b))) (zr true)) (An (An (zr (OB.vec 61 2 (allO b l).length fun (i:Nat)=>cSday ((allO b l).getD i default))) (zr true)) tv)) (An (zr true) (zr true))))) (o61 hpre y16 y52 x53 hx53 y54 y82 x83 hx83 y84 x85 hx85 y86 y87) (o62 hpre y16 y52 x53 hx53 y54 y82 x83 hx83 y84 x85 hx85 y86 y87)
      ·refine swp_exit ?_
       refine swp_seq ?_
       refine zC ([(14,CallSpec.eq (s31 b ((if okBook b=true then stds b else []).getD x83 default).ad ((if okBook b=true then stds b else []).getD x83 default).day) [true,true,true])]) [2,9,11,13,142] [0,10488] (Ak 3 (An (fun (y88:(!!decide ((↑(cntAt (allO b l) (sdA b x83) x85):Int)=1))=true)=>(An (Ak 1 tv) tv)) (An (fun (y89:(!!decide ((↑(cntAt (allO b l) (sdA b x83) x85):Int)=1))=true)=>(An (Ak 1 tv) tv)) (An (fun (y90:(!!decide ((↑(cntAt (allO b l) (sdA b x83) x85):Int)=1))=true)=>(An (Ak 1 tv) tv)) (An (fun (y91:(!!decide ((↑(cntAt (allO b l) (sdA b x83) x85):Int)=1))=true)=>(An (An (fun (y92:(!!decide ((↑(cntAt (allO b l) (sdA b x83) x85):Int)=1))=true)=>y91) (An (fun (y93:(!!decide ((↑(cntAt (allO b l) (sdA b x83) x85):Int)=1))=true)=>y91) tv)) (An (o63 hpre y16 y52 x53 hx53 y54 y82 x83 hx83 y84 x85 hx85 y86 y91) (o64 hpre y16 y52 x53 hx53 y54 y82 x83 hx83 y84 x85 hx85 y86 y91)))) (An (fun (y94:(!!decide ((↑(cntAt (allO b l) (sdA b x83) x85):Int)=1))=true)=>(An (An (fun (y95:(!!decide ((↑(cntAt (allO b l) (sdA b x83) x85):Int)=1))=true)=>y94) tv) tv)) (An (fun (y96:(!!decide ((↑(cntAt (allO b l) (sdA b x83) x85):Int)=1))=true)=>(An (An (fun (y97:(!!decide ((↑(cntAt (allO b l) (sdA b x83) x85):Int)=1))=true)=>y96) tv) tv)) (An (fun (y98:(!!decide ((↑(cntAt (allO b l) (sdA b x83) x85):Int)=1))=true)=>(An (Ak 1 tv) tv)) (An (fun (y99:(!!decide ((↑(cntAt (allO b l) (sdA b x83) x85):Int)=1))=true)=>(An (Ak 1 tv) tv)) (An (fun (y100:(!!decide ((↑(cntAt (allO b l) (sdA b x83) x85):Int)=1))=true)=>(An (An (fun (y101:(!!decide ((↑(cntAt (allO b l) (sdA b x83) x85):Int)=1))=true)=>y100) (An (fun (y102:(!!decide ((↑(cntAt (allO b l) (sdA b x83) x85):Int)=1))=true)=>y100) tv)) (An (o65 hpre y16 y52 x53 hx53 y54 y82 x83 hx83 y84 x85 hx85 y86 y100) (o66 hpre y16 y52 x53 hx53 y54 y82 x83 hx83 y84 x85 hx85 y86 y100)))) (An (fun (y103:(!!decide ((↑(cntAt (allO b l) (sdA b x83) x85):Int)=1))=true)=>(An (An (fun (y104:(!!decide ((↑(cntAt (allO b l) (sdA b x83) x85):Int)=1))=true)=>y103) tv) tv)) (An (fun (y105:(!!decide ((↑(cntAt (allO b l) (sdA b x83) x85):Int)=1))=true)=>(An (An (fun (y106:(!!decide ((↑(cntAt (allO b l) (sdA b x83) x85):Int)=1))=true)=>y105) tv) tv)) (An (fun (y107:(!!decide ((↑(cntAt (allO b l) (sdA b x83) x85):Int)=1))=true)=>(An (Ak 1 (An (fun (y108:(!!decide ((↑(cntAt (allO b l) (sdA b x83) x85):Int)=1))=true)=>y107) (An (fun (y109:(!!decide ((↑(cntAt (allO b l) (sdA b x83) x85):Int)=1))=true)=>y107) (An (fun (y110:(!!decide ((↑(cntAt (allO b l) (sdA b x83) x85):Int)=1))=true)=>y107) tv)))) (An (An (zr (AV.agg (cBk b))) (An (zr (iv ((if okBook b=true then stds b else []).getD x83 default).ad)) (An (zr (iv ((if okBook b=true then stds b else []).getD x83 default).day)) tv))) (An (t31 (b) ((if okBook b=true then stds b else []).getD x83 default).ad ((if okBook b=true then stds b else []).getD x83 default).day) (An hpre.1 (Ak 1 (fun (i111:Env)=>tv))))))) (An (fun (y112:(!!decide ((↑(cntAt (allO b l) (sdA b x83) x85):Int)=1))=true)=>(An (An (fun (y113:(!!decide ((↑(cntAt (allO b l) (sdA b x83) x85):Int)=1))=true)=>y112) tv) tv)) (An (An (fun (y114:(!decide ((↑(cntAt (allO b l) (sdA b x83) x85):Int)=1))=true)=>tv) (fun (y115:(!decide ((↑(cntAt (allO b l) (sdA b x83) x85):Int)=1))=false)=>(o67 hpre y16 y52 x53 hx53 y54 y82 x83 hx83 y84 x85 hx85 y86 y115))) tv))))))))))))))) ?_
       refine zI (bif !decide ((↑(cntAt (allO b l) (sdA b x83) x85):Int)=1) then true else !stoodB b ((if okBook b=true then stds b else []).getD x83 default).ad ((if okBook b=true then stds b else []).getD x83 default).day) (fun y116 => ?_) (fun y116 => ?_)
       ·refine swp_seq ?_
        refine zR [4] [] (Ak 1 tv) ?_
        refine swp_ret ?_
        exact zT [] (An (Ak 1 tv) (An (An (cb (o68 hpre y16 y52 x53 hx53 y54 y82 x83 hx83 y84 x85 hx85 y86 y116)) (zr nilN)) (An (zr true) (An (zr true) (zr true)))))
       ·refine swp_skip ?_
        refine zR [2,9,11,13] [0,10488] (Ak 1 (An (o69 hpre y16 y52 x53 hx53 y54 y82 x83 hx83 y84 x85 hx85 y86 y116) (Ak 1 tv))) ?_
        exact zn (zE hE [] [(0,.same 0),(10488,.same 10488)] [11] [0,10488] (An (An (An (zr (some (Src.same 0))) (zr nilP)) (An (zr (some (Src.same 10488))) (An (An (zr (aDays (if okBook b=true then stds b else []))) (zr true)) (An (An (ci (o70 hpre y16 y52 x53 hx53 y54 y82 x83 hx83 y84 x85 hx85 y86 y116)) (zr nilN)) tv)))) (An (An (An (zr (OB.cells 26 (cBk b))) (zr true)) (An (An (zr (OB.vec 61 2 (allO b l).length fun (i:Nat)=>cSday ((allO b l).getD i default))) (zr true)) tv)) (An (zr true) (zr true))))) (o71 hpre y16 y52 x53 hx53 y54 y82 x83 hx83 y84 x85 hx85 y86 y116) (o72 hpre y16 y52 x53 hx53 y54 y82 x83 hx83 y84 x85 hx85 y86 y116)
     ·refine swp_exit ?_
      refine swp_seq ?_
      refine zC ([(0,CallSpec.eq s15 [])]) [4] [] (An (Ak 1 (An (t15) (Ak 2 (fun (i117:Env)=>tv)))) (Ak 1 tv)) ?_
      refine swp_ret ?_
      exact zT [] (An (Ak 1 tv) (An (An (zr (bv true)) (zr nilN)) (An (zr true) (An (zr true) (zr true)))))
theorem t7 (b:Book) (l:List Sday):Triple Try.prog 7 (s7 b l):=by
  apply w7
  all_goals (try delta q5o q5p q5q q5r q5s q5t q5u q5v q5w q5x q5y q5z q60 q61 q62 q63 q64)
  case o0=>intro _ h; rw [h]; rfl
  case o1=>intro _ h; rw [h]; rfl
  all_goals (rintro ⟨hp,hp1⟩ h; obtain ⟨h1,h2,h3⟩:=cond2 h; have hsm:=not_huge h1; rw [chk_b] at h2; simp only [Bool.not_eq_false',decide_eq_false_iff_not] at h2 h3; have hs:=ok_soundB h2; have hst:=stds_small hs; have hbg:=big_ge)
  all_goals (have hq:(okBook b && decide ((l.length:Int)<=20))=true:=by rw [h2,decide_eq_true (by omega)]; rfl)
  all_goals (have hE:twE b l=0:=open_zero hq; have hC:=chk_zero h2; have hI:(if okBook b=true then stds b else [])=stds b:=if_pos h2; have hT:twL b l=twiceB b l:=by unfold twL; rw [hq]; rfl)
  all_goals (have hM:msL b l=missB b l:=by unfold msL; rw [hq]; rfl)
  all_goals (have hR:rising (twiceB b l) 0 ((l.length:Int) - 1)=true:=rising_of (twice_sort l l.length) (fun x hx=>by have:=twice_in hx; omega))
  all_goals (have hml:(missB b l).length<=6:=Nat.le_trans (List.length_filter_le _ _) hst; have htl:(twiceB b l).length<=20:=Nat.le_trans (twiceTo_len b l l.length) (by omega); have hal:=all_len b l; have hkl:=kept_len b l l.length)
  all_goals (have hL6:decide (6 < ((missB b l).length:Int))=false:=decide_eq_false (by omega); have hAL:decide (((allO b l).length:Int)=((stds b).length:Int))=true:=decide_eq_true (by omega); have hS6:decide (6 < ((stds b).length:Int))=false:=decide_eq_false (by omega))
  all_goals (try simp only [hE,hC,hI,hT,hM,hR,hL6,hAL,hS6,decide_true,Bool.not_true,Bool.not_false,cond_false,cond_true,Bool.cond_true_left,Bool.false_or])
  all_goals (try (intros; first | omega | exact hsm | rfl | (simp only [inI]; omega)))
  all_goals (try intro hz)
  all_goals (try (cases hz; done))
  all_goals (try clear hz)
  all_goals (intro x hx hl; simp only [decide_eq_true_eq,decide_eq_false_iff_not] at hl; have hkx:=kept_len b l x)
  case o36 => have : x = l.length := by omega
              rw [this]; unfold allO; rw [List.length_append]
  case o37 => have : x = l.length := by omega
              rw [this]
              intro i hi
              unfold allO
              exact catF_eq _ _ default cSday rfl (fun _ _=>rfl) (fun _ _=>rfl) (by simpa using hi)
  all_goals (try (first | omega | (rw [isIn_twice (by omega)]; intro hc; simp only [Bool.not_eq_true',Bool.not_eq_false'] at hc)))
  all_goals (try omega)
  case o25=>rw [kept_f hc,List.length_append]; rfl
  case o26=>intro i hi; rw [kept_f hc]; exact catF_one _ _ default cSday rfl (fun _ _=>rfl) rfl hi
  case o31=>rw [kept_t hc]
  case o32=>intro i _; rw [kept_t hc]
  all_goals (intro _ i hi hil j hj hjl; simp only [decide_eq_true_eq,decide_eq_false_iff_not] at hil hjl)
  all_goals (have hcl:=cnt_le (allO b l) (sdA b i) j; have hsd:(stds b).getD i default=sdA b i:=rfl)
  all_goals (try omega)
  case o67=>intro h0; rw [h0]; rfl
  case o68=>all_goals (
    have e:j=(allO b l).length:=by omega
    have h1:=cnt_one (b:=b) (l:=l) (i:=i) (by omega)
    have h2:stoodB b ((stds b).getD i default).ad ((stds b).getD i default).day=true:=(std_mem.1 (getD_mem (stds b) default (show i < (stds b).length by omega))).2.2
    rw [e,h1,h2]
    intro h0
    first | omega | (simp at h0))
  all_goals (have hcs:=cnt_step (l:=allO b l) (x:=sdA b i) (j:=j) (by omega))
  all_goals (rw [sday_eq,hsd]; intro hc; first | omega | skip)
  case o52=>simp only [inI]; omega
  case o54=>rw [hcs,if_pos (by simpa [eq_comm] using hc)]; rfl
  case o59=>rw [hcs,if_neg (by simpa [eq_comm] using hc)]; rfl
end Go.Ab
namespace Go.Ab
open Go Go.RowKit
def Dec (P:Program) (t:TypeId) {α:Type} (c:α->List AV) (ok:α->Prop):Prop :=
 ∀ {H:Type} (enc:TypeId × Value->H) (w:World) (E:Env) (fuel:Nat) (cs:List Value) (d:DataW H) (ps:List MemPlace),
  (∀ b,E.M b=w.heap[b]?)->DataW.trod enc P w 0 (fun _=>true) true fuel t cs=some (d,ps)->(∀ n ∈ d.weights P t,n<=reachBytes) -> ∃ a,ok a /\ ∀ o,RelL E o (c a) cs
theorem mcell_of {E:Env} {w:World} (h:∀ b,E.M b=w.heap[b]?) {a:Addr} {v:Value} (hc:w.cell? a=some v):a.spot=none/\mcell E.M a.block a.off=some v:=by
 refine ⟨World.cell?_spot hc,?_⟩
 have hs:=World.cell?_spot hc
 unfold World.cell? at hc
 unfold mcell
 rw [h]
 split at hc
 ·rename_i c t fr e
  rw [hs] at hc
  rw [e]
  simpa using hc
 ·cases hc
theorem lit_wf {n:Int} (h:(Lit.int .i64 n).wf=true) : -9223372036854775808<=n/\n<=9223372036854775807:=by
 simpa [Lit.wf,IntKind.min,IntKind.max,IntKind.signed,IntKind.bits] using h
theorem dec_int {P:Program} {t:TypeId} (ht:P.underlying t=some (.int .i64)):Dec P t (fun n=>[iv n]) (fun n => -9223372036854775808<=n/\n<=9223372036854775807):=by
 intro H enc w E fuel cs d ps _ h _
 obtain ⟨n,rfl,_,hw⟩:=DataW.trod_int ht h
 exact ⟨n,lit_wf hw,fun o => .cons (.lit _) rfl .nil⟩
theorem weightsAll_mem {H:Type} {P:Program} {e:TypeId}:∀ {l:List (DataW H)} {d:DataW H},d ∈ l -> ∀ n ∈ d.weights P e,n ∈ DataW.weightsAll P e l:=by
 intro l
 induction l with
 | nil=>intro d h; cases h
 | cons x l ih =>
  intro d h n hn
  rw [DataW.weightsAll,List.mem_append]
  rcases List.mem_cons.1 h with rfl | h
  ·exact .inl hn
  ·exact .inr (ih h n hn)
theorem dec_slice {P:Program} {t e:TypeId} {α:Type} [Inhabited α] {c:α->List AV} {ok:α->Prop} (ht:P.underlying t=some (.slice e)) {sz:Nat} (hsz:P.cellsOf e=sz) (hpos:0 < sz) (hby:0 < P.bytesOf e) (he:Dec P e c ok) :
  Dec P t (fun l:List α=>[.sl sz l.length (fun i=>c (l.getD i default))]) (fun l=>l.length<=140737488355328 /\ ∀ a,a ∈ l->ok a):=by
 intro H enc w E fuel cs d ps hE h hw
 rcases Deep.open_slice ht h with ⟨rfl,hx⟩ | ⟨a,len,cap,m,n,D,Pl,rfl,hb,hl,hm,hmm,hx,hall⟩
 ·refine ⟨[],⟨Nat.zero_le _,fun a ha=>by cases ha⟩,fun o => ?_⟩
  exact .cons (.slN _ _) rfl .nil
 ·simp only [if_true] at hmm
  subst hmm
  rw [hsz] at hall
  obtain ⟨rfl,rfl⟩:=Prod.mk.inj hx
  have hwt:∀ i,i < len -> ∀ k ∈ (D i).weights P e,k<=reachBytes:=by
   intro i hi k hk
   refine hw k ?_
   rw [DataW.weights,ht]
   refine List.mem_cons_of_mem _ (List.mem_append_left _ (weightsAll_mem (d:=D i) ?_ k hk))
   exact List.mem_map.2 ⟨i,List.mem_range.2 hi,rfl⟩
  have hlen:len<=140737488355328:=by
   have h1:(((List.range len).map D).length + ((List.range (m - len)).map fun j=>D (len + j)).length) * P.bytesOf e<=reachBytes:=by
    refine hw _ ?_
    rw [DataW.weights,ht]
    exact List.mem_cons_self ..
   simp only [List.length_map,List.length_range] at h1
   have h2:len<=(len + (m - len)) * P.bytesOf e:=Nat.le_trans (Nat.le_add_right _ _) (Nat.le_mul_of_pos_right _ hby)
   have h3:=reachBytes_lt
   omega
  obtain ⟨g,hg⟩:=Deep.choose_lt (α:=List Value) (p:=fun i cs'=>w.cells? 0 (a.add (i * sz)) sz=some cs'/\DataW.trod enc P w 0 (fun _=>true) true n e cs'=some (D i,Pl i)) hall
  have hdec:∀ i,i < len -> ∃ x,ok x /\ ∀ o,RelL E o (c x) (g i):=fun i hi=>he enc w E n (g i) (D i) (Pl i) hE (hg i (by omega)).2 (hwt i hi)
  obtain ⟨A,hA⟩:=Deep.choose_lt (α:=α) (p:=fun i x=>ok x /\ ∀ o,RelL E o (c x) (g i)) hdec
  refine ⟨(List.range len).map A,⟨by simpa using hlen,fun x hx => ?_⟩,fun o => .cons ?_ rfl .nil⟩
  ·obtain ⟨i,hi,rfl⟩:=List.mem_map.1 hx
   exact (hA i (List.mem_range.1 hi)).1
  ·rw [List.length_map,List.length_range]
   have hcell:∀ i k,i < m->k < sz -> ∃ v,(g i)[k]? = some v/\w.cell? ((a.add (i * sz)).add k)=some v:=by
    intro i k hi hk
    obtain ⟨_,hl1,hl2⟩:=World.cells?_some (hg i hi).1
    have:=hl2 k hk
    obtain ⟨v,hv⟩:∃ v,(g i)[k]? = some v:=⟨_,List.getElem?_eq_getElem (by omega)⟩
    exact ⟨v,hv,by rw [this,hv]⟩
   by_cases h0:m=0
   ·subst h0
    obtain rfl:len=0:=by omega
    exact .slZ _ _ _
   ·obtain ⟨v,_,hv⟩:=hcell 0 0 (by omega) hpos
    have hsp:=(mcell_of hE hv).1
    obtain ⟨b,off,spot⟩:=a
    obtain rfl:spot=none:=by simpa [Addr.add] using hsp
    refine .slA sz len _ b off m g hl hm (fun i hi => ?_) (fun i k hi hk => ?_) (fun i hi => ?_)
    ·exact (World.cells?_some (hg i (by omega)).1).2.1
    ·obtain ⟨v,hv1,hv2⟩:=hcell i k (by omega) hk
     rw [hv1]
     have:=(mcell_of hE hv2).2
     rw [addr_add,addr_add] at this
     exact this
    ·have:((List.range len).map A).getD i default=A i:=by
      rw [List.getD_eq_getElem?_getD,List.getElem?_map,List.getElem?_range hi]; rfl
     rw [this]
     exact (hA i hi).2 false
def DecFs (P:Program) (off fin:Nat) (fs:List Field) {α:Type} (c:α->List AV) (ok:α->Prop):Prop :=
 ∀ {H:Type} (enc:TypeId × Value->H) (w:World) (E:Env) (n:Nat) (cs:List Value) (xs:List (DataW H × List MemPlace)),
  (∀ b,E.M b=w.heap[b]?)->cs.length=fin->xs.length=fs.length->(∀ (i:Nat) (f:Field),fs[i]? = some f->DataW.trod enc P w 0 (fun _=>true) true n f.type ((cs.drop f.offset).take (P.cellsOf f.type))=xs[i]?) →
  (∀ k ∈ DataW.weightsEach P (fs.map (·.type)) (xs.map (·.1)),k<=reachBytes) -> ∃ a,ok a /\ ∀ o,RelL E o (c a) (cs.drop off)
theorem decFs_nil {P:Program} {fin:Nat}:DecFs P fin fin [] (fun _:Unit=>[]) (fun _=>True):=by
 intro H enc w E n cs xs _ hl _ _ _
 refine ⟨(),trivial,fun o => ?_⟩
 rw [List.drop_of_length_le (by omega)]
 exact .nil
theorem decFs_cons {P:Program} {off mid fin:Nat} {f:Field} {fs:List Field} {α β:Type} {c1:α->List AV} {ok1:α->Prop} {c2:β->List AV} {ok2:β->Prop} {t:TypeId} (hft:f.type=t) (ho:f.offset=off) (hm:off + P.cellsOf t=mid)
  (h1:Dec P t c1 ok1) (h2:DecFs P mid fin fs c2 ok2):DecFs P off fin (f :: fs) (fun p:α × β=>c1 p.1 ++ c2 p.2) (fun p=>ok1 p.1/\ok2 p.2):=by
 intro H enc w E n cs xs hE hl hx hall hw
 subst hft; subst ho; subst hm
 cases xs with
 | nil=>simp at hx
 | cons x xs =>
  have h0:=hall 0 f rfl
  simp only [List.getElem?_cons_zero] at h0
  obtain ⟨a,ha,hra⟩:=h1 enc w E n _ x.1 x.2 hE h0 (fun k hk=>hw k (by
   simp only [List.map_cons,DataW.weightsEach]
   exact List.mem_append_left _ hk))
  obtain ⟨b,hb,hrb⟩:=h2 enc w E n cs xs hE hl (by simpa using hx) (fun i g hg=>by
   have:=hall (i + 1) g (by simpa using hg)
   simpa using this) (fun k hk=>hw k (by
   simp only [List.map_cons,DataW.weightsEach]
   exact List.mem_append_right _ hk))
  refine ⟨(a,b),⟨ha,hb⟩,fun o => ?_⟩
  have:=(hra o).append (hrb o)
  rw [← List.drop_drop,List.take_append_drop] at this
  exact this
theorem dec_struct {P:Program} {t:TypeId} {fs:Array Field} {sz:Nat} {α:Type} {c:α->List AV} {ok:α->Prop} (ht:P.underlying t=some (.struct fs)) (hsz:P.cellsOf t=sz) (h:DecFs P 0 sz fs.toList c ok):Dec P t c ok:=by
 intro H enc w E fuel cs d ps hE hd hw
 obtain ⟨xs,n,_,hx,hl,hxl,hall⟩:=DataW.trod_struct ht hd
 obtain ⟨rfl,rfl⟩:=Prod.mk.inj hx
 obtain ⟨a,ha,hr⟩:=h enc w E n cs xs hE (by omega) (by simpa using hxl) (fun i f hf=>hall i f (by simpa using hf)) (fun k hk=>hw k (by rw [DataW.weights,ht]; exact hk))
 exact ⟨a,ha,fun o=>by simpa using hr o⟩
theorem Dec.map {P:Program} {t:TypeId} {α β:Type} {c:α->List AV} {ok:α->Prop} {c':β->List AV} {ok':β->Prop} (h:Dec P t c ok) (g:α->β) (hc:∀ a,ok a->c' (g a)=c a) (hok:∀ a,ok a->ok' (g a)):Dec P t c' ok':=by
 intro H enc w E fuel cs d ps hE hd hw
 obtain ⟨a,ha,hr⟩:=h enc w E fuel cs d ps hE hd hw
 exact ⟨g a,hok a ha,fun o=>by rw [hc a ha]; exact hr o⟩
theorem Dec.arg {P:Program} {t:TypeId} {α:Type} {c:α->List AV} {ok:α->Prop} (h:Dec P t c ok) {H:Type} {enc:TypeId × Value->H} {w:World} {E:Env} (hE:∀ b,E.M b=w.heap[b]?) {v:Value} {d:DataW H} {ps:List MemPlace}
  (hd:DataW.Trod enc P w 0 (fun _=>true) true t v d ps) (hw:∀ n ∈ d.weights P t,n<=reachBytes):∃ a,ok a /\ ∀ o,RelL E o (c a) v.cells.toList:=by
 obtain ⟨fuel,hf⟩:=hd
 exact h enc w E fuel _ d ps hE hf hw
def envOf (w:World):Env:={ M:=fun b=>w.heap[b]?,blk:=fun _=>none,hdr:=fun _=>none,fns:=fun _ _=>False }
theorem heapOK_of (P:Program) (w:World):HeapOK (calleeCtx P (envOf w) w []) (envOf w) (Heap.of []) w where
 os:=rfl
 tape:=rfl
 output:=rfl
 size:=Nat.le_refl _
 pres:=fun _ _=>rfl
 mem:=fun _ _ h=>h
 le:=Env.le.refl _
 ext:=fun _ _ h => .inl h
 own:=fun id ob h=>by cases h
 sep:=fun i j k _ h=>absurd rfl h
theorem trodAll_below {H:Type} {enc:TypeId × Value->H} {P:Program} (hl:laidOutB P=true) {W W':World} (hb:Below W.heap.size W W'):∀ {ts:List TypeId} {vs:List Value} {ds:List (DataW H)} {ps:List MemPlace},
  (∀ t ∈ ts,P.readableRec t=true/\t < P.types.size)->DataW.TrodAll enc P W 0 (fun _=>true) true ts vs ds ps->(∀ x ∈ ps,x.block < W.heap.size) →
  DataW.TrodAll enc P W' 0 (fun b=>decide (b < W.heap.size)) true ts vs ds ps:=by
 intro ts
 induction ts with
 | nil =>
  intro vs ds ps _ h _
  obtain ⟨rfl,rfl,rfl⟩:=ChangeShapes.trodAll_nil h
  exact ChangeShapes.trodAll_mk0
 | cons t ts ih =>
  intro vs ds ps hr h hlt
  obtain ⟨v,vs',d,ds',p,q,rfl,rfl,rfl,hd,hrest⟩:=ChangeShapes.trodAll_cons h
  obtain ⟨h1,h2⟩:=hr t (List.mem_cons_self ..)
  exact ⟨p,q,Below.trod hl h1 h2 hd hb (fun x hx=>hlt x (List.mem_append_left _ hx)),ih (fun t ht=>hr t (List.mem_cons_of_mem _ ht)) hrest (fun x hx=>hlt x (List.mem_append_right _ hx)),rfl⟩
theorem law_contract {P:Program} (hl:laidOutB P=true) {f:FuncId} {fn:Func} {s:ChangeSpec} (hvars:s.vars = []) {tb:TypeId} (hres:fn.resultTypes = #[tb]) (htb:P.underlying tb=some .bool)
  (hread:∀ t ∈ fn.params.toList,P.readableRec t=true/\t < P.types.size)
  {H:Type} {enc:TypeId × Value->H} {W:World} {args:Array Value} {ds gs:List (DataW H)} {before:List MemPlace}
  (hfn:ds.length=fn.params.size->s.fn H ds = { results:=[.lit (.bool true)],args:=ds })
  (hW:DataW.Whole enc P fn.params.toList s.vars false W args.toList ds gs before) {sp:CallSpec} (ht:Triple P f sp) (hp:sp.pre) (hfo:∀ E,sp.fnok E) (hin:sp.hin = []) (hout:sp.hout = []) (hr:sp.res=bv true)
  (hla:args.toList.length=sp.args.length) (hra:∀ k,Rel (envOf W) true (sp.args.getD k .any) (args.toList.getD k undef)) :
  Calls P f args W fun e W' => ∃ v,e = .returned v/\s.post enc P fn false true false false W args v W':=by
 have hok:=heapOK_of P W
 have h:=ht.2 hp (envOf W) W args.toList (hfo _) (by rw [hin]; exact hok) hla hra
 refine (h (by rw [hout]; intro p hp; cases hp)).mono fun e W' hpost => ?_
 obtain ⟨v,E',he,hh,hv,_⟩:=hpost
 rw [hr] at hv
 have hvt:v = .bool true:=by cases hv; rfl
 subst hvt
 have hb:Below W.heap.size W W':=⟨hh.os,hh.tape,hh.output,hh.size,fun k hk=>hh.pres k (by
  rintro (hc | ⟨q,hq,_⟩)
  ·exact absurd hk (Nat.not_lt.2 hc)
  ·rw [hin] at hq; cases hq)⟩
 refine ⟨_,he,?_⟩
 have hW':=hW
 obtain ⟨p,q,hA,hV,rfl,hz,hnd⟩:=hW
 rw [hvars] at hV
 obtain ⟨rfl,rfl⟩:=ChangeShapes.trodVars_none hV
 have hlen:ds.length=fn.params.size:=by
  have:∀ {ts:List TypeId} {vs:List Value} {ds:List (DataW H)} {ps:List MemPlace},DataW.TrodAll enc P W 0 (fun _=>true) true ts vs ds ps->ds.length=ts.length:=by
   intro ts
   induction ts with
   | nil=>intro vs ds ps h; obtain ⟨_,rfl,_⟩:=ChangeShapes.trodAll_nil h; rfl
   | cons t ts ih=>intro vs ds ps h; obtain ⟨_,_,_,_,_,_,rfl,rfl,rfl,_,hr⟩:=ChangeShapes.trodAll_cons h; simp [ih hr]
  simpa using this hA
 refine ⟨ds,[],p ++ [],[],p,[],hW',?_,?_,?_,hb.frame _,fun h=>by cases h⟩
 ·rw [List.append_nil,hfn hlen,hres]
  exact ChangeShapes.trodAll_mk1 (shut_bool htb true)
 ·rw [List.append_nil,hfn hlen]
  exact trodAll_below hl hb hread hA (fun x hx=>hW'.lt x (List.mem_append_left _ hx))
 ·rw [List.append_nil,hfn hlen,hvars]
  rfl
end Go.Ab
namespace Go.Ab
open Go Go.RowKit Go.Proofs Go.Sh Go.En
theorem dInt:Dec Try.prog 3 (fun n=>[iv n]) (fun n => -9223372036854775808<=n/\n<=9223372036854775807):=dec_int Try.underlying3
set_option maxRecDepth 100000
theorem laidOut:laidOutB Try.prog=true:=by kernel_rfl
section
variable {H:Type} {enc:TypeId × Value->H} {W:World} {base:Nat} {v:Value} {d:DataW H} {ps:List MemPlace}
theorem arg_struct {t:TypeId} {fs:Array Field} {α:Type} {c:α->List AV} {ok:α->Prop} (ht:Try.prog.underlying t=some (.struct fs)) (hD:Dec Try.prog t c ok) (hval:Value.okWide Try.prog W .any base t v) (hd:DataW.Trod enc Try.prog W 0 (fun _=>true) true t v d ps) (hw:∀ n ∈ d.weights Try.prog t,n<=reachBytes) :
  ∃ a,ok a/\Rel (envOf W) true (.agg (c a)) v:=by
 unfold Value.okWide at hval
 rw [ht] at hval
 obtain ⟨cs,rfl,_⟩:=hval
 obtain ⟨a,ha,hr⟩:=hD.arg (E:=envOf W) (fun _=>rfl) hd hw
 refine ⟨a,ha,?_⟩
 have h:=Rel.agg (hr true)
 simpa [Value.cells] using h
end
theorem weights_part {H:Type} {ts:List TypeId} {ds:List (DataW H)} (h:(DataW.weightsEach Try.prog ts ds).all (· <= reachBytes)=true) {j:Nat} {t:TypeId} {d:DataW H} (ht:ts[j]? = some t) (hd:ds[j]? = some d):∀ n ∈ d.weights Try.prog t,n<=reachBytes:=by
 intro n hn
 have:=List.all_eq_true.1 h _ (DataW.weights_mem_each ht hd n hn)
 simpa using this
def ArgD (t:TypeId) (α:Type) (c:α->AV) (ok:α->Prop):Prop :=
 (Try.prog.readableRec t=true/\t < Try.prog.types.size) /\ ∀ {H:Type} {enc:TypeId × Value->H} {W:World} {base:Nat} {v:Value} {d:DataW H} {ps:List MemPlace},Value.okWide Try.prog W .any base t v->DataW.Trod enc Try.prog W 0 (fun _=>true) true t v d ps->(∀ n ∈ d.weights Try.prog t,n<=reachBytes) -> ∃ a,ok a/\Rel (envOf W) true (c a) v
abbrev i64 (n:Int):Prop := -9223372036854775808<=n/\n<=9223372036854775807
theorem argStruct {t:TypeId} {fs:Array Field} {α:Type} {c:α->List AV} {ok:α->Prop} (ht:Try.prog.underlying t=some (.struct fs)) (hr:Try.prog.readableRec t=true/\t < Try.prog.types.size) (hD:Dec Try.prog t c ok):ArgD t α (fun a => .agg (c a)) ok:=⟨hr,fun hv hd hw=>arg_struct ht hD hv hd hw⟩
theorem law_two {f:FuncId} {fn:Func} {s:ChangeSpec} {t1 t2:TypeId} {α β:Type} {c1:α->AV} {c2:β->AV} {ok1:α->Prop} {ok2:β->Prop} (h1:ArgD t1 α c1 ok1) (h2:ArgD t2 β c2 ok2)
  (hps:fn.params = #[t1,t2]) (hres:fn.resultTypes = #[4]) (hvars:s.vars = []) (hfn:∀ (H:Type) (d1 d2:DataW H),s.fn H [d1,d2] = { results:=[.lit (.bool true)],args:=[d1,d2] })
  (sp:α->β->CallSpec) (ht:∀ r a,Triple Try.prog f (sp r a)) (hargs:∀ r a,(sp r a).args = [c1 r,c2 a]) (hpre:∀ r a,ok1 r->ok2 a->(sp r a).pre)
  (hfo:∀ r a E,(sp r a).fnok E) (hin:∀ r a,(sp r a).hin = []) (hout:∀ r a,(sp r a).hout = []) (hr:∀ r a,(sp r a).res=bv true)
  {H:Type} {enc:TypeId × Value->H} {W:World} {base:Nat} {args:Array Value} {ds gs:List (DataW H)} {before:List MemPlace}
  (hval:∀ (j:Nat) t v,fn.params[j]? = some t->args[j]? = some v->Value.okWide Try.prog W .any base t v) (hW:DataW.Whole enc Try.prog fn.params.toList s.vars false W args.toList ds gs before)
  (hsz:(DataW.weightsEach Try.prog (fn.params.toList ++ s.plain.varTypes Try.prog) (ds ++ gs)).all (· <= reachBytes)=true) :
  Calls Try.prog f args W fun e W' => ∃ v,e = .returned v/\s.post enc Try.prog fn false true false false W args v W':=by
 have hW':=hW
 obtain ⟨p,q,hA,_,_,_,_⟩:=hW
 rw [hps] at hA hval hsz
 obtain ⟨v0,v1,d0,d1,p0,p1,rfl,rfl,rfl,g0,g1⟩:=ChangeShapes.trodAll_two hA
 obtain ⟨r,hr0,r0⟩:=h1.2 (hval 0 t1 v0 rfl rfl) g0 (weights_part hsz (j:=0) rfl rfl)
 obtain ⟨a,ha,r1⟩:=h2.2 (hval 1 t2 v1 rfl rfl) g1 (weights_part hsz (j:=1) rfl rfl)
 refine law_contract laidOut hvars hres Try.underlying4 (fun t htt => ?_) (fun _=>hfn H d0 d1) hW' (ht r a) (hpre r a hr0 ha) (hfo r a) (hin r a) (hout r a) (hr r a) (by rw [hargs]; rfl) (fun k => ?_)
 ·rw [hps] at htt
  have:t=t1 ∨ t=t2:=by simpa using htt
  rcases this with rfl | rfl
  ·exact h1.1
  ·exact h2.1
 ·rw [hargs]
  rcases k with _ | _ | k
  ·exact r0
  ·exact r1
  ·exact .any _
end Go.Ab
namespace Go.Ab
open Go Go.RowKit Go.Proofs Go.Sh Go.En
set_option maxRecDepth 100000
theorem dSpan:Dec Try.prog 63 cSpan (fun _=>True) :=
 Dec.map (dec_struct Try.underlying63 (sz:=2) (by kernel_rfl) (decFs_cons (mid:=1) rfl rfl (by kernel_rfl) dInt (decFs_cons (mid:=2) rfl rfl (by kernel_rfl) dInt decFs_nil))) (fun p=>(⟨p.1,p.2.1⟩:Span)) (fun _ _=>rfl) (fun _ _=>trivial)
theorem dShn:Dec Try.prog 70 cShn (fun _=>True) :=
 Dec.map (dec_struct Try.underlying70 (sz:=3) (by kernel_rfl) (decFs_cons (mid:=1) rfl rfl (by kernel_rfl) dInt (decFs_cons (mid:=2) rfl rfl (by kernel_rfl) dInt (decFs_cons (mid:=3) rfl rfl (by kernel_rfl) dInt decFs_nil)))) (fun p=>(⟨p.1,p.2.1,p.2.2.1⟩:Shn)) (fun _ _=>rfl) (fun _ _=>trivial)
theorem dSday:Dec Try.prog 61 cSday (fun _=>True) :=
 Dec.map (dec_struct Try.underlying61 (sz:=2) (by kernel_rfl) (decFs_cons (mid:=1) rfl rfl (by kernel_rfl) dInt (decFs_cons (mid:=2) rfl rfl (by kernel_rfl) dInt decFs_nil))) (fun p=>(⟨p.1,p.2.1⟩:Sday)) (fun _ _=>rfl) (fun _ _=>trivial)
theorem dCtr:Dec Try.prog 53 cCtr (fun _=>True) :=
 Dec.map (dec_struct Try.underlying53 (sz:=4) (by kernel_rfl) (decFs_cons (mid:=1) rfl rfl (by kernel_rfl) dInt (decFs_cons (mid:=2) rfl rfl (by kernel_rfl) dInt (decFs_cons (mid:=3) rfl rfl (by kernel_rfl) dInt (decFs_cons (mid:=4) rfl rfl (by kernel_rfl) dInt decFs_nil))))) (fun p=>(⟨p.1,p.2.1,p.2.2.1,p.2.2.2.1⟩:Ctr)) (fun _ _=>rfl) (fun _ _=>trivial)
theorem dSpans:Dec Try.prog 22 (fun l:List Span=>[.sl 2 l.length (fun i=>cSpan (l.getD i default))]) (fun l=>l.length<=140737488355328 /\ ∀ m,m ∈ l->True) :=
 dec_slice (α:=Span) Try.underlying22 (by kernel_rfl) (by decide) (Nat.lt_of_lt_of_eq (by decide:0 < 16) (by kernel_rfl)) dSpan
theorem dShns:Dec Try.prog 23 (fun l:List Shn=>[aShns l]) (fun l=>l.length<=140737488355328 /\ ∀ m,m ∈ l->True) :=
 dec_slice (α:=Shn) Try.underlying23 (by kernel_rfl) (by decide) (Nat.lt_of_lt_of_eq (by decide:0 < 24) (by kernel_rfl)) dShn
theorem dSdays:Dec Try.prog 33 (fun l:List Sday=>[aDays l]) (fun l=>l.length<=140737488355328 /\ ∀ m,m ∈ l->True) :=
 dec_slice (α:=Sday) Try.underlying33 (by kernel_rfl) (by decide) (Nat.lt_of_lt_of_eq (by decide:0 < 16) (by kernel_rfl)) dSday
theorem dCtrs:Dec Try.prog 24 (fun l:List Ctr=>[.sl 4 l.length (fun i=>cCtr (l.getD i default))]) (fun l=>l.length<=140737488355328 /\ ∀ m,m ∈ l->True) :=
 dec_slice (α:=Ctr) Try.underlying24 (by kernel_rfl) (by decide) (Nat.lt_of_lt_of_eq (by decide:0 < 32) (by kernel_rfl)) dCtr
theorem dBook:Dec Try.prog 26 cBk fitsB:=by
 refine Dec.map (dec_struct Try.underlying26 (sz:=5) (by kernel_rfl) (decFs_cons (mid:=1) rfl rfl (by kernel_rfl) dSpans (decFs_cons (mid:=2) rfl rfl (by kernel_rfl) dShns (decFs_cons (mid:=3) rfl rfl (by kernel_rfl) dInt (decFs_cons (mid:=4) rfl rfl (by kernel_rfl) dInt (decFs_cons (mid:=5) rfl rfl (by kernel_rfl) dCtrs decFs_nil)))))) (fun p=>(⟨p.1,p.2.1,p.2.2.1,p.2.2.2.1,p.2.2.2.2.1⟩:Book)) (fun _ _=>rfl) (fun p h => ?_)
 obtain ⟨⟨h1,_⟩,⟨h2,_⟩,_,_,⟨h3,_⟩,_⟩:=h
 exact ⟨Nat.le_trans h1 (by decide),Nat.le_trans h2 (by decide),Nat.le_trans h3 (by decide)⟩
theorem argBook:ArgD 26 Book (fun b=>vBk b) fitsB:=argStruct Try.underlying26 ⟨by kernel_rfl,of_decide_eq_true (by kernel_rfl)⟩ dBook
theorem argDays:ArgD 33 (List Sday) aDays (fun l=>l.length<=140737488355328 /\ ∀ m,m ∈ l->True):=⟨⟨by kernel_rfl,of_decide_eq_true (by kernel_rfl)⟩,fun {_ _ W _ v _ _} hval hd hw=>by
 obtain ⟨a,ha,hr⟩:=dSdays.arg (E:=envOf W) (fun _=>rfl) hd hw
 refine ⟨a,ha,?_⟩
 have h:=hr true
 unfold Value.okWide at hval
 rw [Try.underlying33] at hval
 cases v with
 | agg cs=>unfold Cell.okWide at hval; rw [Try.underlying33] at hval; simp [Cell.ok,Try.underlying33] at hval
 | _=>cases h with | cons h _ _=>exact h⟩
end Go.Ab
namespace Go.Proofs.Ytdmkicejjbjdkaa
open Go Go.Ab Go.Sh Go.En Go.RowKit
set_option maxRecDepth 100000
theorem own:ownKnob Try.prog.godebug=none:=by kernel_rfl
def nilArgs:Array Value := #[.agg #[.slice none 0 0,.slice none 0 0,.int .i64 0,.int .i64 0,.slice none 0 0],.slice none 0 0]
theorem lifted (os:Os) (started:os.Started) (H:Type) (enc:TypeId × Value->H) :
  ReturnsInHanded {} Try.checked os 7 .any (Rows.advertsOnceSpec.pre6 enc Try.prog Try.f7 Rows.advertsOnceRow.domain false) (Rows.advertsOnceSpec.post enc Try.prog Try.f7 false true false false):=by
 refine returnsInHanded_of_change_sized (C:=Try.checked) own started (by kernel_rfl) Try.func7
  (ChangeSpec.witness6 (enc:=enc) (C:=Try.checked) false ⟨#[],nilArgs,[]⟩ 8 (by kernel_rfl) (by kernel_rfl) (by kernel_rfl) (by kernel_rfl)) ?_
 intro W base args ds gs before hval hW _ hsz _
 exact law_two argBook argDays rfl rfl rfl (fun _ _ _=>rfl) s7 t7 (fun _ _=>rfl) (fun _ _ h0 h1=>⟨h0,Nat.le_trans h1.1 (by decide)⟩) (fun _ _ _=>trivial) (fun _ _=>rfl) (fun _ _=>rfl) (fun _ _=>rfl) hval hW hsz
theorem proved:Rows.AdvertsOnceSaid :=
 OpenClaim.holds_of_wide 7 Try.f7 rfl rfl rfl rfl rfl rfl rfl ⟨rfl,rfl,rfl,rfl,rfl⟩ rfl rfl rfl rfl rfl (by kernel_rfl) Try.func7 (by kernel_rfl)
  (of_decide_eq_true (by kernel_rfl)) (by unfold Func.isWrapper; first | (rw [if_pos (by decide +kernel)]; kernel_rfl) | (rw [if_neg (by decide +kernel)]; exact ⟨rfl,rfl⟩))
  (fun os started H enc _=>lifted os started H enc)
end Go.Proofs.Ytdmkicejjbjdkaa
