/- Part 5 of the proof: own library, plain forms and walks. -/
import Derived.Test.YtdmkicejjbjdkaaGreatQAdvertsOwed4
set_option linter.all false
set_option linter.deprecated false
namespace Go.Ab
open Go Go.RowKit Go.Proofs Go.Sh Go.En
theorem open_ok8 (b:Book) (is:Bool):(!decide (openE b is=0)) = !(okBook b && is):=by unfold openE; cases okBook b <;> cases is <;> rfl
theorem open_zero {b:Book} {is:Bool} (h:(okBook b && is)=true):openE b is=0:=by unfold openE; revert h; cases okBook b <;> cases is <;> simp
theorem twiceTo_t {b:Book} {l:List Sday} {n:Nat} (h:twiceAt b l n=true):twiceTo b l (n + 1)=twiceTo b l n ++ [(n:Int)]:=by
 unfold twiceTo; rw [List.range_succ,List.filterMap_append]; simp [h]
theorem twiceTo_f {b:Book} {l:List Sday} {n:Nat} (h:twiceAt b l n=false):twiceTo b l (n + 1)=twiceTo b l n:=by
 unfold twiceTo; rw [List.range_succ,List.filterMap_append]; simp [h]
theorem twiceTo_len (b:Book) (l:List Sday) (n:Nat):(twiceTo b l n).length<=n:=by
 unfold twiceTo; exact Nat.le_trans (List.length_filterMap_le _ _) (by rw [List.length_range]; omega)
theorem twice_cond (b:Book) (l:List Sday) (x:Nat):(bif !hasG (stds b) (l.getD x default) then true else hasG (l.take x) (l.getD x default))=twiceAt b l x:=by
 unfold twiceAt
 show _=(!hasG (stds b) (l.getD x default) || hasG (l.take x) (l.getD x default))
 cases hasG (stds b) (l.getD x default) <;> rfl
abbrev q4l (b:Book) (l:List Sday) (P:Prop):Prop:=smallB b/\l.length<=60000->P
abbrev q4m (b:Book) (l:List Sday) (P:Prop):Prop:=q4l b l ((!decide (openE b (decide ((↑(l.length):Int)<=20))=0))=false->P)
abbrev q4n (l:List Sday) (x2:Nat) (P:Prop):Prop:=x2<=l.length->P
abbrev q4o (l:List Sday) (x2:Nat) (P:Prop):Prop:=q4n l x2 (decide ((x2:Int) < (↑(l.length):Int))=true->P)
abbrev q4p (b:Book) (l:List Sday) (x2:Nat) (P:Prop):Prop:=q4o l x2 ((!!hasG (stds b) (l.getD x2 default))=true->P)
abbrev q4q (b:Book) (l:List Sday) (x2:Nat) (P:Prop):Prop:=q4o l x2 ((bif !hasG (stds b) (l.getD x2 default) then true else hasG (List.take x2 l) (l.getD x2 default))=true->P)
abbrev q4r (b:Book) (l:List Sday) (x2:Nat) (P:Prop):Prop:=q4o l x2 ((bif !hasG (stds b) (l.getD x2 default) then true else hasG (List.take x2 l) (l.getD x2 default))=false->P)
theorem w29 (b:Book) (l:List Sday)
 (o0:q4l b l ((!decide (openE b (decide ((↑(l.length):Int)<=20))=0))=true->(twL b l).length=0))
 (o1:q4l b l ((!decide (openE b (decide ((↑(l.length):Int)<=20))=0))=true->openE b (decide ((↑(l.length):Int)<=20))=twE b l))
 (o2:q4m b l (0=(↑0:Int)))
 (o3:q4m b l ((twiceTo b l 0).length=0))
 (o4:q4m b l (0<=l.length))
 (o5:q4m b l (∀ (x2:Nat),q4o l x2 (0<=(x2:Int))))
 (o6:q4m b l (∀ (x2:Nat),q4o l x2 ((x2:Int) < (↑(l.length):Int))))
 (o7:q4m b l (∀ (x2:Nat),q4o l x2 ((okBook b && decide ((↑(l.length):Int)<=20))=true)))
 (o8:q4m b l (∀ (x2:Nat),q4o l x2 ((okBook b && decide ((↑(l.length):Int)<=20))=true)))
 (o9:q4m b l (∀ (x2:Nat),q4o l x2 ((stds b).length<=65536)))
 (o10:q4m b l (∀ (x2:Nat),q4p b l x2 (0<=(x2:Int))))
 (o11:q4m b l (∀ (x2:Nat),q4p b l x2 ((x2:Int)<=(↑(l.length):Int))))
 (o12:q4m b l (∀ (x2:Nat),q4p b l x2 (x2=(List.take x2 l).length)))
 (o13:q4m b l (∀ (x2:Nat),q4p b l x2 (∀ (i14:Nat),i14 < (List.take x2 l).length->cSday (l.getD i14 default)=cSday ((List.take x2 l).getD i14 default))))
 (o14:q4m b l (∀ (x2:Nat),q4p b l x2 ((List.take x2 l).length<=65536)))
 (o15:q4m b l (∀ (x2:Nat),q4o l x2 ((!hasG (stds b) (l.getD x2 default))=false->(!!hasG (stds b) (l.getD x2 default))=true)))
 (o16:q4m b l (∀ (x2:Nat),q4q b l x2 ((twiceTo b l x2).length + 1<=65536)))
 (o17:q4m b l (∀ (x2:Nat),q4q b l x2 (inI ((x2:Int) + 1))))
 (o18:q4m b l (∀ (x2:Nat),q4q b l x2 ((x2:Int) + 1=(↑(x2 + 1):Int))))
 (o19:q4m b l (∀ (x2:Nat),q4q b l x2 ((twiceTo b l x2).length + 1=(twiceTo b l (x2 + 1)).length)))
 (o20:q4m b l (∀ (x2:Nat),q4q b l x2 (∀ (i20:Nat),i20 < (twiceTo b l x2).length + 1->catF (twiceTo b l x2).length (fun (i:Nat)=>[iv ((twiceTo b l x2).getD i 0)]) (fun (j:Nat)=>List.getD [[iv (x2:Int)]] j (TI.za ti3)) i20 = [iv ((twiceTo b l (x2 + 1)).getD i20 0)])))
 (o21:q4m b l (∀ (x2:Nat),q4q b l x2 (x2 + 1<=l.length)))
 (o22:q4m b l (∀ (x2:Nat),q4q b l x2 (l.length - (x2 + 1) < l.length - x2)))
 (o23:q4m b l (∀ (x2:Nat),q4r b l x2 (inI ((x2:Int) + 1))))
 (o24:q4m b l (∀ (x2:Nat),q4r b l x2 ((x2:Int) + 1=(↑(x2 + 1):Int))))
 (o25:q4m b l (∀ (x2:Nat),q4r b l x2 ((twiceTo b l x2).length=(twiceTo b l (x2 + 1)).length)))
 (o26:q4m b l (∀ (x2:Nat),q4r b l x2 (∀ (i22:Nat),i22 < (twiceTo b l x2).length -> [iv ((twiceTo b l x2).getD i22 0)] = [iv ((twiceTo b l (x2 + 1)).getD i22 0)])))
 (o27:q4m b l (∀ (x2:Nat),q4r b l x2 (x2 + 1<=l.length)))
 (o28:q4m b l (∀ (x2:Nat),q4r b l x2 (l.length - (x2 + 1) < l.length - x2)))
 (o29:q4m b l (∀ (x2:Nat),q4n l x2 (decide ((x2:Int) < (↑(l.length):Int))=false->(twiceTo b l x2).length=(twL b l).length)))
 (o30:q4m b l (∀ (x2:Nat),q4n l x2 (decide ((x2:Int) < (↑(l.length):Int))=false -> ∀ (i24:Nat),i24 < (twL b l).length -> [iv ((twiceTo b l x2).getD i24 0)] = [iv ((twL b l).getD i24 0)])))
 (o31:q4m b l (∀ (x2:Nat),q4n l x2 (decide ((x2:Int) < (↑(l.length):Int))=false->0=twE b l))) :
  Triple Tryz.prog 29 (s29 b l):=by
 refine triple_of Tryz.func29 rfl Tryz.call29 T0_ok _ rfl rfl rfl rfl (Nat.le_of_ble_eq_true (by kernel_rfl)) (fun _ _ _ _ h=>h) ?_
 intro hpre C hC _ hE
 obtain ⟨P,w0,E0,av,hA,ro,df⟩:=C
 obtain ⟨rfl,rfl,rfl⟩:=hC
 refine swp_seq ?_
 refine zR [1,2] [0] (Ak 3 tv) ?_
 refine swp_seq ?_
 refine zC ([(4,CallSpec.eq (s43 b (decide ((↑(l.length):Int)<=20))) [true,true])]) [1,6,7] [] (Ak 4 (An (An (An (zr (AV.agg (cBk b))) (An (zr (bv (decide ((↑(l.length):Int)<=20)))) tv)) (An (t43 (b) (decide ((↑(l.length):Int)<=20))) (An hpre.1 (Ak 1 (fun (i0:Env)=>tv))))) (Ak 5 tv))) ?_
 refine swp_seq ?_
 refine swp_seq ?_
 refine zR [1,6,7,20] [] (Ak 2 tv) ?_
 refine zI (!decide (openE b (decide ((↑(l.length):Int)<=20))=0)) (fun y1 => ?_) (fun y1 => ?_)
 ·refine swp_seq ?_
  refine zR [4,5] [] (Ak 3 tv) ?_
  refine swp_ret ?_
  exact zT [] (An (Ak 2 tv) (An (An (o0 hpre y1) (An (An (ci (o1 hpre y1)) (zr nilN)) tv)) (An (zr true) (An (zr true) (zr true)))))
 ·refine swp_skip ?_
  refine swp_seq ?_
  refine zR [1,6,8] [] (Ak 1 tv) ?_
  refine swp_seq ?_
  refine swp_seq ?_
  refine zR [1,6,8,22,23,24] [] (Ak 3 tv) ?_
  refine swp_block ?_
  refine zL (Hint.ann (h29 b l) [(1,aDays l),(6,AV.opt (okBook b && decide ((↑(l.length):Int)<=20)) (cWk b)),(22,aDays l),(23,iv (↑(l.length):Int))] [] 10152) (zE hE [] [(5000,.nil)] [1,6,22,23] [] (An (An (An (zr (aDays l)) (zr true)) (An (An (zr (AV.opt (okBook b && decide ((↑(l.length):Int)<=20)) (cWk b))) (zr true)) (An (An (zr (aDays l)) (zr true)) (An (An (zr (iv (↑(l.length):Int))) (zr true)) (An (zr (some Src.nil)) (An (An (ci (o2 hpre y1)) (zr nilN)) tv)))))) (An (An (o3 hpre y1) tv) (An (zr true) (zr true))))) (o4 hpre y1) (fun (x2:Nat) hx2 => ?_)
  refine swp_seq ?_
  refine zR [1,6,22,23,8,24,25] [5000] (Ak 1 tv) ?_
  refine swp_seq ?_
  refine zI (decide ((x2:Int) < (↑(l.length):Int))) (fun y3 => ?_) (fun y3 => ?_)
  ·refine swp_skip ?_
   refine swp_seq ?_
   refine swp_block ?_
   refine swp_seq ?_
   refine zR [1,6,22,23,8,24,10,9] [5000,10184] (Ak 1 (An (An (o5 hpre y1 x2 hx2 y3) (o6 hpre y1 x2 hx2 y3)) (Ak 4 tv))) ?_
   refine swp_seq ?_
   refine zC ([(5,CallSpec.eq (c29a b l x2) [true,true]),(12,CallSpec.eq (c29b b l x2) [false,true])]) [1,6,22,23,8,24,9,42] [5000] (Ak 1 (An (o7 hpre y1 x2 hx2 y3) (An (o8 hpre y1 x2 hx2 y3) (Ak 2 (An (An (An (zr (aDays (stds b))) (An (zr (AV.agg (cSday (l.getD x2 default)))) tv)) (An (t59 (stds b) (l.getD x2 default)) (An (o9 hpre y1 x2 hx2 y3) (Ak 1 (fun (i4:Env)=>tv))))) (Ak 2 (An (fun (y5:(!!hasG (stds b) (l.getD x2 default))=true)=>(An (Ak 1 tv) tv)) (An (fun (y6:(!!hasG (stds b) (l.getD x2 default))=true)=>(An (Ak 1 tv) tv)) (An (fun (y7:(!!hasG (stds b) (l.getD x2 default))=true)=>(An (An (fun (y8:(!!hasG (stds b) (l.getD x2 default))=true)=>y7) (An (fun (y9:(!!hasG (stds b) (l.getD x2 default))=true)=>y7) tv)) (An (o10 hpre y1 x2 hx2 y3 y7) (o11 hpre y1 x2 hx2 y3 y7)))) (An (fun (y10:(!!hasG (stds b) (l.getD x2 default))=true)=>(An (Ak 1 tv) tv)) (An (fun (y11:(!!hasG (stds b) (l.getD x2 default))=true)=>(An (Ak 1 (An (fun (y12:(!!hasG (stds b) (l.getD x2 default))=true)=>y11) (An (fun (y13:(!!hasG (stds b) (l.getD x2 default))=true)=>y11) tv))) (An (An (An (zr 2) (An (o12 hpre y1 x2 hx2 y3 y11) (fun (i14:Nat)=>(fun (y15:i14 < (List.take x2 l).length)=>(o13 hpre y1 x2 hx2 y3 y11 i14 y15))))) (An (zr (AV.agg (cSday (l.getD x2 default)))) tv)) (An (t59 (List.take x2 l) (l.getD x2 default)) (An (o14 hpre y1 x2 hx2 y3 y11) (Ak 1 (fun (i16:Env)=>tv))))))) (An (An (fun (y17:(!hasG (stds b) (l.getD x2 default))=true)=>tv) (fun (y18:(!hasG (stds b) (l.getD x2 default))=false)=>(o15 hpre y1 x2 hx2 y3 y18))) tv)))))))))))) ?_
   refine zI (bif !hasG (stds b) (l.getD x2 default) then true else hasG (List.take x2 l) (l.getD x2 default)) (fun y19 => ?_) (fun y19 => ?_)
   ·refine zR [1,6,22,23,8,24] [10344] (Ak 3 (An (o16 hpre y1 x2 hx2 y3 y19) (Ak 1 tv))) ?_
    refine zR [1,6,22,23,8,24] [10344] (An (o17 hpre y1 x2 hx2 y3 y19) (Ak 1 tv)) ?_
    exact zn (zE hE [] [(5000,.same 10344)] [1,6,22,23] [] (An (An (An (zr (aDays l)) (zr true)) (An (An (zr (AV.opt (okBook b && decide ((↑(l.length):Int)<=20)) (cWk b))) (zr true)) (An (An (zr (aDays l)) (zr true)) (An (An (zr (iv (↑(l.length):Int))) (zr true)) (An (zr (some (Src.same 10344))) (An (An (ci (o18 hpre y1 x2 hx2 y3 y19)) (zr nilN)) tv)))))) (An (An (An (zr 3) (An (zr 1) (An (o19 hpre y1 x2 hx2 y3 y19) (fun (i20:Nat)=>(fun (y21:i20 < (twiceTo b l x2).length + 1)=>(o20 hpre y1 x2 hx2 y3 y19 i20 y21)))))) tv) (An (zr true) (zr true))))) (o21 hpre y1 x2 hx2 y3 y19) (o22 hpre y1 x2 hx2 y3 y19)
   ·refine swp_skip ?_
    refine zR [1,6,22,23,8,24] [5000] (An (o23 hpre y1 x2 hx2 y3 y19) (Ak 1 tv)) ?_
    exact zn (zE hE [] [(5000,.same 5000)] [1,6,22,23] [] (An (An (An (zr (aDays l)) (zr true)) (An (An (zr (AV.opt (okBook b && decide ((↑(l.length):Int)<=20)) (cWk b))) (zr true)) (An (An (zr (aDays l)) (zr true)) (An (An (zr (iv (↑(l.length):Int))) (zr true)) (An (zr (some (Src.same 5000))) (An (An (ci (o24 hpre y1 x2 hx2 y3 y19)) (zr nilN)) tv)))))) (An (An (An (zr 3) (An (zr 1) (An (o25 hpre y1 x2 hx2 y3 y19) (fun (i22:Nat)=>(fun (y23:i22 < (twiceTo b l x2).length)=>(o26 hpre y1 x2 hx2 y3 y19 i22 y23)))))) tv) (An (zr true) (zr true))))) (o27 hpre y1 x2 hx2 y3 y19) (o28 hpre y1 x2 hx2 y3 y19)
  ·refine swp_exit ?_
   refine swp_seq ?_
   refine zR [4,5] [5000] (Ak 3 tv) ?_
   refine swp_ret ?_
   exact zT [5000] (An (Ak 2 tv) (An (An (An (zr 1) (An (o29 hpre y1 x2 hx2 y3) (fun (i24:Nat)=>(fun (y25:i24 < (twL b l).length)=>(o30 hpre y1 x2 hx2 y3 i24 y25))))) (An (An (ci (o31 hpre y1 x2 hx2 y3)) (zr nilN)) tv)) (An (zr true) (An (zr true) (zr true)))))
theorem t29 (b:Book) (l:List Sday):Triple Tryz.prog 29 (s29 b l):=by
  apply w29
  all_goals (try delta q4l q4m q4n q4o q4p q4q q4r)
  all_goals (intro hp h; rw [open_ok8] at h)
  case o0=>simp only [Bool.not_eq_true'] at h; unfold twL; rw [h]; rfl
  case o1=>rfl
  all_goals (simp only [Bool.not_eq_false'] at h; have hh:=h; rw [Bool.and_eq_true] at hh; have hs:=ok_soundB hh.1; have hst:=stds_small hs)
  case o3=>rfl
  case o4=>omega
  all_goals (intro x hx hl; simp only [decide_eq_true_eq,decide_eq_false_iff_not] at hl)
  case o7 | o8=>all_goals exact h
  case o12=>intro _; rw [List.length_take]; omega
  case o13=>intro _ i hi; rw [take_getD _ _ (by rw [List.length_take] at hi; omega)]
  case o14=>intro _; rw [List.length_take]; omega
  case o15=>intro h0; rw [h0]; rfl
  case o29 => have : x = l.length := by omega
              unfold twL; rw [h,this]; rfl
  case o30 => have : x = l.length := by omega
              intro i _; unfold twL; rw [h,this]; rfl
  case o31=>exact (open_zero h).symm
  all_goals (try (first | omega | rfl))
  all_goals (try (intro hc; rw [twice_cond] at hc; have htl:=twiceTo_len b l x))
  case o16=>omega
  case o19=>rw [twiceTo_t hc,List.length_append]; rfl
  case o20=>intro i hi; rw [twiceTo_t hc]; exact catF_one _ _ 0 (fun z=>[iv z]) rfl (fun _ _=>rfl) rfl hi
  case o25=>rw [twiceTo_f hc]
  case o26=>intro i _; rw [twiceTo_f hc]
  all_goals (first | omega | (simp only [inI]; omega) | (intros; omega))
abbrev q53 (b:Book) (is:Bool) (P:Prop):Prop:=smallB b/\okBook b=true/\is=true->P
abbrev q54 (b:Book) (x1:Nat) (P:Prop):Prop:=x1<=b.shown.length->P
abbrev q55 (b:Book) (x1:Nat) (P:Prop):Prop:=q54 b x1 (decide ((x1:Int) < (↑(b.shown.length):Int))=true->P)
abbrev q56 (b:Book) (x1:Nat) (P:Prop):Prop:=q54 b x1 (decide ((x1:Int) < (↑(b.shown.length):Int))=false->P)
theorem wio43p (b:Book) (is:Bool)
 (o0:q53 b is ((!decide (checkB b=0))=false))
 (o1:q53 b is ((!is)=false))
 (o2:q53 b is (0=(↑0:Int)))
 (o3:q53 b is ((List.take 0 (rawD b)).length=0))
 (o4:q53 b is (0<=b.shown.length))
 (o5:q53 b is (∀ (x1:Nat),q55 b x1 (0<=(x1:Int))))
 (o6:q53 b is (∀ (x1:Nat),q55 b x1 ((x1:Int) < (↑(b.shown.length):Int))))
 (o7:q53 b is (∀ (x1:Nat),q55 b x1 ((List.take x1 (rawD b)).length + 1<=65536)))
 (o8:q53 b is (∀ (x1:Nat),q55 b x1 (inI ((x1:Int) + 1))))
 (o9:q53 b is (∀ (x1:Nat),q55 b x1 ((x1:Int) + 1=(↑(x1 + 1):Int))))
 (o10:q53 b is (∀ (x1:Nat),q55 b x1 ((List.take x1 (rawD b)).length + 1=(List.take (x1 + 1) (rawD b)).length)))
 (o11:q53 b is (∀ (x1:Nat),q55 b x1 (∀ (i15:Nat),i15 < (List.take x1 (rawD b)).length + 1->catF (List.take x1 (rawD b)).length (fun (i:Nat)=>cSday ((List.take x1 (rawD b)).getD i default)) (fun (j:Nat)=>List.getD [[iv (shB b x1).ad,iv (shB b x1).day]] j (TI.za ti54)) i15=cSday ((List.take (x1 + 1) (rawD b)).getD i15 default))))
 (o12:q53 b is (∀ (x1:Nat),q55 b x1 (x1 + 1<=b.shown.length)))
 (o13:q53 b is (∀ (x1:Nat),q55 b x1 (b.shown.length - (x1 + 1) < b.shown.length - x1)))
 (o14:q53 b is (∀ (x1:Nat),q56 b x1 ((rawD b).length<=12)))
 (o15:q53 b is (∀ (x1:Nat),q56 b x1 (okDs (rawD b))))
 (o16:q53 b is (∀ (x1:Nat),q56 b x1 (some (OB.vec 54 2 (List.take x1 (rawD b)).length fun (i:Nat)=>cSday ((List.take x1 (rawD b)).getD i default))=some (OB.vec 54 2 (rawD b).length fun (i:Nat)=>cSday ((rawD b).getD i default)))))
 (o17:q53 b is (∀ (x1:Nat),q56 b x1 ((sortD (rawD b)).length<=65536)))
 (o18:q53 b is (∀ (x1:Nat),q56 b x1 ((cpL default (sortD (rawD b))).length=(stds b).length)))
 (o19:q53 b is (∀ (x1:Nat),q56 b x1 (∀ (i25:Nat),i25 < (stds b).length->cSday ((cpL default (sortD (rawD b))).getD i25 default)=cSday ((stds b).getD i25 default))))
 (o20:q53 b is (∀ (x1:Nat),q56 b x1 (some (OB.cells 71 (cWk b))=some (OB.cells 71 [AV.sl 2 b.lines.length fun (i:Nat)=>cSpan (lnB b i),AV.sl 3 b.shown.length fun (i:Nat)=>cShn (shB b i),iv b.rate,iv b.rep,AV.sl 4 b.ctrs.length fun (i:Nat)=>cCtr (ctB b i),aDays (stds b)]))))
  (l:List (Nat × Nat)) (hl:l.map (·.1) = [2]) (hnd:(l.map (·.2)).Nodup) :
  Triple Tryz.prog 43 (IoSpec.at (io43p b is) l):=by
 refine triple_io Tryz.func43 rfl Tryz.call43 T0_ok (io43p b is) 2 l (by rw [hl]; kernel_rfl) hnd (Nat.le_of_ble_eq_true (by kernel_rfl)) (fun _ _ _ _ h=>h) ?_
 intro hpre C hC _ hE
 obtain ⟨P,w0,E0,av,hA,ro,df⟩:=C
 obtain ⟨rfl,rfl,rfl⟩:=hC
 refine swp_seq ?_
 refine zR [1,2] [2] (Ak 3 tv) ?_
 refine swp_seq ?_
 refine swp_seq ?_
 refine zC ([(1,CallSpec.eq (s72 b) [true])]) [1,2,6] [2] (Ak 1 (An (An (An (zr (AV.agg (cBk b))) tv) (An (t72 (b)) (An hpre.1 (Ak 1 (fun (i0:Env)=>tv))))) (Ak 1 tv))) ?_
 refine swp_seq ?_
 refine zR [1,2,6,13] [2] (Ak 2 tv) ?_
 refine zI (!decide (checkB b=0)) (fun h=>by cases (h.symm.trans (o0 hpre))) (fun _ => ?_)
 refine swp_skip ?_
 refine swp_seq ?_
 refine swp_seq ?_
 refine zR [2,16] [2] (Ak 2 tv) ?_
 refine zI (!is) (fun h=>by cases (h.symm.trans (o1 hpre))) (fun _ => ?_)
 refine swp_skip ?_
 refine swp_seq ?_
 refine zR [2,7] [2,98] (Ak 4 tv) ?_
 refine swp_seq ?_
 refine swp_seq ?_
 refine zR [7,21,22,23] [98] (Ak 4 tv) ?_
 refine swp_block ?_
 refine zL (Hint.ann (h43d b is) [(7,AV.ptr 98 []),(21,AV.sl 3 b.shown.length fun (i:Nat)=>cShn (shB b i)),(22,iv (↑(b.shown.length):Int))] [] 10146) (zEn 2 hE [] [(98,.same 98),(5000,.nil)] [21,22] [] (An (An (An (zr (some (Src.same 98))) (zr nilP)) (An (An (zr (AV.sl 3 b.shown.length fun (i:Nat)=>cShn (shB b i))) (zr true)) (An (An (zr (iv (↑(b.shown.length):Int))) (zr true)) (An (An (ci (o2 hpre)) (zr nilN)) tv)))) (An (An (An (zr 71) (An (An (An (zr 2) (An (zr b.lines.length) (fun (i2:Nat)=>(fun (y3:i2 < b.lines.length)=>(zr (cSpan (lnB b i2))))))) (An (An (zr 3) (An (zr b.shown.length) (fun (i4:Nat)=>(fun (y5:i4 < b.shown.length)=>(zr (cShn (shB b i4))))))) (An (An (zr (iv b.rate)) (zr nilN)) (An (An (zr (iv b.rep)) (zr nilN)) (An (An (zr 4) (An (zr b.ctrs.length) (fun (i6:Nat)=>(fun (y7:i6 < b.ctrs.length)=>(zr (cCtr (ctB b i6))))))) (An (zr (some Src.nil)) tv)))))) (zr true))) (An (o3 hpre) tv)) (An (zr true) (zr true))))) (o4 hpre) (fun (x1:Nat) hx1 => ?_)
 refine swp_seq ?_
 refine zR [7,21,22,23,24] [98,5000] (Ak 1 tv) ?_
 refine swp_seq ?_
 refine zI (decide ((x1:Int) < (↑(b.shown.length):Int))) (fun y8 => ?_) (fun y8 => ?_)
 ·refine swp_skip ?_
  refine swp_seq ?_
  refine swp_block ?_
  refine swp_seq ?_
  refine zR [7,21,22,23,9] [98,10170,5000] (An (An (o5 hpre x1 hx1 y8) (o6 hpre x1 hx1 y8)) (Ak 3 tv)) ?_
  refine zR [7,21,22,23] [98,10274] (Ak 11 (An (o7 hpre x1 hx1 y8) (Ak 3 tv))) ?_
  refine zR [7,21,22,23] [98,10274] (An (o8 hpre x1 hx1 y8) (Ak 1 tv)) ?_
  exact zn (zEn 2 hE [] [(98,.same 98),(5000,.same 10274)] [21,22] [] (An (An (An (zr (some (Src.same 98))) (zr nilP)) (An (An (zr (AV.sl 3 b.shown.length fun (i:Nat)=>cShn (shB b i))) (zr true)) (An (An (zr (iv (↑(b.shown.length):Int))) (zr true)) (An (An (ci (o9 hpre x1 hx1 y8)) (zr nilN)) tv)))) (An (An (An (zr 71) (An (An (An (zr 2) (An (zr b.lines.length) (fun (i9:Nat)=>(fun (y10:i9 < b.lines.length)=>(zr (cSpan (lnB b i9))))))) (An (An (zr 3) (An (zr b.shown.length) (fun (i11:Nat)=>(fun (y12:i11 < b.shown.length)=>(zr (cShn (shB b i11))))))) (An (An (zr (iv b.rate)) (zr nilN)) (An (An (zr (iv b.rep)) (zr nilN)) (An (An (zr 4) (An (zr b.ctrs.length) (fun (i13:Nat)=>(fun (y14:i13 < b.ctrs.length)=>(zr (cCtr (ctB b i13))))))) (An (zr (some (Src.same 10274))) tv)))))) (zr true))) (An (An (zr 54) (An (zr 2) (An (o10 hpre x1 hx1 y8) (fun (i15:Nat)=>(fun (y16:i15 < (List.take x1 (rawD b)).length + 1)=>(o11 hpre x1 hx1 y8 i15 y16)))))) tv)) (An (zr true) (zr true))))) (o12 hpre x1 hx1 y8) (o13 hpre x1 hx1 y8)
 ·refine swp_exit ?_
  refine swp_seq ?_
  refine zC ([(4,CallSpec.eq (c43a b is) [true,true])]) [7] [98,5000] (Ak 4 (An (An (An (zr (AV.vec 5000)) (An (zr (AV.clo 74 [])) tv)) (An (t73 (5000) (rawD b)) (An (An (o14 hpre x1 hx1 y8) (o15 hpre x1 hx1 y8)) (An (An (o16 hpre x1 hx1 y8) tv) (fun (i17:Env)=>tv))))) tv)) ?_
  refine swp_seq ?_
  refine zC ([(5,CallSpec.eq (c43b b is) [true])]) [7] [98] (Ak 5 (An (An (An (zr (AV.vec 5000)) tv) (An (t76 (5000) (sortD (rawD b))) (An (o17 hpre x1 hx1 y8) (An (An (zr (some (OB.vec 54 2 (sortD (rawD b)).length fun (i:Nat)=>cSday ((sortD (rawD b)).getD i default)))) tv) (fun (i18:Env)=>tv))))) (Ak 3 tv))) ?_
  refine swp_seq ?_
  refine zR [4,5] [98] (Ak 3 tv) ?_
  refine swp_ret ?_
  exact zO (ASt.mk [(4,AV.ptr 2 []),(5,iv 0)] [(2,OB.cells 71 (cWk b))] 100) (zEn 2 hE [] [(2,.same 98)] [5] [] (An (An (An (zr (some (Src.same 98))) (zr nilP)) (An (An (zr (iv 0)) (zr true)) tv)) (An (An (An (zr 71) (An (An (An (zr 2) (An (zr b.lines.length) (fun (i19:Nat)=>(fun (y20:i19 < b.lines.length)=>(zr (cSpan (lnB b i19))))))) (An (An (zr 3) (An (zr b.shown.length) (fun (i21:Nat)=>(fun (y22:i21 < b.shown.length)=>(zr (cShn (shB b i21))))))) (An (An (zr (iv b.rate)) (zr nilN)) (An (An (zr (iv b.rep)) (zr nilN)) (An (An (zr 4) (An (zr b.ctrs.length) (fun (i23:Nat)=>(fun (y24:i23 < b.ctrs.length)=>(zr (cCtr (ctB b i23))))))) (An (An (zr 2) (An (o18 hpre x1 hx1 y8) (fun (i25:Nat)=>(fun (y26:i25 < (stds b).length)=>(o19 hpre x1 hx1 y8 i25 y26))))) tv)))))) (zr true))) tv) (An (zr true) (zr true))))) (An (Ak 2 tv) (An (zr (AV.tup [AV.ptr 2 [],iv 0])) (An (o20 hpre x1 hx1 y8) tv)))
theorem t43po (b:Book) (is:Bool) (id:Nat):Triple Tryz.prog 43 (s43po b is id):=by
 apply wio43p b is (l:=[(2,id)]) (hl:=rfl) (hnd:=by simp)
 all_goals (try delta q53 q54 q55 q56)
 all_goals (rintro ⟨hp,h,h2⟩)
 case o0=>rw [chk_b,h]; rfl
 case o1=>rw [h2]; rfl
 all_goals (have hs:=ok_soundB h; have hsh:=hs.shown)
 case o3=>rfl
 case o4=>omega
 all_goals (try (intro x hx hl; simp only [decide_eq_true_eq,decide_eq_false_iff_not] at hl))
 case o7=>rw [List.length_take]; omega
 case o10=>rw [List.length_take,List.length_take,raw_len]; omega
 case o11 =>
  intro i hi
  rw [take_succ _ default (by rw [raw_len]; omega)]
  exact snoc_cat default cSday _ _ (by rw [raw_get (by omega)]; rfl) i hi
 case o14=>rw [raw_len]; omega
 case o15=>exact raw_ok hs
 case o16=>rw [List.take_of_length_le (by rw [raw_len]; omega)]
 case o17=>rw [sortD_len,raw_len]; omega
 case o18=>rw [cp_stds hs]
 case o19=>intro i hi; rw [cp_stds hs]
 all_goals (first | omega | rfl | (simp only [inI]; omega))
abbrev q5b (b:Book) (ls:List Int) (is:Bool) (P:Prop):Prop:=smallB b/\ls.length<=60000/\okBook b=true/\is=true/\areLnB b ls=true->P
theorem wio31p (b:Book) (ls:List Int) (is:Bool)
 (o0:q5b b ls is ((bif is then decide ((↑(ls.length):Int)=(↑(b.lines.length):Int)) else false)=true->ls.length<=65536))
 (o1:q5b b ls is ((bif bif is then decide ((↑(ls.length):Int)=(↑(b.lines.length):Int)) else false then !anyW ls else false)=true))
 (o2:q5b b ls is (okBook b=true))
 (o3:q5b b ls is (some (OB.cells 71 (cWk b))=some (OB.cells 71 [AV.sl 2 b.lines.length fun (i:Nat)=>cSpan (lnB b i),AV.sl 3 b.shown.length fun (i:Nat)=>cShn (shB b i),iv b.rate,iv b.rep,AV.sl 4 b.ctrs.length fun (i:Nat)=>cCtr (ctB b i),aDays (stds b)])))
  (l:List (Nat × Nat)) (hl:l.map (·.1) = [2]) (hnd:(l.map (·.2)).Nodup) :
  Triple Tryz.prog 31 (IoSpec.at (io31p b ls is) l):=by
 refine triple_io Tryz.func31 rfl Tryz.call31 T0_ok (io31p b ls is) 2 l (by rw [hl]; kernel_rfl) hnd (Nat.le_of_ble_eq_true (by kernel_rfl)) (fun _ _ _ _ h=>h) ?_
 intro hpre C hC _ hE
 obtain ⟨P,w0,E0,av,hA,ro,df⟩:=C
 obtain ⟨rfl,rfl,rfl⟩:=hC
 refine swp_seq ?_
 refine zR [1,2,3] [2] (Ak 3 tv) ?_
 refine swp_seq ?_
 refine zC ([(11,CallSpec.eq (s60 ls) [false,true])]) [2,3] [2] (Ak 2 (An (fun (y0:is=true)=>(An (Ak 1 tv) tv)) (An (fun (y1:is=true)=>(An (An (fun (y2:is=true)=>y1) tv) tv)) (An (fun (y3:is=true)=>(An (Ak 1 tv) tv)) (An (fun (y4:is=true)=>(An (An (fun (y5:is=true)=>y4) tv) tv)) (An (fun (y6:is=true)=>(An (An (fun (y7:is=true)=>y6) tv) tv)) (An (fun (y8:is=true)=>(An (An (fun (y9:is=true)=>y8) (An (fun (y10:is=true)=>y8) tv)) tv)) (An (An (fun (y11:is=true)=>y11) (fun (y12:is=false)=>tv)) (Ak 1 (An (fun (y13:(bif is then decide ((↑(ls.length):Int)=(↑(b.lines.length):Int)) else false)=true)=>(An (Ak 1 tv) tv)) (An (fun (y14:(bif is then decide ((↑(ls.length):Int)=(↑(b.lines.length):Int)) else false)=true)=>(An (Ak 1 (An (fun (y15:(bif is then decide ((↑(ls.length):Int)=(↑(b.lines.length):Int)) else false)=true)=>y14) (Ak 1 tv))) (An (An (An (zr 1) (An (zr ls.length) (fun (i16:Nat)=>(fun (y17:i16 < ls.length)=>(zr ([iv (ls.getD i16 0)])))))) (An (zr (AV.clo 61 [])) tv)) (An (t60 (ls)) (An (o0 hpre y14) (Ak 1 (fun (i18:Env)=>tv))))))) (An (fun (y19:(bif is then decide ((↑(ls.length):Int)=(↑(b.lines.length):Int)) else false)=true)=>(An (An (fun (y20:(bif is then decide ((↑(ls.length):Int)=(↑(b.lines.length):Int)) else false)=true)=>y19) tv) tv)) (An (An (fun (y21:(bif is then decide ((↑(ls.length):Int)=(↑(b.lines.length):Int)) else false)=true)=>y21) (fun (y22:(bif is then decide ((↑(ls.length):Int)=(↑(b.lines.length):Int)) else false)=false)=>tv)) (Ak 1 tv)))))))))))))) ?_
 refine swp_seq ?_
 refine zC ([(2,CallSpec.eq (c31p b ls is 162) [true,false])]) [6,7] [162] (Ak 2 (An (An (An (zr (AV.agg (cBk b))) (An (cb (o1 hpre)) tv)) (An (t43po (b) (true) (162)) (An (An hpre.1 (An (o2 hpre) (zr true))) (Ak 1 (fun (i23:Env)=>tv))))) (Ak 4 tv))) ?_
 refine swp_ret ?_
 exact zO (ASt.mk [(6,AV.ptr 2 []),(7,iv 0)] [(2,OB.cells 71 (cWk b))] 100) (zEn 2 hE [] [(2,.same 162)] [7] [] (An (An (An (zr (some (Src.same 162))) (zr nilP)) (An (An (zr (iv 0)) (zr true)) tv)) (An (An (An (zr 71) (An (An (An (zr 2) (An (zr b.lines.length) (fun (i24:Nat)=>(fun (y25:i24 < b.lines.length)=>(zr (cSpan (lnB b i24))))))) (An (An (zr 3) (An (zr b.shown.length) (fun (i26:Nat)=>(fun (y27:i26 < b.shown.length)=>(zr (cShn (shB b i26))))))) (An (An (zr (iv b.rate)) (zr nilN)) (An (An (zr (iv b.rep)) (zr nilN)) (An (An (zr 4) (An (zr b.ctrs.length) (fun (i28:Nat)=>(fun (y29:i28 < b.ctrs.length)=>(zr (cCtr (ctB b i28))))))) (An (An (zr 2) (An (zr (stds b).length) (fun (i30:Nat)=>(fun (y31:i30 < (stds b).length)=>(zr (cSday ((stds b).getD i30 default))))))) tv)))))) (zr true))) tv) (An (zr true) (zr true))))) (An (Ak 2 tv) (An (zr (AV.tup [AV.ptr 2 [],iv 0])) (An (o3 hpre) tv)))
theorem t31po (b:Book) (ls:List Int) (is:Bool) (id:Nat):Triple Tryz.prog 31 (s31po b ls is id):=by
 apply wio31p b ls is (l:=[(2,id)]) (hl:=rfl) (hnd:=by simp)
 all_goals (try delta q5b)
 all_goals (rintro ⟨hp,h1,h2,h3,h4⟩)
 case o1=>rw [any_are,h3,h4]; rfl
 all_goals (first | exact h2 | rfl | omega | exact hp)
theorem wo40 (cs:List Ctr)
  (o0:0 < cs.length/\cs.length<=60000->0 + cs.length<=65536)
  (o1:0 < cs.length/\cs.length<=60000->0 + cs.length=cs.length)
  (l:List (Nat × Nat)) (hl:l.map (·.1)=(OutSpec.hout (ou40 cs)).map (·.1)) (hnd:(l.map (·.2)).Nodup) :
  Triple Tryz.prog 40 (OutSpec.at (ou40 cs) l):=by
 refine triple_out Tryz.func40 rfl Tryz.call40 T0_ok _ _ _ _ l rfl (Nat.le_of_ble_eq_true (by kernel_rfl)) hl hnd (by kernel_rfl) (by kernel_rfl) (by kernel_rfl) ?_
 intro hpre C hC hE
 obtain ⟨P,w0,E0,av,hA,ro,df⟩:=C
 obtain ⟨rfl,rfl,rfl⟩:=hC
 refine swp_seq ?_
 refine zR [0] [] (Ak 1 tv) ?_
 refine swp_seq ?_
 refine swp_seq ?_
 refine zR [0,4] [] (Ak 1 (An hpre.1 tv)) ?_
 refine zf ?_
 refine swp_skip ?_
 refine swp_seq ?_
 refine zR [2] [40] (Ak 2 (An (o0 hpre) (Ak 1 tv))) ?_
 refine swp_ret ?_
 exact zO (ASt.mk [(2,AV.vec 0)] [(0,OB.vec 68 4 cs.length fun (i:Nat)=>cCtr (cs.getD i default))] 100) (zE hE [] [(0,.same 40)] [] [] (An (An (zr (some (Src.same 40))) tv) (An (An (An (zr 68) (An (zr 4) (An (o1 hpre) (fun (i0:Nat)=>(fun (y1:i0 < 0 + cs.length)=>(zr (cCtr (cs.getD i0 default)))))))) tv) (An (zr true) (zr true))))) (An (Ak 1 tv) (An (zr (AV.vec 0)) (An (zr (some (OB.vec 68 4 cs.length fun (i:Nat)=>cCtr (cs.getD i default)))) tv)))
theorem t40o (cs:List Ctr) (id:Nat):Triple Tryz.prog 40 (s40o cs id):=by
 apply wo40 cs (l:=[(0,id)]) (hl:=rfl) (hnd:=by simp)
 all_goals (first | ((repeat intro _) <;> (try simp only [Bool.cond_true_left,Bool.cond_false_right,Bool.not_not,Bool.not_eq_true',Bool.not_eq_false',Bool.or_eq_true,Bool.or_eq_false_iff,Bool.and_eq_true,decide_eq_true_eq,decide_eq_false_iff_not,inI,big] at *) <;> first | (exact rfl) | omega | (exact ⟨Nat.zero_le _,fun j hj=>absurd hj (Nat.not_lt_zero j)⟩) | (simp_all; done) | (simp_all; omega)) | skip)
theorem wo50 (cs:List Span)
  (o0:0 < cs.length/\cs.length<=60000->0 + cs.length<=65536)
  (o1:0 < cs.length/\cs.length<=60000->0 + cs.length=cs.length)
  (l:List (Nat × Nat)) (hl:l.map (·.1)=(OutSpec.hout (ou50 cs)).map (·.1)) (hnd:(l.map (·.2)).Nodup) :
  Triple Tryz.prog 50 (OutSpec.at (ou50 cs) l):=by
 refine triple_out Tryz.func50 rfl Tryz.call50 T0_ok _ _ _ _ l rfl (Nat.le_of_ble_eq_true (by kernel_rfl)) hl hnd (by kernel_rfl) (by kernel_rfl) (by kernel_rfl) ?_
 intro hpre C hC hE
 obtain ⟨P,w0,E0,av,hA,ro,df⟩:=C
 obtain ⟨rfl,rfl,rfl⟩:=hC
 refine swp_seq ?_
 refine zR [0] [] (Ak 1 tv) ?_
 refine swp_seq ?_
 refine swp_seq ?_
 refine zR [0,4] [] (Ak 1 (An hpre.1 tv)) ?_
 refine zf ?_
 refine swp_skip ?_
 refine swp_seq ?_
 refine zR [2] [40] (Ak 2 (An (o0 hpre) (Ak 1 tv))) ?_
 refine swp_ret ?_
 exact zO (ASt.mk [(2,AV.vec 0)] [(0,OB.vec 41 2 cs.length fun (i:Nat)=>cSpan (cs.getD i default))] 100) (zE hE [] [(0,.same 40)] [] [] (An (An (zr (some (Src.same 40))) tv) (An (An (An (zr 41) (An (zr 2) (An (o1 hpre) (fun (i0:Nat)=>(fun (y1:i0 < 0 + cs.length)=>(zr (cSpan (cs.getD i0 default)))))))) tv) (An (zr true) (zr true))))) (An (Ak 1 tv) (An (zr (AV.vec 0)) (An (zr (some (OB.vec 41 2 cs.length fun (i:Nat)=>cSpan (cs.getD i default)))) tv)))
theorem t50o (cs:List Span) (id:Nat):Triple Tryz.prog 50 (s50o cs id):=by
 apply wo50 cs (l:=[(0,id)]) (hl:=rfl) (hnd:=by simp)
 all_goals (first | ((repeat intro _) <;> (try simp only [Bool.cond_true_left,Bool.cond_false_right,Bool.not_not,Bool.not_eq_true',Bool.not_eq_false',Bool.or_eq_true,Bool.or_eq_false_iff,Bool.and_eq_true,decide_eq_true_eq,decide_eq_false_iff_not,inI,big] at *) <;> first | (exact rfl) | omega | (exact ⟨Nat.zero_le _,fun j hj=>absurd hj (Nat.not_lt_zero j)⟩) | (simp_all; done) | (simp_all; omega)) | skip)
abbrev q5c (cs:List Ctr) (c:Nat) (P:Prop):Prop:=c + 1 < cs.length/\cs.length<=64->P
theorem wio39a (cs:List Ctr) (c:Nat)
 (o0:q5c cs c (0<=(c:Int)))
 (o1:q5c cs c ((c:Int)<=(c:Int) + 1))
 (o2:q5c cs c ((c:Int) + 1<=(↑(cs.length):Int)))
 (o3:q5c cs c ((↑(cs.length):Int)<=(↑(cs.length):Int)))
 (o4:q5c cs c (0 < cs.length))
 (o5:q5c cs c (decide ((c:Int)=(c:Int) + 1)=false))
 (o6:q5c cs c (0<=(c:Int)))
 (o7:q5c cs c ((c:Int)<=(↑(cs.length):Int)))
 (o8:q5c cs c (0 < cs.length))
 (o9:q5c cs c (0<=(c:Int) + 1))
 (o10:q5c cs c ((c:Int) + 1 < (↑(cs.length):Int)))
 (o11:q5c cs c (c + (cs.length - ((c:Int) + 1).toNat)<=cs.length))
 (o12:q5c cs c (cs.length<=cs.length))
 (o13:q5c cs c (((c:Int) + 1).toNat + (cs.length - ((c:Int) + 1).toNat)<=cs.length))
 (o14:q5c cs c (0<=(↑(c + (cs.length - ((c:Int) + 1).toNat)):Int)))
 (o15:q5c cs c ((↑(c + (cs.length - ((c:Int) + 1).toNat)):Int)<=(↑(cs.length):Int)))
 (o16:q5c cs c ((↑(cs.length):Int)<=(↑(cs.length):Int)))
 (o17:q5c cs c ((↑(c + (cs.length - ((c:Int) + 1).toNat)):Int) < (↑(cs.length):Int)))
 (o18:q5c cs c (c + (cs.length - ((c:Int) + 1).toNat) + (cs.length - (c + (cs.length - ((c:Int) + 1).toNat)))=cs.length))
 (o19:q5c cs c (0 < cs.length - (c + (cs.length - ((c:Int) + 1).toNat))))
 (o20:q5c cs c (c + (cs.length - ((c:Int) + 1).toNat)<=cs.length))
 (o21:q5c cs c (0 < cs.length))
 (o22:q5c cs c (c + (cs.length - ((c:Int) + 1).toNat)=(cutC cs c).length))
 (o23:q5c cs c (∀ (i0:Nat),i0 < c + (cs.length - ((c:Int) + 1).toNat)->Decidable.rec (fun (h:¬i0 < c + (cs.length - ((c:Int) + 1).toNat))=>[iv 0,iv 0,iv 0,iv 0]) (fun (h:i0 < c + (cs.length - ((c:Int) + 1).toNat))=>Decidable.rec (fun (h:¬i0 < c)=>if i0 < c + (cs.length - ((c:Int) + 1).toNat) then cCtr (cs.getD (((c:Int) + 1).toNat + (i0 - c)) default) else cCtr (cs.getD i0 default)) (fun (h:i0 < c)=>cCtr (cs.getD i0 default)) (Nat.decLt i0 c)) (Nat.decLt i0 (c + (cs.length - ((c:Int) + 1).toNat)))=cCtr ((cutC cs c).getD i0 default)))
  (l:List (Nat × Nat)) (hl:l.map (·.1) = [0,3]) (hnd:(l.map (·.2)).Nodup) :
  Triple Tryz.prog 39 (IoSpec.at (io39a cs c) l):=by
 refine triple_io Tryz.func39 rfl Tryz.call39 T0_ok (io39a cs c) 2 l (by rw [hl]; kernel_rfl) hnd (Nat.le_of_ble_eq_true (by kernel_rfl)) (fun _ _ _ _ h=>h) ?_
 intro hpre C hC _ hE
 obtain ⟨P,w0,E0,av,hA,ro,df⟩:=C
 obtain ⟨rfl,rfl,rfl⟩:=hC
 refine swp_seq ?_
 refine zR [0,1,2] [0] (Ak 1 tv) ?_
 refine swp_seq ?_
 refine zR [0,1,2] [0] (Ak 5 (An (An (o0 hpre) (An (o1 hpre) (An (o2 hpre) (An (o3 hpre) (o4 hpre))))) tv)) ?_
 refine swp_seq ?_
 refine swp_seq ?_
 refine zR [0,1,2,16] [0] (Ak 3 tv) ?_
 refine zI (decide ((c:Int)=(c:Int) + 1)) (fun h=>by cases (h.symm.trans (o5 hpre))) (fun _ => ?_)
 refine swp_skip ?_
 refine swp_seq ?_
 refine zR [0,1,2,7] [0] (Ak 3 tv) ?_
 refine swp_seq ?_
 refine zR [0,7] [0] (Ak 2 (An (An (o6 hpre) (An (o7 hpre) (o8 hpre))) (Ak 2 (An (An (o9 hpre) (o10 hpre)) (An (An (o11 hpre) (An (o12 hpre) (o13 hpre))) (Ak 1 tv)))))) ?_
 refine swp_seq ?_
 refine zR [0] [0] (Ak 4 (An (An (o14 hpre) (An (o15 hpre) (An (o16 hpre) (o17 hpre)))) (An (An (o18 hpre) (o19 hpre)) tv))) ?_
 refine swp_seq ?_
 refine zC ([(0,focM)]) [6] [218] (An (An (o20 hpre) (o21 hpre)) (Ak 1 tv)) ?_
 refine swp_ret ?_
 exact zO (ASt.mk [(6,AV.vec 3)] [(3,OB.vec 68 4 (cutC cs c).length fun (i:Nat)=>cCtr ((cutC cs c).getD i default))] 100) (zEn 2 hE [] [(3,.same 218)] [] [] (An (An (zr (some (Src.same 218))) tv) (An (An (An (zr 68) (An (zr 4) (An (o22 hpre) (fun (i0:Nat)=>(fun (y1:i0 < c + (cs.length - ((c:Int) + 1).toNat))=>(o23 hpre i0 y1)))))) tv) (An (zr true) (zr true))))) (An (Ak 1 tv) (An (zr (AV.vec 3)) (An (zr (some (OB.vec 68 4 (cutC cs c).length fun (i:Nat)=>cCtr ((cutC cs c).getD i default)))) tv)))
theorem cut_len {cs:List Ctr} {c:Nat} (h:c < cs.length):(cutC cs c).length + 1=cs.length:=by
 unfold cutC; rw [List.length_append,List.length_take,List.length_drop]; omega
theorem cut_get {cs:List Ctr} {c i:Nat} (h:c < cs.length):(cutC cs c).getD i default=if i < c then cs.getD i default else cs.getD (c + 1 + (i - c)) default:=by
 unfold cutC
 rw [getD_append,List.length_take,Nat.min_eq_left (by omega)]
 by_cases hi:i < c
 ·rw [if_pos hi,if_pos hi,take_getD _ _ hi]
 ·rw [if_neg hi,if_neg hi,List.getD_eq_getElem?_getD,List.getElem?_drop,← List.getD_eq_getElem?_getD]
theorem t39a (b:Nat) (cs:List Ctr) (c:Nat) (id:Nat) (hid:[b,id].Nodup:=by decide):Triple Tryz.prog 39 ((io39a cs c).at [(0,b),(3,id)]):=by
 apply wio39a cs c (l:=[(0,b),(3,id)]) (hl:=rfl) (hnd:=hid)
 all_goals (try delta q5c)
 all_goals (rintro ⟨h1,h2⟩; have hcl:=cut_len (cs:=cs) (c:=c) (by omega))
 case o5=>exact decide_eq_false (by omega)
 case o22=>omega
 case o23 =>
  intro i hi
  rw [cut_get (by omega)]
  refine rec_lt8 (fun h=>by omega) (fun h => ?_)
  refine rec_lt8 (fun h3 => ?_) (fun h3 => ?_)
  ·rw [if_pos h,if_neg h3]; rfl
  ·rw [if_pos h3]
 all_goals omega
abbrev q5d (cs:List Ctr) (c:Nat) (P:Prop):Prop:=c + 1=cs.length/\cs.length<=64->P
theorem wio39b (cs:List Ctr) (c:Nat)
 (o0:q5d cs c (0<=(c:Int)))
 (o1:q5d cs c ((c:Int)<=(c:Int) + 1))
 (o2:q5d cs c ((c:Int) + 1<=(↑(cs.length):Int)))
 (o3:q5d cs c ((↑(cs.length):Int)<=(↑(cs.length):Int)))
 (o4:q5d cs c (0 < cs.length))
 (o5:q5d cs c (decide ((c:Int)=(c:Int) + 1)=false))
 (o6:q5d cs c (0<=(c:Int)))
 (o7:q5d cs c ((c:Int)<=(↑(cs.length):Int)))
 (o8:q5d cs c (0 < cs.length))
 (o9:q5d cs c ((c:Int) + 1=(↑(cs.length):Int)))
 (o10:q5d cs c (0 < cs.length))
 (o11:q5d cs c (0<=(c:Int)))
 (o12:q5d cs c ((c:Int)<=(↑(cs.length):Int)))
 (o13:q5d cs c ((↑(cs.length):Int)<=(↑(cs.length):Int)))
 (o14:q5d cs c ((c:Int) < (↑(cs.length):Int)))
 (o15:q5d cs c (c + (cs.length - c)=cs.length))
 (o16:q5d cs c (0 < cs.length - c))
 (o17:q5d cs c (c<=cs.length))
 (o18:q5d cs c (0 < cs.length))
 (o19:q5d cs c (c=(cutC cs c).length))
 (o20:q5d cs c (∀ (i0:Nat),i0 < c->Decidable.rec (fun (h:¬i0 < c)=>[iv 0,iv 0,iv 0,iv 0]) (fun (h:i0 < c)=>cCtr (cs.getD i0 default)) (Nat.decLt i0 c)=cCtr ((cutC cs c).getD i0 default)))
  (l:List (Nat × Nat)) (hl:l.map (·.1) = [0,3]) (hnd:(l.map (·.2)).Nodup) :
  Triple Tryz.prog 39 (IoSpec.at (io39b cs c) l):=by
 refine triple_io Tryz.func39 rfl Tryz.call39 T0_ok (io39b cs c) 2 l (by rw [hl]; kernel_rfl) hnd (Nat.le_of_ble_eq_true (by kernel_rfl)) (fun _ _ _ _ h=>h) ?_
 intro hpre C hC _ hE
 obtain ⟨P,w0,E0,av,hA,ro,df⟩:=C
 obtain ⟨rfl,rfl,rfl⟩:=hC
 refine swp_seq ?_
 refine zR [0,1,2] [0] (Ak 1 tv) ?_
 refine swp_seq ?_
 refine zR [0,1,2] [0] (Ak 5 (An (An (o0 hpre) (An (o1 hpre) (An (o2 hpre) (An (o3 hpre) (o4 hpre))))) tv)) ?_
 refine swp_seq ?_
 refine swp_seq ?_
 refine zR [0,1,2,16] [0] (Ak 3 tv) ?_
 refine zI (decide ((c:Int)=(c:Int) + 1)) (fun h=>by cases (h.symm.trans (o5 hpre))) (fun _ => ?_)
 refine swp_skip ?_
 refine swp_seq ?_
 refine zR [0,1,2,7] [0] (Ak 3 tv) ?_
 refine swp_seq ?_
 refine zC ([(5,focB8)]) [0,7] [0] (Ak 2 (An (An (o6 hpre) (An (o7 hpre) (o8 hpre))) (Ak 2 (An (An (o9 hpre) (o10 hpre)) (Ak 2 tv))))) ?_
 refine swp_seq ?_
 refine zR [0] [0] (Ak 4 (An (An (o11 hpre) (An (o12 hpre) (An (o13 hpre) (o14 hpre)))) (An (An (o15 hpre) (o16 hpre)) tv))) ?_
 refine swp_seq ?_
 refine zC ([(0,focM)]) [6] [218] (An (An (o17 hpre) (o18 hpre)) (Ak 1 tv)) ?_
 refine swp_ret ?_
 exact zO (ASt.mk [(6,AV.vec 3)] [(3,OB.vec 68 4 (cutC cs c).length fun (i:Nat)=>cCtr ((cutC cs c).getD i default))] 100) (zEn 2 hE [] [(3,.same 218)] [] [] (An (An (zr (some (Src.same 218))) tv) (An (An (An (zr 68) (An (zr 4) (An (o19 hpre) (fun (i0:Nat)=>(fun (y1:i0 < c)=>(o20 hpre i0 y1)))))) tv) (An (zr true) (zr true))))) (An (Ak 1 tv) (An (zr (AV.vec 3)) (An (zr (some (OB.vec 68 4 (cutC cs c).length fun (i:Nat)=>cCtr ((cutC cs c).getD i default)))) tv)))
theorem t39b (b:Nat) (cs:List Ctr) (c:Nat) (id:Nat) (hid:[b,id].Nodup:=by decide):Triple Tryz.prog 39 ((io39b cs c).at [(0,b),(3,id)]):=by
 apply wio39b cs c (l:=[(0,b),(3,id)]) (hl:=rfl) (hnd:=hid)
 all_goals (try delta q5d)
 all_goals (rintro ⟨h1,h2⟩; have hcl:=cut_len (cs:=cs) (c:=c) (by omega))
 case o5=>exact decide_eq_false (by omega)
 case o19=>omega
 case o20 =>
  intro i hi
  rw [cut_get (by omega)]
  refine rec_lt8 (fun h=>by omega) (fun h=>by rw [if_pos h])
 all_goals omega
theorem t39 (b:Nat) (cs:List Ctr) (c:Nat) (id:Nat) (hid:[b,id].Nodup:=by decide):Triple Tryz.prog 39 (s39 b cs c id):=by
 by_cases h:c + 1 < cs.length
 ·exact triple_pre (q:=c < cs.length/\cs.length<=64) (t39a b cs c id hid) (fun hp=>⟨h,hp.2⟩)
 ·exact triple_pre (q:=c < cs.length/\cs.length<=64) (t39b b cs c id hid) (fun hp=>⟨by omega,hp.2⟩)
abbrev q5e (b:Book) (ls:List Int) (c:Int) (P:Prop):Prop:=smallB b/\ls.length<=60000/\(okBook b && (isCt b c && areLnB b ls))=true->P
theorem w15g (b:Book) (ls:List Int) (c:Int)
 (o0:q5e b ls c (fitsB b))
 (o1:q5e b ls c (isCt b c=true))
 (o2:q5e b ls c (ls.length<=60000))
 (o3:q5e b ls c (okBook b=true))
 (o4:q5e b ls c (areLnB b ls=true))
 (o5:q5e b ls c (SoundB b))
 (o6:q5e b ls c (GoodLn b ls))
 (o7:q5e b ls c (∀ (i5:Nat),i5 < b.ctrs.length->cCtr (ctB b i5)=cCtr (b.ctrs.getD i5 default)))
 (o8:q5e b ls c (0 < b.ctrs.length))
 (o9:q5e b ls c (b.ctrs.length<=60000))
 (o10:q5e b ls c (inI (c + 1)))
 (o11:q5e b ls c (c=(↑(c.toNat):Int)))
 (o12:q5e b ls c (c + 1=(↑(c.toNat):Int) + 1))
 (o13:q5e b ls c (c.toNat < b.ctrs.length))
 (o14:q5e b ls c (b.ctrs.length<=64))
 (o15:q5e b ls c (b.lines.length=(woC b c.toNat).lines.length))
 (o16:q5e b ls c (∀ (i9:Nat),i9 < (woC b c.toNat).lines.length->cSpan (lnB b i9)=cSpan (lnB (woC b c.toNat) i9)))
 (o17:q5e b ls c (b.shown.length=(woC b c.toNat).shown.length))
 (o18:q5e b ls c (∀ (i11:Nat),i11 < (woC b c.toNat).shown.length->cShn (shB b i11)=cShn (shB (woC b c.toNat) i11)))
 (o19:q5e b ls c (b.rate=(woC b c.toNat).rate))
 (o20:q5e b ls c (b.rep=(woC b c.toNat).rep))
 (o21:q5e b ls c ((cutC b.ctrs c.toNat).length=(woC b c.toNat).ctrs.length))
 (o22:q5e b ls c (∀ (i13:Nat),i13 < (woC b c.toNat).ctrs.length->cCtr ((cutC b.ctrs c.toNat).getD i13 default)=cCtr (ctB (woC b c.toNat) i13)))
 (o23:q5e b ls c ((stds b).length=(stds (woC b c.toNat)).length))
 (o24:q5e b ls c (∀ (i15:Nat),i15 < (stds (woC b c.toNat)).length->cSday ((stds b).getD i15 default)=cSday ((stds (woC b c.toNat)).getD i15 default)))
 (o25:q5e b ls c (SoundB (woC b c.toNat)))
 (o26:q5e b ls c (GoodLn (woC b c.toNat) ls))
 (o27:q5e b ls c (inI ((bestB (woC b c.toNat) ls).2 - (bestB b ls).2))) :
  Triple Tryz.prog 15 (s15g b ls c):=by
 refine triple_of Tryz.func15 rfl Tryz.call15 T0_ok _ rfl rfl rfl rfl (Nat.le_of_ble_eq_true (by kernel_rfl)) (fun _ _ _ _ h=>h) ?_
 intro hpre C hC _ hE
 obtain ⟨P,w0,E0,av,hA,ro,df⟩:=C
 obtain ⟨rfl,rfl,rfl⟩:=hC
 refine swp_seq ?_
 refine zR [1,2,3] [0] (Ak 3 tv) ?_
 refine swp_seq ?_
 refine zC ([(4,CallSpec.eq (s38 b c) [true,true]),(5,CallSpec.eq (c15c b ls c 64) [true,false,false])]) [1,2,3,8,9] [0,64] (Ak 4 (An (An (An (zr (AV.agg (cBk b))) (An (zr (iv c)) tv)) (An (t38 (b) (c)) (An (o0 hpre) (Ak 1 (fun (i0:Env)=>tv))))) (An (An (An (zr (AV.agg (cBk b))) (An (An (zr 1) (An (zr ls.length) (fun (i1:Nat)=>(fun (y2:i1 < ls.length)=>(zr ([iv (ls.getD i1 0)])))))) (An (cb (o1 hpre)) tv))) (An (t31po (b) (ls) (true) (64)) (An (An hpre.1 (An (o2 hpre) (An (o3 hpre) (An (zr true) (o4 hpre))))) (Ak 1 (fun (i3:Env)=>tv))))) (Ak 5 tv)))) ?_
 refine swp_seq ?_
 refine swp_seq ?_
 refine zR [1,2,3,8,9,24] [0,64] (Ak 2 tv) ?_
 refine zf ?_
 refine swp_skip ?_
 refine swp_seq ?_
 refine zC ([(2,CallSpec.eq (c15a b ls c 144) [true,true])]) [1,2,3,8,11] [0,64] (Ak 2 (An (An (An (zr (AV.ptr 64 [])) (An (zr (aInts ls)) tv)) (An (lendPT 71 64 0 (t32o (b) (ls) (144)) rfl (fun _ _ h=>capOK_down rfl h)) (An (An (o5 hpre) (o6 hpre)) (An (An (zr (some (OB.cells 71 (cWk b)))) tv) (fun (i4:Env)=>tv))))) (Ak 5 tv))) ?_
 refine swp_seq ?_
 refine zC ([(3,CallSpec.eq (c15l b ls c 216) [false]),(7,CallSpec.eq (c15d b ls c 248) [true,false,false])]) [1,8,11] [64,248] (Ak 3 (An (An (An (An (zr 4) (An (zr b.ctrs.length) (fun (i5:Nat)=>(fun (y6:i5 < b.ctrs.length)=>(o7 hpre i5 y6))))) tv) (An (t40o b.ctrs (216)) (An (An (o8 hpre) (o9 hpre)) (Ak 1 (fun (i7:Env)=>tv))))) (Ak 2 (An (o10 hpre) (An (An (An (zr (AV.vec 216)) (An (ci (o11 hpre)) (An (ci (o12 hpre)) tv))) (An (t39 (216) b.ctrs c.toNat (248)) (An (An (o13 hpre) (o14 hpre)) (An (An (zr (some (OB.vec 68 4 b.ctrs.length fun (i:Nat)=>cCtr (b.ctrs.getD i default)))) tv) (fun (i8:Env)=>tv))))) (Ak 4 tv)))))) ?_
 refine swp_seq ?_
 refine swp_ent (zE (st2:=ASt.mk [(1,aInts ls),(8,AV.ptr 64 []),(11,iv (bestB b ls).2)] [(64,OB.cells 71 (cWk (woC b c.toNat)))] 288) hE [248] [(64,.same 64)] [1,11] [] (An (An (An (zr (aInts ls)) (zr true)) (An (An (zr (some (Src.same 64))) (zr nilP)) (An (An (zr (iv (bestB b ls).2)) (zr true)) tv))) (An (An (An (zr 71) (An (An (An (zr 2) (An (o15 hpre) (fun (i9:Nat)=>(fun (y10:i9 < (woC b c.toNat).lines.length)=>(o16 hpre i9 y10))))) (An (An (zr 3) (An (o17 hpre) (fun (i11:Nat)=>(fun (y12:i11 < (woC b c.toNat).shown.length)=>(o18 hpre i11 y12))))) (An (An (ci (o19 hpre)) (zr nilN)) (An (An (ci (o20 hpre)) (zr nilN)) (An (An (zr 4) (An (o21 hpre) (fun (i13:Nat)=>(fun (y14:i13 < (woC b c.toNat).ctrs.length)=>(o22 hpre i13 y14))))) (An (An (zr 2) (An (o23 hpre) (fun (i15:Nat)=>(fun (y16:i15 < (stds (woC b c.toNat)).length)=>(o24 hpre i15 y16))))) tv)))))) (zr true))) tv) (An (zr true) (zr true))))) ?_
 refine zC ([(2,CallSpec.eq (c15b b ls c 304) [true,true])]) [11,13] [] (Ak 2 (An (An (An (zr (AV.ptr 64 [])) (An (zr (aInts ls)) tv)) (An (lendPT 71 64 0 (t32o (woC b c.toNat) (ls) (304)) rfl (fun _ _ h=>capOK_down rfl h)) (An (An (o25 hpre) (o26 hpre)) (An (An (zr (some (OB.cells 71 (cWk (woC b c.toNat))))) tv) (fun (i17:Env)=>tv))))) (Ak 5 tv))) ?_
 refine swp_seq ?_
 refine zR [6,7] [] (Ak 2 (An (o27 hpre) (Ak 2 tv))) ?_
 refine swp_ret ?_
 exact zT [] (An (Ak 2 tv) (An (An (An (zr (iv ((bestB (woC b c.toNat) ls).2 - (bestB b ls).2))) (zr nilN)) (An (An (zr (iv 0)) (zr nilN)) tv)) (An (zr true) (An (zr true) (zr true)))))
theorem wo_soundI {b:Book} {c:Int} (hs:SoundB b) (h:isCt b c=true):SoundB (woC b c.toNat):=wo_sound hs (by have:=isCt_iff.1 h; omega)
theorem t15g (b:Book) (ls:List Int) (c:Int):Triple Tryz.prog 15 (s15g b ls c):=by
 apply w15g
 all_goals (try delta q5e)
 all_goals (rintro ⟨hp,h1,h2⟩; rw [Bool.and_eq_true,Bool.and_eq_true] at h2; obtain ⟨h3,h4,h5⟩:=h2; have hs:=ok_soundB h3; have hc:=isCt_iff.1 h4; have hg:=are_goodB h5; have hct:=hs.ctrs)
 case o27 =>
  have b1:=best_in hs hg
  have b2:=best_in (wo_soundI hs h4) (withC_good hg)
  simp only [inI]; omega
 all_goals (first | exact h3 | exact h4 | exact h5 | exact hs | exact hg | exact wo_soundI hs h4 | exact withC_good hg | rfl | (intro i _; rfl) | omega | (simp only [inI]; omega) | exact small_fitsB hp)
abbrev q5f (b:Book) (ls:List Int) (c:Int) (P:Prop):Prop:=smallB b/\ls.length<=60000/\(okBook b && (isCt b c && areLnB b ls))=false->P
theorem w15n (b:Book) (ls:List Int) (c:Int)
 (o0:q5f b ls c (fitsB b))
 (o1:q5f b ls c (ls.length<=60000))
 (o2:q5f b ls c ((!decide (givenE b ls (isCt b c)=0))=true)) :
  Triple Tryz.prog 15 (s15n b ls c):=by
 refine triple_of Tryz.func15 rfl Tryz.call15 T0_ok _ rfl rfl rfl rfl (Nat.le_of_ble_eq_true (by kernel_rfl)) (fun _ _ _ _ h=>h) ?_
 intro hpre C hC _ hE
 obtain ⟨P,w0,E0,av,hA,ro,df⟩:=C
 obtain ⟨rfl,rfl,rfl⟩:=hC
 refine swp_seq ?_
 refine zR [1,2,3] [0] (Ak 3 tv) ?_
 refine swp_seq ?_
 refine zC ([(4,CallSpec.eq (s38 b c) [true,true]),(5,CallSpec.eq (s31 b ls (isCt b c)) [true,true,true])]) [1,2,3,8,9] [0] (Ak 4 (An (An (An (zr (AV.agg (cBk b))) (An (zr (iv c)) tv)) (An (t38 (b) (c)) (An (o0 hpre) (Ak 1 (fun (i0:Env)=>tv))))) (An (An (An (zr (AV.agg (cBk b))) (An (zr (aInts ls)) (An (zr (bv (isCt b c))) tv))) (An (t31 (b) (ls) (isCt b c)) (An (An hpre.1 (o1 hpre)) (Ak 1 (fun (i1:Env)=>tv))))) (Ak 5 tv)))) ?_
 refine swp_seq ?_
 refine swp_seq ?_
 refine zR [1,2,3,8,9,24] [0] (Ak 2 tv) ?_
 refine zI (!decide (givenE b ls (isCt b c)=0)) (fun _ => ?_) (fun h=>by cases (h.symm.trans (o2 hpre)))
 refine swp_seq ?_
 refine zR [6,7] [] (Ak 3 tv) ?_
 refine swp_ret ?_
 exact zT [] (An (Ak 2 tv) (An (An (An (zr (iv 0)) (zr nilN)) (An (An (zr (iv (givenE b ls (isCt b c)))) (zr nilN)) tv)) (An (zr true) (An (zr true) (zr true)))))
theorem giv_eq2 (b:Book) (ls:List Int) (is:Bool):(!decide (givenE b ls is=0)) = !(okBook b && (is && areLnB b ls)):=by unfold givenE; exact open_ok8 b _
theorem t15n (b:Book) (ls:List Int) (c:Int):Triple Tryz.prog 15 (s15n b ls c):=by
 apply w15n
 all_goals (try delta q5f)
 all_goals (rintro ⟨hp,h1,h2⟩)
 case o2=>rw [giv_eq2,h2]; rfl
 all_goals (first | exact h1 | exact small_fitsB hp)
theorem t15 (b:Book) (ls:List Int) (c:Int):Triple Tryz.prog 15 (s15 b ls c):=by
 cases e:okBook b && (isCt b c && areLnB b ls) with
 | true =>
  have:s15 b ls c = { s15g b ls c with pre:=(s15 b ls c).pre }:=by
   have e1:worthN b ls c=(bestB (woC b c.toNat) ls).2 - (bestB b ls).2:=by unfold worthN; rw [e]; rfl
   have e2:givenE b ls (isCt b c)=0:=open_zero e
   unfold s15 s15g; rw [e1,e2]
  rw [this]; exact triple_pre (t15g b ls c) (fun hp=>⟨hp.1,hp.2,e⟩)
 | false =>
  have:s15 b ls c = { s15n b ls c with pre:=(s15 b ls c).pre }:=by
   have e1:worthN b ls c=0:=by unfold worthN; rw [e]; rfl
   unfold s15 s15n; rw [e1]
  rw [this]; exact triple_pre (t15n b ls c) (fun hp=>⟨hp.1,hp.2,e⟩)
abbrev q5g (b:Book) (P:Prop):Prop:=smallB b/\okBook b=true->P
abbrev q5h (b:Book) (x1:Nat) (P:Prop):Prop:=x1<=b.lines.length->P
abbrev q5i (b:Book) (x1:Nat) (P:Prop):Prop:=q5h b x1 (decide ((x1:Int) < (↑(b.lines.length):Int))=true->P)
abbrev q5j (b:Book) (x1:Nat) (x6:Nat) (P:Prop):Prop:=x6<=lnN b x1->P
abbrev q5k (b:Book) (x1:Nat) (x6:Nat) (P:Prop):Prop:=q5j b x1 x6 (decide ((lnB b x1).lo + (x6:Int)<=(lnB b x1).hi)=true->P)
abbrev q5l (b:Book) (x1:Nat) (x6:Nat) (P:Prop):Prop:=q5j b x1 x6 (decide ((lnB b x1).lo + (x6:Int)<=(lnB b x1).hi)=false->P)
abbrev q5m (b:Book) (x1:Nat) (x6:Nat) (P:Prop):Prop:=q5l b x1 x6 ((bif decide ((measTo b x1).1 < 0) then true else decide (worstTo b x1 x6 < (measTo b x1).2))=true->P)
abbrev q5n (b:Book) (x1:Nat) (x6:Nat) (P:Prop):Prop:=q5l b x1 x6 ((bif decide ((measTo b x1).1 < 0) then true else decide (worstTo b x1 x6 < (measTo b x1).2))=false->P)
abbrev q5o (b:Book) (x1:Nat) (P:Prop):Prop:=q5h b x1 (decide ((x1:Int) < (↑(b.lines.length):Int))=false->P)
theorem w22g (b:Book)
 (o0:q5g b (-1=(measTo b 0).1))
 (o1:q5g b (0=(measTo b 0).2))
 (o2:q5g b (0=(↑0:Int)))
 (o3:q5g b (0<=b.lines.length))
 (o4:q5g b (∀ (x1:Nat),q5i b x1 (0<=(x1:Int))))
 (o5:q5g b (∀ (x1:Nat),q5i b x1 ((x1:Int) < (↑(b.lines.length):Int))))
 (o6:q5g b (∀ (x1:Nat),q5i b x1 (∀ (i3:Nat),i3 < b.lines.length->cSpan (lnB b i3)=cSpan (b.lines.getD i3 default))))
 (o7:q5g b (∀ (x1:Nat),q5i b x1 (0 < b.lines.length)))
 (o8:q5g b (∀ (x1:Nat),q5i b x1 (b.lines.length<=60000)))
 (o9:q5g b (∀ (x1:Nat),q5i b x1 (0=worstTo b x1 0)))
 (o10:q5g b (∀ (x1:Nat),q5i b x1 ((lnB b x1).lo=(lnB b x1).lo + (↑0:Int))))
 (o11:q5g b (∀ (x1:Nat),q5i b x1 (∀ (i13:Nat),i13 < b.lines.length->cSpan (b.lines.getD i13 default)=cSpan (cntTo b x1 0 i13))))
 (o12:q5g b (∀ (x1:Nat),q5i b x1 (0<=lnN b x1)))
 (o13:q5g b (∀ (x1:Nat),q5i b x1 (∀ (x6:Nat),q5k b x1 x6 (0<=(x1:Int)))))
 (o14:q5g b (∀ (x1:Nat),q5i b x1 (∀ (x6:Nat),q5k b x1 x6 ((x1:Int) < (↑(b.lines.length):Int)))))
 (o15:q5g b (∀ (x1:Nat),q5i b x1 (∀ (x6:Nat),q5k b x1 x6 (x1 < b.lines.length))))
 (o16:q5g b (∀ (x1:Nat),q5i b x1 (∀ (x6:Nat),q5k b x1 x6 (SoundB (cntB b x1 ((lnB b x1).lo + (x6:Int)))))))
 (o17:q5g b (∀ (x1:Nat),q5i b x1 (∀ (x6:Nat),q5k b x1 x6 (some (OB.cells 71 [AV.vec 10264,AV.sl 3 b.shown.length fun (i:Nat)=>cShn (shB b i),iv b.rate,iv b.rep,AV.sl 4 b.ctrs.length fun (i:Nat)=>cCtr (ctB b i),aDays (stds b)])=some (OB.cells 71 (List.set (cWk (cntB b x1 ((lnB b x1).lo + (x6:Int)))) 0 (AV.vec 10264)))))))
 (o18:q5g b (∀ (x1:Nat),q5i b x1 (∀ (x6:Nat),q5k b x1 x6 (some (OB.vec 41 2 b.lines.length fun (j:Nat)=>Decidable.rec (fun (h:¬j=x1)=>cSpan (cntTo b x1 x6 j)) (fun (h:j=x1)=>[iv ((lnB b x1).lo + (x6:Int)),iv ((lnB b x1).lo + (x6:Int))] ++ []) (instDecidableEqNat j x1))=some (OB.vec 41 2 (cntB b x1 ((lnB b x1).lo + (x6:Int))).lines.length fun (i:Nat)=>cSpan (lnB (cntB b x1 ((lnB b x1).lo + (x6:Int))) i))))))
 (o19:q5g b (∀ (x1:Nat),q5i b x1 (∀ (x6:Nat),q5k b x1 x6 (inI ((owedB (cntB b x1 ((lnB b x1).lo + (x6:Int)))).hi - (owedB (cntB b x1 ((lnB b x1).lo + (x6:Int)))).lo)))))
 (o20:q5g b (∀ (x1:Nat),q5i b x1 (∀ (x6:Nat),q5k b x1 x6 (inI ((lnB b x1).lo + (x6:Int) + 1)))))
 (o21:q5g b (∀ (x1:Nat),q5i b x1 (∀ (x6:Nat),q5k b x1 x6 (max (worstTo b x1 x6) ((owedB (cntB b x1 ((lnB b x1).lo + (x6:Int)))).hi - (owedB (cntB b x1 ((lnB b x1).lo + (x6:Int)))).lo)=worstTo b x1 (x6 + 1)))))
 (o22:q5g b (∀ (x1:Nat),q5i b x1 (∀ (x6:Nat),q5k b x1 x6 ((lnB b x1).lo + (x6:Int) + 1=(lnB b x1).lo + (↑(x6 + 1):Int)))))
 (o23:q5g b (∀ (x1:Nat),q5i b x1 (∀ (x6:Nat),q5k b x1 x6 ((cntB b x1 ((lnB b x1).lo + (x6:Int))).shown.length=b.shown.length))))
 (o24:q5g b (∀ (x1:Nat),q5i b x1 (∀ (x6:Nat),q5k b x1 x6 (∀ (i17:Nat),i17 < b.shown.length->cShn (shB (cntB b x1 ((lnB b x1).lo + (x6:Int))) i17)=cShn (shB b i17)))))
 (o25:q5g b (∀ (x1:Nat),q5i b x1 (∀ (x6:Nat),q5k b x1 x6 ((cntB b x1 ((lnB b x1).lo + (x6:Int))).rate=b.rate))))
 (o26:q5g b (∀ (x1:Nat),q5i b x1 (∀ (x6:Nat),q5k b x1 x6 ((cntB b x1 ((lnB b x1).lo + (x6:Int))).rep=b.rep))))
 (o27:q5g b (∀ (x1:Nat),q5i b x1 (∀ (x6:Nat),q5k b x1 x6 ((cntB b x1 ((lnB b x1).lo + (x6:Int))).ctrs.length=b.ctrs.length))))
 (o28:q5g b (∀ (x1:Nat),q5i b x1 (∀ (x6:Nat),q5k b x1 x6 (∀ (i19:Nat),i19 < b.ctrs.length->cCtr (ctB (cntB b x1 ((lnB b x1).lo + (x6:Int))) i19)=cCtr (ctB b i19)))))
 (o29:q5g b (∀ (x1:Nat),q5i b x1 (∀ (x6:Nat),q5k b x1 x6 ((stds (cntB b x1 ((lnB b x1).lo + (x6:Int)))).length=(stds b).length))))
 (o30:q5g b (∀ (x1:Nat),q5i b x1 (∀ (x6:Nat),q5k b x1 x6 (∀ (i21:Nat),i21 < (stds b).length->cSday ((stds (cntB b x1 ((lnB b x1).lo + (x6:Int)))).getD i21 default)=cSday ((stds b).getD i21 default)))))
 (o31:q5g b (∀ (x1:Nat),q5i b x1 (∀ (x6:Nat),q5k b x1 x6 ((cntB b x1 ((lnB b x1).lo + (x6:Int))).lines.length=b.lines.length))))
 (o32:q5g b (∀ (x1:Nat),q5i b x1 (∀ (x6:Nat),q5k b x1 x6 (∀ (i23:Nat),i23 < (cntB b x1 ((lnB b x1).lo + (x6:Int))).lines.length->cSpan (lnB (cntB b x1 ((lnB b x1).lo + (x6:Int))) i23)=cSpan (cntTo b x1 (x6 + 1) i23)))))
 (o33:q5g b (∀ (x1:Nat),q5i b x1 (∀ (x6:Nat),q5k b x1 x6 (x6 + 1<=lnN b x1))))
 (o34:q5g b (∀ (x1:Nat),q5i b x1 (∀ (x6:Nat),q5k b x1 x6 (lnN b x1 - (x6 + 1) < lnN b x1 - x6))))
 (o35:q5g b (∀ (x1:Nat),q5i b x1 (∀ (x6:Nat),q5l b x1 x6 (decide ((measTo b x1).1 < 0)=false->(!decide ((measTo b x1).1 < 0))=true))))
 (o36:q5g b (∀ (x1:Nat),q5i b x1 (∀ (x6:Nat),q5m b x1 x6 (inI ((x1:Int) + 1)))))
 (o37:q5g b (∀ (x1:Nat),q5i b x1 (∀ (x6:Nat),q5m b x1 x6 ((x1:Int)=(measTo b (x1 + 1)).1))))
 (o38:q5g b (∀ (x1:Nat),q5i b x1 (∀ (x6:Nat),q5m b x1 x6 (worstTo b x1 x6=(measTo b (x1 + 1)).2))))
 (o39:q5g b (∀ (x1:Nat),q5i b x1 (∀ (x6:Nat),q5m b x1 x6 ((x1:Int) + 1=(↑(x1 + 1):Int)))))
 (o40:q5g b (∀ (x1:Nat),q5i b x1 (∀ (x6:Nat),q5m b x1 x6 (x1 + 1<=b.lines.length))))
 (o41:q5g b (∀ (x1:Nat),q5i b x1 (∀ (x6:Nat),q5m b x1 x6 (b.lines.length - (x1 + 1) < b.lines.length - x1))))
 (o42:q5g b (∀ (x1:Nat),q5i b x1 (∀ (x6:Nat),q5n b x1 x6 (inI ((x1:Int) + 1)))))
 (o43:q5g b (∀ (x1:Nat),q5i b x1 (∀ (x6:Nat),q5n b x1 x6 ((measTo b x1).1=(measTo b (x1 + 1)).1))))
 (o44:q5g b (∀ (x1:Nat),q5i b x1 (∀ (x6:Nat),q5n b x1 x6 ((measTo b x1).2=(measTo b (x1 + 1)).2))))
 (o45:q5g b (∀ (x1:Nat),q5i b x1 (∀ (x6:Nat),q5n b x1 x6 ((x1:Int) + 1=(↑(x1 + 1):Int)))))
 (o46:q5g b (∀ (x1:Nat),q5i b x1 (∀ (x6:Nat),q5n b x1 x6 (x1 + 1<=b.lines.length))))
 (o47:q5g b (∀ (x1:Nat),q5i b x1 (∀ (x6:Nat),q5n b x1 x6 (b.lines.length - (x1 + 1) < b.lines.length - x1))))
 (o48:q5g b (∀ (x1:Nat),q5o b x1 (decide ((measTo b x1).1 < 0)=true->0=measN b)))
 (o49:q5g b (∀ (x1:Nat),q5o b x1 (decide ((measTo b x1).1 < 0)=true->3=measE b)))
 (o50:q5g b (∀ (x1:Nat),q5o b x1 (decide ((measTo b x1).1 < 0)=false->(measTo b x1).1=measN b)))
 (o51:q5g b (∀ (x1:Nat),q5o b x1 (decide ((measTo b x1).1 < 0)=false->0=measE b))) :
  Triple Tryz.prog 22 (s22g b):=by
 refine triple_of Tryz.func22 rfl Tryz.call22 T0_ok _ rfl rfl rfl rfl (Nat.le_of_ble_eq_true (by kernel_rfl)) (fun _ _ _ _ h=>h) ?_
 intro hpre C hC _ hE
 obtain ⟨P,w0,E0,av,hA,ro,df⟩:=C
 obtain ⟨rfl,rfl,rfl⟩:=hC
 refine swp_seq ?_
 refine zR [1] [0] (Ak 3 tv) ?_
 refine swp_seq ?_
 refine zC ([(1,CallSpec.eq (c22p b 32) [true,true])]) [1,4,5] [0,32] (Ak 1 (An (An (An (zr (AV.agg (cBk b))) (An (zr (bv true)) tv)) (An (t43po (b) (true) (32)) (An (An hpre.1 (An hpre.2 (zr true))) (Ak 1 (fun (i0:Env)=>tv))))) (Ak 5 tv))) ?_
 refine swp_seq ?_
 refine swp_seq ?_
 refine zR [1,4,5,20] [0,32] (Ak 2 tv) ?_
 refine zf ?_
 refine swp_skip ?_
 refine swp_seq ?_
 refine zR [1,4,6,7] [0,32] (Ak 2 tv) ?_
 refine swp_seq ?_
 refine swp_seq ?_
 refine zR [1,4,6,7,23,24,25] [0,32] (Ak 4 tv) ?_
 refine swp_block ?_
 refine zL (Hint.ann (h22a b) [(1,AV.ptr 0 []),(4,AV.ptr 32 []),(23,AV.sl 2 b.lines.length fun (i:Nat)=>cSpan (lnB b i)),(24,iv (↑(b.lines.length):Int))] [(0,OB.cells 26 (cBk b)),(32,OB.cells 71 (cWk b))] 10144) (zE hE [] [(0,.same 0),(32,.same 32)] [23,24] [0,32] (An (An (An (zr (some (Src.same 0))) (zr nilP)) (An (An (zr (some (Src.same 32))) (zr nilP)) (An (An (zr (AV.sl 2 b.lines.length fun (i:Nat)=>cSpan (lnB b i))) (zr true)) (An (An (zr (iv (↑(b.lines.length):Int))) (zr true)) (An (An (ci (o0 hpre)) (zr nilN)) (An (An (ci (o1 hpre)) (zr nilN)) (An (An (ci (o2 hpre)) (zr nilN)) tv))))))) (An (An (An (zr (OB.cells 26 (cBk b))) (zr true)) (An (An (zr (OB.cells 71 (cWk b))) (zr true)) tv)) (An (zr true) (zr true))))) (o3 hpre) (fun (x1:Nat) hx1 => ?_)
 refine swp_seq ?_
 refine zR [1,4,23,24,6,7,25,26] [0,32] (Ak 1 tv) ?_
 refine swp_seq ?_
 refine zI (decide ((x1:Int) < (↑(b.lines.length):Int))) (fun y2 => ?_) (fun y2 => ?_)
 ·refine swp_skip ?_
  refine swp_seq ?_
  refine swp_block ?_
  refine swp_seq ?_
  refine zR [1,4,23,24,6,7,25,9,8] [0,32,10176] (Ak 1 (An (An (o4 hpre x1 hx1 y2) (o5 hpre x1 hx1 y2)) (Ak 4 tv))) ?_
  refine swp_seq ?_
  refine zR [1,4,23,24,6,7,25,9,8,10] [0,32,10176] (Ak 1 tv) ?_
  refine swp_seq ?_
  refine zR [1,4,23,24,6,7,25,9,8,10,11] [0,32,10176,10232] (Ak 5 tv) ?_
  refine swp_seq ?_
  refine zC ([(2,CallSpec.eq (c22c b x1 10264) [false])]) [1,4,23,24,6,7,25,9,8,10,11] [0,32,10176,10232,10264] (Ak 2 (An (An (An (An (zr 2) (An (zr b.lines.length) (fun (i3:Nat)=>(fun (y4:i3 < b.lines.length)=>(o6 hpre x1 hx1 y2 i3 y4))))) tv) (An (t50o b.lines (10264)) (An (An (o7 hpre x1 hx1 y2) (o8 hpre x1 hx1 y2)) (Ak 1 (fun (i5:Env)=>tv))))) (Ak 3 tv))) ?_
  refine swp_seq ?_
  refine swp_seq ?_
  refine zR [1,4,23,24,6,7,25,9,8,10,11,12] [0,32,10176,10232,10264] (Ak 3 tv) ?_
  refine swp_block ?_
  refine zL (Hint.ann (h22b b x1) [(1,AV.ptr 0 []),(4,AV.ptr 32 []),(23,AV.sl 2 b.lines.length fun (i:Nat)=>cSpan (lnB b i)),(24,iv (↑(b.lines.length):Int)),(6,iv (measTo b x1).1),(7,iv (measTo b x1).2),(25,iv (x1:Int)),(9,AV.ptr 10176 []),(8,iv (x1:Int)),(11,AV.ptr 10232 [])] [(0,OB.cells 26 (cBk b)),(32,OB.cells 71 (cWk b)),(10176,OB.cells 41 (cSpan (lnB b x1))),(10232,OB.cells 71 [AV.vec 10264,AV.sl 3 b.shown.length fun (i:Nat)=>cShn (shB b i),iv b.rate,iv b.rep,AV.sl 4 b.ctrs.length fun (i:Nat)=>cCtr (ctB b i),aDays (stds b)])] 20320) (zE hE [] [(0,.same 0),(32,.same 32),(10176,.same 10176),(10232,.same 10232),(10264,.same 10264)] [23,24,6,7,25,8] [0,32,10176] (An (An (An (zr (some (Src.same 0))) (zr nilP)) (An (An (zr (some (Src.same 32))) (zr nilP)) (An (An (zr (AV.sl 2 b.lines.length fun (i:Nat)=>cSpan (lnB b i))) (zr true)) (An (An (zr (iv (↑(b.lines.length):Int))) (zr true)) (An (An (zr (iv (measTo b x1).1)) (zr true)) (An (An (zr (iv (measTo b x1).2)) (zr true)) (An (An (zr (iv (x1:Int))) (zr true)) (An (An (zr (some (Src.same 10176))) (zr nilP)) (An (An (zr (iv (x1:Int))) (zr true)) (An (An (zr (some (Src.same 10232))) (zr nilP)) (An (An (ci (o9 hpre x1 hx1 y2)) (zr nilN)) (An (An (ci (o10 hpre x1 hx1 y2)) (zr nilN)) tv)))))))))))) (An (An (An (zr (OB.cells 26 (cBk b))) (zr true)) (An (An (zr (OB.cells 71 (cWk b))) (zr true)) (An (An (zr (OB.cells 41 (cSpan (lnB b x1)))) (zr true)) (An (An (zr 71) (An (An (zr (some (Src.same 10264))) (An (An (zr 3) (An (zr b.shown.length) (fun (i7:Nat)=>(fun (y8:i7 < b.shown.length)=>(zr (cShn (shB b i7))))))) (An (An (zr (iv b.rate)) (zr nilN)) (An (An (zr (iv b.rep)) (zr nilN)) (An (An (zr 4) (An (zr b.ctrs.length) (fun (i9:Nat)=>(fun (y10:i9 < b.ctrs.length)=>(zr (cCtr (ctB b i9))))))) (An (An (zr 2) (An (zr (stds b).length) (fun (i11:Nat)=>(fun (y12:i11 < (stds b).length)=>(zr (cSday ((stds b).getD i11 default))))))) tv)))))) (zr true))) (An (An (zr 41) (An (zr 2) (An (zr b.lines.length) (fun (i13:Nat)=>(fun (y14:i13 < b.lines.length)=>(o11 hpre x1 hx1 y2 i13 y14)))))) tv))))) (An (zr true) (zr true))))) (o12 hpre x1 hx1 y2) (fun (x6:Nat) hx6 => ?_)
  refine swp_seq ?_
  refine swp_seq ?_
  refine zR [1,4,23,24,6,7,25,9,8,11,10,12,43] [0,32,10176,10232,10264] (Ak 4 tv) ?_
  refine zI (decide ((lnB b x1).lo + (x6:Int)<=(lnB b x1).hi)) (fun y15 => ?_) (fun y15 => ?_)
  ·refine swp_skip ?_
   refine swp_seq ?_
   refine swp_block ?_
   refine swp_seq ?_
   refine zR [1,4,23,24,6,7,25,9,8,11,10,12] [0,32,10176,10232,10264] (Ak 7 (An (An (o13 hpre x1 hx1 y2 x6 hx6 y15) (o14 hpre x1 hx1 y2 x6 hx6 y15)) (An (An (o15 hpre x1 hx1 y2 x6 hx6 y15) tv) tv))) ?_
   refine swp_seq ?_
   refine zC ([(0,CallSpec.eq (c22o b x1 x6) [true])]) [1,4,23,24,6,7,25,9,8,11,10,12,13] [0,32,10176,10232,20432,10264] (An (An (An (zr (AV.ptr 10232 [])) tv) (An (lendVT 71 41 10232 10264 0 0 (t44 (cntB b x1 ((lnB b x1).lo + (x6:Int)))) rfl rfl (fun _ _ h=>capOK_down rfl h) (by decide)) (An (o16 hpre x1 hx1 y2 x6 hx6 y15) (An (An (o17 hpre x1 hx1 y2 x6 hx6 y15) (An (o18 hpre x1 hx1 y2 x6 hx6 y15) tv)) (fun (i16:Env)=>tv))))) (Ak 2 tv)) ?_
   refine zR [1,4,23,24,6,7,25,9,8,11,10,12] [0,32,10176,10232,10264] (Ak 5 (An (o19 hpre x1 hx1 y2 x6 hx6 y15) (Ak 2 tv))) ?_
   refine zR [1,4,23,24,6,7,25,9,8,11,10,12] [0,32,10176,10232,10264] (Ak 1 (An (o20 hpre x1 hx1 y2 x6 hx6 y15) (Ak 1 tv))) ?_
   exact zn (zE hE [] [(0,.same 0),(32,.same 32),(10176,.same 10176),(10232,.same 10232),(10264,.same 10264)] [23,24,6,7,25,8] [0,32,10176] (An (An (An (zr (some (Src.same 0))) (zr nilP)) (An (An (zr (some (Src.same 32))) (zr nilP)) (An (An (zr (AV.sl 2 b.lines.length fun (i:Nat)=>cSpan (lnB b i))) (zr true)) (An (An (zr (iv (↑(b.lines.length):Int))) (zr true)) (An (An (zr (iv (measTo b x1).1)) (zr true)) (An (An (zr (iv (measTo b x1).2)) (zr true)) (An (An (zr (iv (x1:Int))) (zr true)) (An (An (zr (some (Src.same 10176))) (zr nilP)) (An (An (zr (iv (x1:Int))) (zr true)) (An (An (zr (some (Src.same 10232))) (zr nilP)) (An (An (ci (o21 hpre x1 hx1 y2 x6 hx6 y15)) (zr nilN)) (An (An (ci (o22 hpre x1 hx1 y2 x6 hx6 y15)) (zr nilN)) tv)))))))))))) (An (An (An (zr (OB.cells 26 (cBk b))) (zr true)) (An (An (zr (OB.cells 71 (cWk b))) (zr true)) (An (An (zr (OB.cells 41 (cSpan (lnB b x1)))) (zr true)) (An (An (zr 71) (An (An (zr (some (Src.same 10264))) (An (An (zr 3) (An (o23 hpre x1 hx1 y2 x6 hx6 y15) (fun (i17:Nat)=>(fun (y18:i17 < b.shown.length)=>(o24 hpre x1 hx1 y2 x6 hx6 y15 i17 y18))))) (An (An (ci (o25 hpre x1 hx1 y2 x6 hx6 y15)) (zr nilN)) (An (An (ci (o26 hpre x1 hx1 y2 x6 hx6 y15)) (zr nilN)) (An (An (zr 4) (An (o27 hpre x1 hx1 y2 x6 hx6 y15) (fun (i19:Nat)=>(fun (y20:i19 < b.ctrs.length)=>(o28 hpre x1 hx1 y2 x6 hx6 y15 i19 y20))))) (An (An (zr 2) (An (o29 hpre x1 hx1 y2 x6 hx6 y15) (fun (i21:Nat)=>(fun (y22:i21 < (stds b).length)=>(o30 hpre x1 hx1 y2 x6 hx6 y15 i21 y22))))) tv)))))) (zr true))) (An (An (zr 41) (An (zr 2) (An (o31 hpre x1 hx1 y2 x6 hx6 y15) (fun (i23:Nat)=>(fun (y24:i23 < (cntB b x1 ((lnB b x1).lo + (x6:Int))).lines.length)=>(o32 hpre x1 hx1 y2 x6 hx6 y15 i23 y24)))))) tv))))) (An (zr true) (zr true))))) (o33 hpre x1 hx1 y2 x6 hx6 y15) (o34 hpre x1 hx1 y2 x6 hx6 y15)
  ·refine swp_exit ?_
   refine swp_seq ?_
   refine zR [1,4,23,24,6,7,25,8,10,68] [0,32] (Ak 3 (An (fun (y25:(!decide ((measTo b x1).1 < 0))=true)=>(An (Ak 1 tv) tv)) (An (fun (y26:(!decide ((measTo b x1).1 < 0))=true)=>(An (Ak 1 tv) tv)) (An (fun (y27:(!decide ((measTo b x1).1 < 0))=true)=>(An (An (fun (y28:(!decide ((measTo b x1).1 < 0))=true)=>y27) (An (fun (y29:(!decide ((measTo b x1).1 < 0))=true)=>y27) tv)) tv)) (An (An (fun (y30:decide ((measTo b x1).1 < 0)=true)=>tv) (fun (y31:decide ((measTo b x1).1 < 0)=false)=>(o35 hpre x1 hx1 y2 x6 hx6 y15 y31))) tv))))) ?_
   refine zI (bif decide ((measTo b x1).1 < 0) then true else decide (worstTo b x1 x6 < (measTo b x1).2)) (fun y32 => ?_) (fun y32 => ?_)
   ·refine zR [1,4,23,24,6,7,25] [0,32] (Ak 4 tv) ?_
    refine zR [1,4,23,24,6,7,25] [0,32] (An (o36 hpre x1 hx1 y2 x6 hx6 y15 y32) (Ak 1 tv)) ?_
    exact zn (zE hE [] [(0,.same 0),(32,.same 32)] [23,24] [0,32] (An (An (An (zr (some (Src.same 0))) (zr nilP)) (An (An (zr (some (Src.same 32))) (zr nilP)) (An (An (zr (AV.sl 2 b.lines.length fun (i:Nat)=>cSpan (lnB b i))) (zr true)) (An (An (zr (iv (↑(b.lines.length):Int))) (zr true)) (An (An (ci (o37 hpre x1 hx1 y2 x6 hx6 y15 y32)) (zr nilN)) (An (An (ci (o38 hpre x1 hx1 y2 x6 hx6 y15 y32)) (zr nilN)) (An (An (ci (o39 hpre x1 hx1 y2 x6 hx6 y15 y32)) (zr nilN)) tv))))))) (An (An (An (zr (OB.cells 26 (cBk b))) (zr true)) (An (An (zr (OB.cells 71 (cWk b))) (zr true)) tv)) (An (zr true) (zr true))))) (o40 hpre x1 hx1 y2 x6 hx6 y15 y32) (o41 hpre x1 hx1 y2 x6 hx6 y15 y32)
   ·refine swp_skip ?_
    refine zR [1,4,23,24,6,7,25] [0,32] (An (o42 hpre x1 hx1 y2 x6 hx6 y15 y32) (Ak 1 tv)) ?_
    exact zn (zE hE [] [(0,.same 0),(32,.same 32)] [23,24] [0,32] (An (An (An (zr (some (Src.same 0))) (zr nilP)) (An (An (zr (some (Src.same 32))) (zr nilP)) (An (An (zr (AV.sl 2 b.lines.length fun (i:Nat)=>cSpan (lnB b i))) (zr true)) (An (An (zr (iv (↑(b.lines.length):Int))) (zr true)) (An (An (ci (o43 hpre x1 hx1 y2 x6 hx6 y15 y32)) (zr nilN)) (An (An (ci (o44 hpre x1 hx1 y2 x6 hx6 y15 y32)) (zr nilN)) (An (An (ci (o45 hpre x1 hx1 y2 x6 hx6 y15 y32)) (zr nilN)) tv))))))) (An (An (An (zr (OB.cells 26 (cBk b))) (zr true)) (An (An (zr (OB.cells 71 (cWk b))) (zr true)) tv)) (An (zr true) (zr true))))) (o46 hpre x1 hx1 y2 x6 hx6 y15 y32) (o47 hpre x1 hx1 y2 x6 hx6 y15 y32)
 ·refine swp_exit ?_
  refine swp_seq ?_
  refine swp_seq ?_
  refine zR [6,73] [] (Ak 2 tv) ?_
  refine zI (decide ((measTo b x1).1 < 0)) (fun y33 => ?_) (fun y33 => ?_)
  ·refine swp_seq ?_
   refine zR [2,3] [] (Ak 2 tv) ?_
   refine swp_ret ?_
   exact zT [] (An (Ak 2 tv) (An (An (An (ci (o48 hpre x1 hx1 y2 y33)) (zr nilN)) (An (An (ci (o49 hpre x1 hx1 y2 y33)) (zr nilN)) tv)) (An (zr true) (An (zr true) (zr true)))))
  ·refine swp_skip ?_
   refine swp_seq ?_
   refine zR [2,3] [] (Ak 3 tv) ?_
   refine swp_ret ?_
   exact zT [] (An (Ak 2 tv) (An (An (An (ci (o50 hpre x1 hx1 y2 y33)) (zr nilN)) (An (An (ci (o51 hpre x1 hx1 y2 y33)) (zr nilN)) tv)) (An (zr true) (An (zr true) (zr true)))))
theorem lnN_int {b:Book} (hs:SoundB b) {i:Nat} (h:i < b.lines.length):(lnN b i:Int)=(lnB b i).hi - (lnB b i).lo + 1:=by
 have:=hs.line i h; unfold lnN; omega
theorem cnt_all (b:Book) {i:Nat} (hi:i < b.lines.length) (n:Int) (j:Nat):lnB (cntB b i n) j=if j=i then ⟨n,n⟩ else lnB b j:=by
 show (b.lines.set i ⟨n,n⟩).getD j default=_
 rw [List.getD_eq_getElem?_getD,List.getElem?_set]
 by_cases e:i=j
 ·subst e; rw [if_pos rfl,if_pos hi,if_pos rfl]; rfl
 ·rw [if_neg e,if_neg (fun h=>e h.symm)]; unfold lnB; rw [List.getD_eq_getElem?_getD]
theorem cnt_row (b:Book) {i:Nat} (hi:i < b.lines.length) (k j:Nat):lnB (cntB b i ((lnB b i).lo + k)) j=cntTo b i (k + 1) j:=by
 rw [cnt_all _ hi]
 unfold cntTo
 by_cases e:j=i
 ·rw [if_pos e,if_pos ⟨e,by omega⟩]
  congr 1 <;> omega
 ·rw [if_neg e,if_neg (fun h=>e h.1)]
theorem t22g (b:Book):Triple Tryz.prog 22 (s22g b):=by
  apply w22g
  all_goals (try delta q5g q5h q5i q5j q5k q5l q5m q5n q5o)
  all_goals (rintro ⟨hp,h⟩; have hs:=ok_soundB h; have hln:=hs.lines)
  case o0 | o1 | o2 | o3=>all_goals (first | rfl | omega)
  all_goals (intro x hx hl; simp only [decide_eq_true_eq,decide_eq_false_iff_not] at hl)
  case o48 => intro h0; have : x = b.lines.length := by omega
              subst this
              unfold measN
              by_cases hz:b.lines.length=0
              · rw [h,hz]; rfl
              · obtain ⟨i,_,e,_⟩:=meas_spec b.lines.length (by omega)
                rw [e] at h0; simp only [decide_eq_true_eq] at h0; omega
  case o49 => intro h0; have : x = b.lines.length := by omega
              subst this
              unfold measE
              by_cases hz:b.lines.length=0
              · rw [h,hz]; rfl
              · obtain ⟨i,_,e,_⟩:=meas_spec b.lines.length (by omega)
                rw [e] at h0; simp only [decide_eq_true_eq] at h0; omega
  case o50 => intro h0; have : x = b.lines.length := by omega
              subst this
              unfold measN
              by_cases hz:b.lines.length=0
              · rw [hz] at h0; cases h0
              · rw [h,decide_eq_true (show 0 < b.lines.length by omega)]; rfl
  case o51 => intro h0; have : x = b.lines.length := by omega
              subst this
              unfold measE
              by_cases hz:b.lines.length=0
              · rw [hz] at h0; cases h0
              · rw [h,if_pos rfl,if_pos (show 0 < b.lines.length by omega)]
  all_goals (try (first | omega | rfl | (intro i _; rfl)))
  case o11=>intro i hi; unfold cntTo; rw [if_neg (fun h=>Nat.lt_irrefl 0 h.2)]; rfl
  all_goals (have hxl:x < b.lines.length:=by omega)
  all_goals (have hlx:=hs.line x (by omega); have hN:=lnN_int hs (i:=x) (by omega))
  all_goals (intro k hk hkl; simp only [decide_eq_true_eq,decide_eq_false_iff_not] at hkl)
  all_goals (try (first | omega | rfl | (intro i _; rfl)))
  case o16=>exact cnt_sound hs (by omega)
  case o17 =>
    have e:stds (cntB b x ((lnB b x).lo + k))=stds b:=stds_congr (cnt_len _ _) (fun _ _=>rfl)
    unfold cWk
    rw [e]; rfl
  case o18 =>
    rw [cnt_len]
    congr 2
    funext j
    rw [cnt_row b hxl k j]
    unfold cntTo
    refine rec_ei8 (fun h => ?_) (fun h => ?_)
    · rw [if_neg (fun hh=>h hh.1),if_neg (fun hh=>h hh.1)]
    · rw [if_pos ⟨h,by omega⟩]
      show [iv _,iv _] = [iv _,iv _]
      rw [show (lnB b x).lo + ((k + 1:Nat):Int) - 1=(lnB b x).lo + k by omega]
  case o19 =>
    have h4:=owed_in (cnt_sound hs (i:=x) (n:=(lnB b x).lo + k) (by omega))
    simp only [inI]; omega
  case o20=>simp only [inI]; omega
  case o29=>rw [show stds (cntB b x ((lnB b x).lo + k))=stds b from stds_congr (cnt_len _ _) (fun _ _=>rfl)]
  case o30=>intro i _; rw [show stds (cntB b x ((lnB b x).lo + k))=stds b from stds_congr (cnt_len _ _) (fun _ _=>rfl)]
  case o31=>exact cnt_len _ _
  case o32=>intro j hj; rw [cnt_row b hxl k j]
  all_goals (have hkN:k=lnN b x:=by omega)
  all_goals (intro hc; have hst:measTo b (x + 1)=if decide ((measTo b x).1 < 0) || decide (worstB b x < (measTo b x).2) then ((x:Int),worstB b x) else measTo b x:=rfl)
  case o35=>rw [hc]; rfl
  all_goals (rw [hkN,Bool.cond_true_left] at hc; try rw [hkN])
  case o36 | o42=>all_goals (simp only [inI]; omega)
  case o37 | o38=>all_goals (rw [hst]; unfold worstB; rw [if_pos hc]; try rfl)
  all_goals (rw [hst]; unfold worstB; rw [if_neg (by rw [hc]; exact Bool.false_ne_true)])
theorem w22n (b:Book)
  (o0:smallB b/\okBook b=false->(!decide (openE b true=0))=true)
  (o1:smallB b/\okBook b=false->0=measN b)
  (o2:smallB b/\okBook b=false->openE b true=measE b) :
  Triple Tryz.prog 22 (s22n b):=by
 refine triple_of Tryz.func22 rfl Tryz.call22 T0_ok _ rfl rfl rfl rfl (Nat.le_of_ble_eq_true (by kernel_rfl)) (fun _ _ _ _ h=>h) ?_
 intro hpre C hC _ hE
 obtain ⟨P,w0,E0,av,hA,ro,df⟩:=C
 obtain ⟨rfl,rfl,rfl⟩:=hC
 refine swp_seq ?_
 refine zR [1] [0] (Ak 3 tv) ?_
 refine swp_seq ?_
 refine zC ([(1,CallSpec.eq (s43 b true) [true,true])]) [1,4,5] [0] (Ak 1 (An (An (An (zr (AV.agg (cBk b))) (An (zr (bv true)) tv)) (An (t43 (b) (true)) (An hpre.1 (Ak 1 (fun (i0:Env)=>tv))))) (Ak 5 tv))) ?_
 refine swp_seq ?_
 refine swp_seq ?_
 refine zR [1,4,5,20] [0] (Ak 2 tv) ?_
 refine zI (!decide (openE b true=0)) (fun _ => ?_) (fun h=>by cases (h.symm.trans (o0 hpre)))
 refine swp_seq ?_
 refine zR [2,3] [] (Ak 3 tv) ?_
 refine swp_ret ?_
 exact zT [] (An (Ak 2 tv) (An (An (An (ci (o1 hpre)) (zr nilN)) (An (An (ci (o2 hpre)) (zr nilN)) tv)) (An (zr true) (An (zr true) (zr true)))))
theorem t22n (b:Book):Triple Tryz.prog 22 (s22n b):=by
 apply w22n
 all_goals (rintro ⟨hp,h⟩)
 case o0=>rw [open_ok8,h]; rfl
 case o1=>unfold measN; rw [h]; rfl
 case o2=>unfold measE openE; rw [h]; rfl
theorem t22 (b:Book):Triple Tryz.prog 22 (s22 b):=by
 cases e:okBook b with
 | true=>exact triple_pre (q:=smallB b) (t22g b) (fun hp=>⟨hp,e⟩)
 | false=>exact triple_pre (q:=smallB b) (t22n b) (fun hp=>⟨hp,e⟩)
abbrev q5p (b:Book) (P:Prop):Prop:=smallB b->P
abbrev q5q (b:Book) (c:Int) (P:Prop):Prop:=q5p b ((!decide (openE b (isCt b c)=0))=false->P)
abbrev q5r (b:Book) (x5:Nat) (P:Prop):Prop:=x5 < nTr b->P
abbrev q5s (b:Book) (x5:Nat) (x8:Nat) (P:Prop):Prop:=(x8<=b.lines.length /\ ∀ (q:Nat),q < x8->(trN b x5).getD q 0=(lnB b q).hi)->P
abbrev q5t (b:Book) (x5:Nat) (x8:Nat) (P:Prop):Prop:=q5s b x5 x8 (decide ((x8:Int) < (↑(b.lines.length):Int))=true->P)
abbrev q5u (b:Book) (x5:Nat) (x8:Nat) (P:Prop):Prop:=q5s b x5 x8 ((bif decide ((x8:Int) < (↑(b.lines.length):Int)) then decide (rowL8 b x5 x8 x8=(highsB b).getD x8 0) else false)=true->P)
abbrev q5v (b:Book) (x5:Nat) (x8:Nat) (P:Prop):Prop:=q5s b x5 x8 ((bif decide ((x8:Int) < (↑(b.lines.length):Int)) then decide (rowL8 b x5 x8 x8=(highsB b).getD x8 0) else false)=false->P)
abbrev q5w (b:Book) (x5:Nat) (x8:Nat) (P:Prop):Prop:=q5v b x5 x8 (decide ((x8:Int)=(↑(b.lines.length):Int))=false->P)
abbrev q5x (b:Book) (j3:Nat) (P:Prop):Prop:=j3 < nTr b->True->P
abbrev q5y (b:Book) (c:Int) (P:Prop):Prop:=q5q b c (decide (0=(↑(soTo b c (nTr b)):Int))=false->P)
theorem w20 (b:Book) (c:Int)
 (o0:q5p b (fitsB b))
 (o1:q5p b ((!decide (openE b (isCt b c)=0))=true->0=buyN b c))
 (o2:q5q b c ((okBook b && isCt b c)=true))
 (o3:q5q b c (SoundB b))
 (o4:q5q b c (0=(↑(soTo b c 0):Int)))
 (o5:q5q b c (0=(↑0:Int) - (↑(soTo b c 0):Int)))
 (o6:q5q b c ((lowsB b).length=(trN b 0).length))
 (o7:q5q b c (∀ (i6:Nat),i6 < (lowsB b).length -> [iv ((lowsB b).getD i6 0)] = [iv ((trN b 0).getD i6 0)]))
 (o8:q5q b c (0 < nTr b))
 (o9:q5q b c (∀ (x5:Nat),q5r b x5 (0=(↑0:Int))))
 (o10:q5q b c (∀ (x5:Nat),q5r b x5 ((trN b x5).length=b.lines.length)))
 (o11:q5q b c (∀ (x5:Nat),q5r b x5 (∀ (i9:Nat),i9 < (trN b x5).length -> [iv ((trN b x5).getD i9 0)] = [iv (rowL8 b x5 0 i9)])))
 (o12:q5q b c (∀ (x5:Nat),q5r b x5 (0<=b.lines.length /\ ∀ (q:Nat),q < 0->(trN b x5).getD q 0=(lnB b q).hi)))
 (o13:q5q b c (∀ (x5:Nat),q5r b x5 (∀ (x8:Nat),q5t b x5 x8 (0<=(x8:Int)))))
 (o14:q5q b c (∀ (x5:Nat),q5r b x5 (∀ (x8:Nat),q5t b x5 x8 ((x8:Int) < (↑(b.lines.length):Int)))))
 (o15:q5q b c (∀ (x5:Nat),q5r b x5 (∀ (x8:Nat),q5t b x5 x8 (x8 < b.lines.length))))
 (o16:q5q b c (∀ (x5:Nat),q5r b x5 (∀ (x8:Nat),q5t b x5 x8 (0<=(x8:Int)))))
 (o17:q5q b c (∀ (x5:Nat),q5r b x5 (∀ (x8:Nat),q5t b x5 x8 ((x8:Int) < (↑((highsB b).length):Int)))))
 (o18:q5q b c (∀ (x5:Nat),q5r b x5 (∀ (x8:Nat),q5t b x5 x8 (x8 < (highsB b).length))))
 (o19:q5q b c (∀ (x5:Nat),q5r b x5 (∀ (x8:Nat),q5u b x5 x8 (0<=(x8:Int)))))
 (o20:q5q b c (∀ (x5:Nat),q5r b x5 (∀ (x8:Nat),q5u b x5 x8 ((x8:Int) < (↑(b.lines.length):Int)))))
 (o21:q5q b c (∀ (x5:Nat),q5r b x5 (∀ (x8:Nat),q5u b x5 x8 (0<=(x8:Int)))))
 (o22:q5q b c (∀ (x5:Nat),q5r b x5 (∀ (x8:Nat),q5u b x5 x8 ((x8:Int) < (↑(b.lines.length):Int)))))
 (o23:q5q b c (∀ (x5:Nat),q5r b x5 (∀ (x8:Nat),q5u b x5 x8 (x8 < b.lines.length))))
 (o24:q5q b c (∀ (x5:Nat),q5r b x5 (∀ (x8:Nat),q5u b x5 x8 (inI ((x8:Int) + 1)))))
 (o25:q5q b c (∀ (x5:Nat),q5r b x5 (∀ (x8:Nat),q5u b x5 x8 ((x8:Int) + 1=(↑(x8 + 1):Int)))))
 (o26:q5q b c (∀ (x5:Nat),q5r b x5 (∀ (x8:Nat),q5u b x5 x8 (∀ (i31:Nat),i31 < b.lines.length->Decidable.rec (fun (h:¬i31=x8)=>[iv (rowL8 b x5 x8 i31)]) (fun (h:i31=x8)=>[iv (lnB b x8).lo] ++ []) (instDecidableEqNat i31 x8) = [iv (rowL8 b x5 (x8 + 1) i31)]))))
 (o27:q5q b c (∀ (x5:Nat),q5r b x5 (∀ (x8:Nat),q5u b x5 x8 (x8 + 1<=b.lines.length /\ ∀ (q:Nat),q < x8 + 1->(trN b x5).getD q 0=(lnB b q).hi))))
 (o28:q5q b c (∀ (x5:Nat),q5r b x5 (∀ (x8:Nat),q5u b x5 x8 (b.lines.length - (x8 + 1) < b.lines.length - x8))))
 (o29:q5q b c (∀ (x5:Nat),q5r b x5 (∀ (x8:Nat),q5v b x5 x8 (decide ((x8:Int)=(↑(b.lines.length):Int))=true->(↑(soTo b c (x5 + 1)):Int)=(↑(soTo b c (nTr b)):Int)))))
 (o30:q5q b c (∀ (x5:Nat),q5r b x5 (∀ (x8:Nat),q5v b x5 x8 (decide ((x8:Int)=(↑(b.lines.length):Int))=true->(↑(x5 + 1):Int) - (↑(soTo b c (x5 + 1)):Int)=(↑(nTr b):Int) - (↑(soTo b c (nTr b)):Int)))))
 (o31:q5q b c (∀ (x5:Nat),q5r b x5 (∀ (x8:Nat),q5w b x5 x8 (0<=(x8:Int)))))
 (o32:q5q b c (∀ (x5:Nat),q5r b x5 (∀ (x8:Nat),q5w b x5 x8 ((x8:Int) < (↑(b.lines.length):Int)))))
 (o33:q5q b c (∀ (x5:Nat),q5r b x5 (∀ (x8:Nat),q5w b x5 x8 (x8 < b.lines.length))))
 (o34:q5q b c (∀ (x5:Nat),q5r b x5 (∀ (x8:Nat),q5w b x5 x8 (inI (rowL8 b x5 x8 x8 + 1)))))
 (o35:q5q b c (∀ (x5:Nat),q5r b x5 (∀ (x8:Nat),q5w b x5 x8 (0<=(x8:Int)))))
 (o36:q5q b c (∀ (x5:Nat),q5r b x5 (∀ (x8:Nat),q5w b x5 x8 ((x8:Int) < (↑(b.lines.length):Int)))))
 (o37:q5q b c (∀ (x5:Nat),q5r b x5 (∀ (x8:Nat),q5w b x5 x8 (x8 < b.lines.length))))
 (o38:q5q b c (∀ (x5:Nat),q5r b x5 (∀ (x8:Nat),q5w b x5 x8 (b.lines.length=(trN b (x5 + 1)).length))))
 (o39:q5q b c (∀ (x5:Nat),q5r b x5 (∀ (x8:Nat),q5w b x5 x8 (∀ (i34:Nat),i34 < b.lines.length->Decidable.rec (fun (h:¬i34=x8)=>[iv (rowL8 b x5 x8 i34)]) (fun (h:i34=x8)=>[iv (rowL8 b x5 x8 x8 + 1)] ++ []) (instDecidableEqNat i34 x8) = [iv ((trN b (x5 + 1)).getD i34 0)]))))
 (o40:q5q b c (∀ (x5:Nat),q5r b x5 (∀ (x8:Nat),q5w b x5 x8 (x5 + 1 < nTr b))))
 (o41:q5q b c (∀ (x5:Nat),q5r b x5 (∀ (x8:Nat),q5w b x5 x8 (nTr b - (x5 + 1) < nTr b - x5))))
 (o42:q5q b c (∀ (j3:Nat),q5x b j3 ((okBook b && isCt b c)=true)))
 (o43:q5q b c (∀ (j3:Nat),q5x b j3 (SoundB b)))
 (o44:q5q b c (∀ (j3:Nat),q5x b j3 (GoodLn b (trN b j3))))
 (o45:q5q b c (∀ (j3:Nat),q5x b j3 ((boughtB b (trN b j3)).length<=65536)))
 (o46:q5q b c (∀ (j3:Nat),q5x b j3 (hasG (boughtB b (trN b j3)) c=true->inI ((↑(soTo b c j3):Int) + 1))))
 (o47:q5q b c (∀ (j3:Nat),q5x b j3 (hasG (boughtB b (trN b j3)) c=true->(↑(soTo b c j3):Int) + 1=(↑(soTo b c (j3 + 1)):Int))))
 (o48:q5q b c (∀ (j3:Nat),q5x b j3 (hasG (boughtB b (trN b j3)) c=true->(j3:Int) - (↑(soTo b c j3):Int)=(↑(j3 + 1):Int) - (↑(soTo b c (j3 + 1)):Int))))
 (o49:q5q b c (∀ (j3:Nat),q5x b j3 (hasG (boughtB b (trN b j3)) c=false->inI ((j3:Int) - (↑(soTo b c j3):Int) + 1))))
 (o50:q5q b c (∀ (j3:Nat),q5x b j3 (hasG (boughtB b (trN b j3)) c=false->(↑(soTo b c j3):Int)=(↑(soTo b c (j3 + 1)):Int))))
 (o51:q5q b c (∀ (j3:Nat),q5x b j3 (hasG (boughtB b (trN b j3)) c=false->(j3:Int) - (↑(soTo b c j3):Int) + 1=(↑(j3 + 1):Int) - (↑(soTo b c (j3 + 1)):Int))))
 (o52:q5q b c (decide (0=(↑(soTo b c (nTr b)):Int))=true->2=buyN b c))
 (o53:q5q b c (decide (0=(↑(soTo b c (nTr b)):Int))=true->0=openE b (isCt b c)))
 (o54:q5y b c (decide (0=(↑(nTr b):Int) - (↑(soTo b c (nTr b)):Int))=true->1=buyN b c))
 (o55:q5y b c (decide (0=(↑(nTr b):Int) - (↑(soTo b c (nTr b)):Int))=true->0=openE b (isCt b c)))
 (o56:q5y b c (decide (0=(↑(nTr b):Int) - (↑(soTo b c (nTr b)):Int))=false->3=buyN b c))
 (o57:q5y b c (decide (0=(↑(nTr b):Int) - (↑(soTo b c (nTr b)):Int))=false->0=openE b (isCt b c))) :
  Triple Tryz.prog 20 (s20 b c):=by
 refine triple_of Tryz.func20 rfl Tryz.call20 T0_ok _ rfl rfl rfl rfl (Nat.le_of_ble_eq_true (by kernel_rfl)) (fun _ _ _ _ h=>h) ?_
 intro hpre C hC _ hE
 obtain ⟨P,w0,E0,av,hA,ro,df⟩:=C
 obtain ⟨rfl,rfl,rfl⟩:=hC
 refine swp_seq ?_
 refine zC ([(1,focB8)]) [2,3] [0] (Ak 4 tv) ?_
 refine swp_seq ?_
 refine zC ([(3,CallSpec.eq (s38 b c) [true,true]),(4,CallSpec.eq (s43 b (isCt b c)) [true,true])]) [3,6,7] [96] (Ak 3 (An (An (An (zr (AV.agg (cBk b))) (An (zr (iv c)) tv)) (An (t38 (b) (c)) (An (o0 hpre) (Ak 1 (fun (i0:Env)=>tv))))) (An (An (An (zr (AV.agg (cBk b))) (An (zr (bv (isCt b c))) tv)) (An (t43 (b) (isCt b c)) (An hpre (Ak 1 (fun (i1:Env)=>tv))))) (Ak 6 tv)))) ?_
 refine swp_seq ?_
 refine swp_seq ?_
 refine zR [3,6,7,20] [96] (Ak 2 tv) ?_
 refine zI (!decide (openE b (isCt b c)=0)) (fun y2 => ?_) (fun y2 => ?_)
 ·refine swp_seq ?_
  refine zR [4,5] [] (Ak 3 tv) ?_
  refine swp_ret ?_
  exact zT [] (An (Ak 2 tv) (An (An (An (ci (o1 hpre y2)) (zr nilN)) (An (An (zr (iv (openE b (isCt b c)))) (zr nilN)) tv)) (An (zr true) (An (zr true) (zr true)))))
 ·refine swp_skip ?_
  refine swp_seq ?_
  refine zR [3,6,8,9] [96,136,144] (Ak 4 tv) ?_
  refine swp_seq ?_
  refine swp_seq ?_
  refine zR [3,6,8,9,23] [96,136,144] (Ak 1 (An (o2 hpre y2) tv)) ?_
  refine swp_block ?_
  refine zGm (r20 b c) 184 2000184 0 [3,6,8,9] (cWk b) Tryz.func46 Tryz.call46 rfl (fun C hC hY3 hE => ?_) (fun (j3:Nat) hj3 hp3 C hC hE => ?_) ?_
  ·obtain ⟨P,w0,E0,av,hA,ro,df⟩:=C
   subst hC
   refine swp_seq ?_
   refine zC ([(1,CallSpec.eq (c20e b c 192) [true])]) [0,1,4,5] [96,136,144,192,193] (Ak 1 (An (An (An (zr (AV.rp (cWk b))) tv) (An (t77o (b) (192)) (An (o3 hpre y2) (Ak 1 (fun (i4:Env)=>tv))))) (Ak 5 tv))) ?_
   refine swp_block ?_
   refine zL (Hint.ann (h20a b c) [(0,AV.rp (cWk b)),(1,AV.fn 0),(5,AV.vec 193)] [(193,OB.vec 3 1 (highsB b).length fun (i:Nat)=>[iv ((highsB b).getD i 0)])] 10240) (zEn 184 hE [] [(96,.same 96),(136,.same 136),(144,.same 144),(193,.same 193),(5000,.same 192)] [0,1] [193,96] (An (An (An (zr (AV.rp (cWk b))) (zr true)) (An (An (zr (AV.fn 0)) (zr true)) (An (zr (some (Src.same 193))) (An (zr (some (Src.same 192))) tv)))) (An (An (An (zr (OB.vec 3 1 (highsB b).length fun (i:Nat)=>[iv ((highsB b).getD i 0)])) (zr true)) (An (An (zr (OB.cells 56 [AV.opt (okBook b && isCt b c) (cWk b)])) (zr true)) (An (An (zr 3) (An (An (An (ci (o4 hpre y2)) (zr nilN)) tv) (zr true))) (An (An (zr 3) (An (An (An (ci (o5 hpre y2)) (zr nilN)) tv) (zr true))) (An (An (zr 3) (An (zr 1) (An (o6 hpre y2) (fun (i6:Nat)=>(fun (y7:i6 < (lowsB b).length)=>(o7 hpre y2 i6 y7)))))) tv))))) (An (zr true) (zr true))))) (o8 hpre y2) (fun (x5:Nat) hx5 => ?_)
   refine swp_block ?_
   refine swp_seq ?_
   refine swp_seq ?_
   refine zC ([(2,CallSpec.eq (y20 b c x5) [true])]) [0,1,5,4,15] [96,136,144,193,5000] (Ak 2 (An (An (An (zr (AV.vec 5000)) tv) (An (hY3 x5 hx5) (Ak 1 (An (zr (some (OB.cells 56 [AV.opt (okBook b && isCt b c) (cWk b)]))) (An (zr (some (OB.cells 3 [iv (↑(soTo b c x5):Int)]))) (An (zr (some (OB.cells 3 [iv ((x5:Int) - (↑(soTo b c x5):Int))]))) (An (zr (some (OB.vec 3 1 (trN b x5).length fun (i:Nat)=>[iv ((trN b x5).getD i 0)]))) tv))))))) (Ak 1 tv))) ?_
   refine zf ?_
   refine swp_skip ?_
   refine swp_seq ?_
   refine zR [0,1,5,4,6] [96,136,144,193,5000] (Ak 1 tv) ?_
   refine swp_seq ?_
   refine swp_block ?_
   refine zL (Hint.ann (h20b b c x5) [(0,AV.rp (cWk b)),(1,AV.fn 0),(5,AV.vec 193),(4,AV.vec 5000)] [(96,OB.cells 56 [AV.opt (okBook b && isCt b c) (cWk b)]),(136,OB.cells 3 [iv (↑(soTo b c (x5 + 1)):Int)]),(144,OB.cells 3 [iv ((↑(x5 + 1):Int) - (↑(soTo b c (x5 + 1)):Int))]),(193,OB.vec 3 1 (highsB b).length fun (i:Nat)=>[iv ((highsB b).getD i 0)])] 20280) (zEn 184 hE [] [(96,.same 96),(136,.same 136),(144,.same 144),(193,.same 193),(5000,.same 5000)] [0,1] [96,136,144,193] (An (An (An (zr (AV.rp (cWk b))) (zr true)) (An (An (zr (AV.fn 0)) (zr true)) (An (zr (some (Src.same 193))) (An (zr (some (Src.same 5000))) (An (An (ci (o9 hpre y2 x5 hx5)) (zr nilN)) tv))))) (An (An (An (zr (OB.cells 56 [AV.opt (okBook b && isCt b c) (cWk b)])) (zr true)) (An (An (zr (OB.cells 3 [iv (↑(soTo b c (x5 + 1)):Int)])) (zr true)) (An (An (zr (OB.cells 3 [iv ((↑(x5 + 1):Int) - (↑(soTo b c (x5 + 1)):Int))])) (zr true)) (An (An (zr (OB.vec 3 1 (highsB b).length fun (i:Nat)=>[iv ((highsB b).getD i 0)])) (zr true)) (An (An (zr 3) (An (zr 1) (An (o10 hpre y2 x5 hx5) (fun (i9:Nat)=>(fun (y10:i9 < (trN b x5).length)=>(o11 hpre y2 x5 hx5 i9 y10)))))) tv))))) (An (zr true) (zr true))))) (o12 hpre y2 x5 hx5) (fun (x8:Nat) hx8 => ?_)
   refine swp_seq ?_
   refine swp_seq ?_
   refine zR [0,1,5,4,6,30] [96,136,144,193,5000] (Ak 5 (An (fun (y11:decide ((x8:Int) < (↑(b.lines.length):Int))=true)=>(An (Ak 1 tv) tv)) (An (fun (y12:decide ((x8:Int) < (↑(b.lines.length):Int))=true)=>(An (Ak 1 tv) tv)) (An (fun (y13:decide ((x8:Int) < (↑(b.lines.length):Int))=true)=>(An (An (fun (y14:decide ((x8:Int) < (↑(b.lines.length):Int))=true)=>y13) (An (fun (y15:decide ((x8:Int) < (↑(b.lines.length):Int))=true)=>y13) tv)) (An (o13 hpre y2 x5 hx5 x8 hx8 y13) (o14 hpre y2 x5 hx5 x8 hx8 y13)))) (An (fun (y16:decide ((x8:Int) < (↑(b.lines.length):Int))=true)=>(An (An (fun (y17:decide ((x8:Int) < (↑(b.lines.length):Int))=true)=>y16) tv) (An (o15 hpre y2 x5 hx5 x8 hx8 y16) tv))) (An (fun (y18:decide ((x8:Int) < (↑(b.lines.length):Int))=true)=>(An (Ak 1 tv) tv)) (An (fun (y19:decide ((x8:Int) < (↑(b.lines.length):Int))=true)=>(An (Ak 1 tv) tv)) (An (fun (y20:decide ((x8:Int) < (↑(b.lines.length):Int))=true)=>(An (An (fun (y21:decide ((x8:Int) < (↑(b.lines.length):Int))=true)=>y20) (An (fun (y22:decide ((x8:Int) < (↑(b.lines.length):Int))=true)=>y20) tv)) (An (o16 hpre y2 x5 hx5 x8 hx8 y20) (o17 hpre y2 x5 hx5 x8 hx8 y20)))) (An (fun (y23:decide ((x8:Int) < (↑(b.lines.length):Int))=true)=>(An (An (fun (y24:decide ((x8:Int) < (↑(b.lines.length):Int))=true)=>y23) tv) (An (o18 hpre y2 x5 hx5 x8 hx8 y23) tv))) (An (fun (y25:decide ((x8:Int) < (↑(b.lines.length):Int))=true)=>(An (An (fun (y26:decide ((x8:Int) < (↑(b.lines.length):Int))=true)=>y25) (An (fun (y27:decide ((x8:Int) < (↑(b.lines.length):Int))=true)=>y25) tv)) tv)) (An (An (fun (y28:decide ((x8:Int) < (↑(b.lines.length):Int))=true)=>y28) (fun (y29:decide ((x8:Int) < (↑(b.lines.length):Int))=false)=>tv)) tv))))))))))) ?_
   refine zI (bif decide ((x8:Int) < (↑(b.lines.length):Int)) then decide (rowL8 b x5 x8 x8=(highsB b).getD x8 0) else false) (fun y30 => ?_) (fun y30 => ?_)
   ·refine swp_skip ?_
    refine swp_seq ?_
    refine swp_block ?_
    refine zR [0,1,5,4,6] [96,136,144,193,5000] (Ak 8 (An (An (o19 hpre y2 x5 hx5 x8 hx8 y30) (o20 hpre y2 x5 hx5 x8 hx8 y30)) (Ak 2 (An (An (o21 hpre y2 x5 hx5 x8 hx8 y30) (o22 hpre y2 x5 hx5 x8 hx8 y30)) (An (An (o23 hpre y2 x5 hx5 x8 hx8 y30) tv) tv))))) ?_
    refine zR [0,1,5,4,6] [96,136,144,193,5000] (Ak 1 (An (o24 hpre y2 x5 hx5 x8 hx8 y30) (Ak 1 tv))) ?_
    exact zn (zEn 184 hE [] [(96,.same 96),(136,.same 136),(144,.same 144),(193,.same 193),(5000,.same 5000)] [0,1] [96,136,144,193] (An (An (An (zr (AV.rp (cWk b))) (zr true)) (An (An (zr (AV.fn 0)) (zr true)) (An (zr (some (Src.same 193))) (An (zr (some (Src.same 5000))) (An (An (ci (o25 hpre y2 x5 hx5 x8 hx8 y30)) (zr nilN)) tv))))) (An (An (An (zr (OB.cells 56 [AV.opt (okBook b && isCt b c) (cWk b)])) (zr true)) (An (An (zr (OB.cells 3 [iv (↑(soTo b c (x5 + 1)):Int)])) (zr true)) (An (An (zr (OB.cells 3 [iv ((↑(x5 + 1):Int) - (↑(soTo b c (x5 + 1)):Int))])) (zr true)) (An (An (zr (OB.vec 3 1 (highsB b).length fun (i:Nat)=>[iv ((highsB b).getD i 0)])) (zr true)) (An (An (zr 3) (An (zr 1) (An (zr b.lines.length) (fun (i31:Nat)=>(fun (y32:i31 < b.lines.length)=>(o26 hpre y2 x5 hx5 x8 hx8 y30 i31 y32)))))) tv))))) (An (zr true) (zr true))))) (o27 hpre y2 x5 hx5 x8 hx8 y30) (o28 hpre y2 x5 hx5 x8 hx8 y30)
   ·refine swp_exit ?_
    refine swp_seq ?_
    refine swp_seq ?_
    refine zR [0,1,5,4,6,48] [96,136,144,193,5000] (Ak 4 tv) ?_
    refine zI (decide ((x8:Int)=(↑(b.lines.length):Int))) (fun y33 => ?_) (fun y33 => ?_)
    ·refine swp_ret ?_
     exact zM (zEn 184 hE [] [(96,.same 96),(136,.same 136),(144,.same 144)] [] [96] (Ak 1 (An (An (An (zr (OB.cells 56 [AV.opt (okBook b && isCt b c) (cWk b)])) (zr true)) (An (An (zr 3) (An (An (An (ci (o29 hpre y2 x5 hx5 x8 hx8 y30 y33)) (zr nilN)) tv) (zr true))) (An (An (zr 3) (An (An (An (ci (o30 hpre y2 x5 hx5 x8 hx8 y30 y33)) (zr nilN)) tv) (zr true))) tv))) (An (zr true) (zr true)))))
    ·refine swp_skip ?_
     refine zR [0,1,5,4] [96,136,144,193,5000] (Ak 2 (An (An (o31 hpre y2 x5 hx5 x8 hx8 y30 y33) (o32 hpre y2 x5 hx5 x8 hx8 y30 y33)) (An (An (o33 hpre y2 x5 hx5 x8 hx8 y30 y33) tv) (An (o34 hpre y2 x5 hx5 x8 hx8 y30 y33) (An (An (o35 hpre y2 x5 hx5 x8 hx8 y30 y33) (o36 hpre y2 x5 hx5 x8 hx8 y30 y33)) (An (An (o37 hpre y2 x5 hx5 x8 hx8 y30 y33) tv) tv)))))) ?_
     exact zn (zEn 184 hE [] [(96,.same 96),(136,.same 136),(144,.same 144),(193,.same 193),(5000,.same 5000)] [0,1] [193,96,136,144] (An (An (An (zr (AV.rp (cWk b))) (zr true)) (An (An (zr (AV.fn 0)) (zr true)) (An (zr (some (Src.same 193))) (An (zr (some (Src.same 5000))) tv)))) (An (An (An (zr (OB.vec 3 1 (highsB b).length fun (i:Nat)=>[iv ((highsB b).getD i 0)])) (zr true)) (An (An (zr (OB.cells 56 [AV.opt (okBook b && isCt b c) (cWk b)])) (zr true)) (An (An (zr (OB.cells 3 [iv (↑(soTo b c (x5 + 1)):Int)])) (zr true)) (An (An (zr (OB.cells 3 [iv ((↑(x5 + 1):Int) - (↑(soTo b c (x5 + 1)):Int))])) (zr true)) (An (An (zr 3) (An (zr 1) (An (o38 hpre y2 x5 hx5 x8 hx8 y30 y33) (fun (i34:Nat)=>(fun (y35:i34 < b.lines.length)=>(o39 hpre y2 x5 hx5 x8 hx8 y30 y33 i34 y35)))))) tv))))) (An (zr true) (zr true))))) (o40 hpre y2 x5 hx5 x8 hx8 y30 y33) (o41 hpre y2 x5 hx5 x8 hx8 y30 y33)
  ·obtain ⟨P,w0,E0,av,hA,ro,df⟩:=C
   subst hC
   refine zR [3,6,8,9,10] [96,136,144,5000] (Ak 1 tv) ?_
   intro C hC hE
   obtain ⟨P,w0,E0,av,hA,ro,df⟩:=C
   subst hC
   refine swp_block ?_
   refine swp_seq ?_
   refine zC ([(2,CallSpec.eq (c20b b c j3 6024) [false,true]),(4,CallSpec.eq (c20c b c j3) [false,true])]) [8,9,29] [96,136,144,5000] (Ak 2 (An (An (An (An (o42 hpre y2 j3 hj3 hp3) (zr (cWk b))) (An (zr (AV.vec 5000)) tv)) (An (lendT 3 5000 1 (none) (t36o (b) (trN b j3) (6024))) (An (An (o43 hpre y2 j3 hj3 hp3) (o44 hpre y2 j3 hj3 hp3)) (An (An (zr (some (OB.vec 3 1 (trN b j3).length fun (i:Nat)=>[iv ((trN b j3).getD i 0)]))) tv) (fun (i36:Env)=>tv))))) (Ak 1 (An (An (An (An (zr 1) (An (zr (boughtB b (trN b j3)).length) (fun (i37:Nat)=>(fun (y38:i37 < (boughtB b (trN b j3)).length)=>(zr ([iv ((boughtB b (trN b j3)).getD i37 0)])))))) (An (zr (iv c)) tv)) (An (t47 (boughtB b (trN b j3)) (c)) (An (o45 hpre y2 j3 hj3 hp3) (Ak 1 (fun (i39:Env)=>tv))))) tv)))) ?_
   refine zI (hasG (boughtB b (trN b j3)) c) (fun y40 => ?_) (fun y40 => ?_)
   ·refine zR [] [96,136,144,5000] (Ak 1 (An (o46 hpre y2 j3 hj3 hp3 y40) (Ak 1 tv))) ?_
    exact zN 1006000 (zEn 6000 hE [] [(96,.same 96),(136,.same 136),(144,.same 144),(5000,.same 5000)] [] [96,5000] (Ak 1 (An (An (An (zr (OB.cells 56 [AV.opt (okBook b && isCt b c) (cWk b)])) (zr true)) (An (An (zr 3) (An (An (An (ci (o47 hpre y2 j3 hj3 hp3 y40)) (zr nilN)) tv) (zr true))) (An (An (zr 3) (An (An (An (ci (o48 hpre y2 j3 hj3 hp3 y40)) (zr nilN)) tv) (zr true))) (An (An (zr (OB.vec 3 1 (trN b j3).length fun (i:Nat)=>[iv ((trN b j3).getD i 0)])) (zr true)) tv)))) (An (zr true) (zr true)))))
   ·refine zR [] [96,136,144,5000] (Ak 1 (An (o49 hpre y2 j3 hj3 hp3 y40) (Ak 1 tv))) ?_
    exact zN 1006000 (zEn 6000 hE [] [(96,.same 96),(136,.same 136),(144,.same 144),(5000,.same 5000)] [] [96,5000] (Ak 1 (An (An (An (zr (OB.cells 56 [AV.opt (okBook b && isCt b c) (cWk b)])) (zr true)) (An (An (zr 3) (An (An (An (ci (o50 hpre y2 j3 hj3 hp3 y40)) (zr nilN)) tv) (zr true))) (An (An (zr 3) (An (An (An (ci (o51 hpre y2 j3 hj3 hp3 y40)) (zr nilN)) tv) (zr true))) (An (An (zr (OB.vec 3 1 (trN b j3).length fun (i:Nat)=>[iv ((trN b j3).getD i 0)])) (zr true)) tv)))) (An (zr true) (zr true)))))
  ·refine swp_seq ?_
   refine swp_block ?_
   refine swp_seq ?_
   refine zR [9,34] [144] (Ak 3 tv) ?_
   refine zI (decide (0=(↑(soTo b c (nTr b)):Int))) (fun y41 => ?_) (fun y41 => ?_)
   ·refine swp_seq ?_
    refine zR [4,5] [] (Ak 2 tv) ?_
    refine swp_ret ?_
    exact zT [] (An (Ak 2 tv) (An (An (An (ci (o52 hpre y2 y41)) (zr nilN)) (An (An (ci (o53 hpre y2 y41)) (zr nilN)) tv)) (An (zr true) (An (zr true) (zr true)))))
   ·refine swp_seq ?_
    refine zR [37] [] (Ak 3 tv) ?_
    refine zI (decide (0=(↑(nTr b):Int) - (↑(soTo b c (nTr b)):Int))) (fun y42 => ?_) (fun y42 => ?_)
    ·refine swp_seq ?_
     refine zR [4,5] [] (Ak 2 tv) ?_
     refine swp_ret ?_
     exact zT [] (An (Ak 2 tv) (An (An (An (ci (o54 hpre y2 y41 y42)) (zr nilN)) (An (An (ci (o55 hpre y2 y41 y42)) (zr nilN)) tv)) (An (zr true) (An (zr true) (zr true)))))
    ·refine swp_skip ?_
     refine swp_seq ?_
     refine zR [4,5] [] (Ak 2 tv) ?_
     refine swp_ret ?_
     exact zT [] (An (Ak 2 tv) (An (An (An (ci (o56 hpre y2 y41 y42)) (zr nilN)) (An (An (ci (o57 hpre y2 y41 y42)) (zr nilN)) tv)) (An (zr true) (An (zr true) (zr true)))))
theorem bought_len (b:Book) (ls:List Int):(boughtB b ls).length<=b.ctrs.length:=by
 unfold boughtB; exact Nat.le_trans (List.length_filterMap_le _ _) (by rw [List.length_range]; omega)
theorem trN_len (b:Book) (i:Nat):(trN b i).length=b.lines.length:=lineN_len _ _
theorem tr_zero (b:Book) {q:Nat} (h:q < b.lines.length):(trN b 0).getD q 0=(lnB b q).lo:=lineN_zero q h
theorem t20 (b:Book) (c:Int):Triple Tryz.prog 20 (s20 b c):=by
  apply w20
  all_goals (try delta q5p q5q q5r q5s q5t q5u q5v q5w q5x q5y)
  case o0=>exact fun hp=>small_fitsB hp
  all_goals (intro hp h; rw [open_ok8] at h)
  case o1=>simp only [Bool.not_eq_true'] at h; unfold buyN; rw [h]; rfl
  all_goals (simp only [Bool.not_eq_false'] at h; have hh:=h; rw [Bool.and_eq_true] at hh; have hs:=ok_soundB hh.1; have hct:=isCt_iff.1 hh.2; have hln:=hs.lines; have hris:=hs.ris; have hnt:=nTr_le hs; have hnp:=nTr_pos hs)
  case o2=>exact h
  case o3=>exact hs
  case o4 | o5=>all_goals rfl
  case o6=>rw [lows_len,trN_len]
  case o7=>intro i hi; rw [lows_len] at hi; rw [lows_get hi,tr_zero b hi]
  case o8=>exact hnp
  case o52=>intro h0; have:=of_decide_eq_true h0; unfold buyN buyB; rw [h,if_pos rfl,if_pos (by omega)]
  case o53 | o55 | o57=>all_goals (intros; exact (open_zero h).symm)
  case o54=>intro h0 h1; have:=of_decide_eq_false h0; have h1:=of_decide_eq_true h1; have hle:=soTo_le b c (nTr b); unfold buyN buyB; rw [h,if_pos rfl,if_neg (by omega),if_pos (by omega)]
  case o56=>intro h0 h1; have:=of_decide_eq_false h0; have h1:=of_decide_eq_false h1; have hle:=soTo_le b c (nTr b); unfold buyN buyB; rw [h,if_pos rfl,if_neg (by omega),if_neg (by omega)]
  case o42=>intros; exact h
  case o43=>intros; exact hs
  case o44=>intro j hj _; exact tr_good hs j
  case o45=>intro j hj _; exact Nat.le_trans (bought_len b _) (by have:=hs.ctrs; omega)
  case o46 | o47 | o48 | o49 | o50 | o51=>all_goals (
    intro j hj _ hb
    have hb:isIn (boughtB b (trN b j)) c=_:=hb
    have h1:=soTo_succ b c j
    rw [hb] at h1
    have h2:=soTo_le b c j
    simp only [if_true,if_false,Bool.false_eq_true] at h1
    first | omega | (simp only [inI]; omega))
  all_goals (intro x hx)
  case o9=>rfl
  case o10=>exact trN_len b x
  case o11=>intro i _; rfl
  case o12=>exact ⟨Nat.zero_le _,fun q hq=>absurd hq (Nat.not_lt_zero _)⟩
  all_goals (rintro n ⟨hn,hfull⟩ hc)
  all_goals (have hhl:=highs_len b)
  case o13 | o14 | o15 | o16 | o17 | o18=>all_goals (have:=of_decide_eq_true hc; omega)
  case o19 | o20 | o21 | o22 | o23 | o24 | o25 | o26 | o27 | o28=>all_goals (
    rw [Bool.cond_false_right,Bool.and_eq_true,decide_eq_true_eq,decide_eq_true_eq] at hc
    obtain ⟨hc1,hc2⟩:=hc
    first
    | omega
    | (simp only [inI]; omega)
    | (intro i hi
       unfold rowL8 rowL
       refine rec_ei8 (fun h => ?_) (fun h => ?_)
       · by_cases hin:i < n
         · rw [if_pos hin,if_pos (by omega)]
         · rw [if_neg hin,if_neg (by omega)]
       · rw [h,if_pos (by omega)]; rfl)
    | (refine ⟨by omega,lt_succ_cases hfull ?_⟩
       unfold rowL8 rowL at hc2
       rw [if_neg (Nat.lt_irrefl n),highs_get (by omega)] at hc2
       exact hc2))
  case o29 | o30=>all_goals (
    intro h0
    have h0:=of_decide_eq_true h0
    have:=lineN_full hris hx (fun q hq=>hfull q (by omega))
    have e:x + 1=nTr b:=this
    rw [e])
  all_goals (intro h0; have h0:=of_decide_eq_false h0; have hnl:n < b.lines.length:=by omega)
  all_goals (rw [Bool.cond_false_right,decide_eq_true (show (n:Int) < b.lines.length by omega),Bool.true_and,decide_eq_false_iff_not] at hc; unfold rowL8 rowL at hc; rw [if_neg (Nat.lt_irrefl n),highs_get hnl] at hc)
  all_goals (obtain ⟨g1,g2⟩:=lineN_next hris hx hnl hfull hc)
  case o34 =>
    have h1:=(tr_in hs x).2 n hnl
    have h2:=hs.line n hnl
    unfold rowL8 rowL
    rw [if_neg (Nat.lt_irrefl n)]
    show inI ((trN b x).getD n 0 + 1)
    simp only [inI]; omega
  case o38=>exact (trN_len b _).symm
  case o39 =>
    intro i hi
    show _ = [iv ((lineN b.lines (x + 1)).getD i 0)]
    rw [g2 i hi]
    unfold rowL8 rowL
    refine rec_ei8 (fun h => ?_) (fun h => ?_)
    · rw [if_neg h]
    · rw [if_pos h,if_neg (Nat.lt_irrefl n),h]; rfl
  case o40=>exact g1
  all_goals (first | omega | (have:x + 1 < nTr b:=g1; omega))
end Go.Ab
namespace Go.Sh
open Go.Ab
def listsTo (b:Book) (first:List Int) (m k:Nat):List (List Int):=((bysB b).take k).flatMap fun y=>listsB b m (first ++ [y])
def truthsTo (b:Book) (first:List Int) (m k:Nat):List (List Int):=(List.range k).flatMap fun (k:Nat)=>truthsB b m (first ++ [(lnB b first.length).lo + k])
def allL (b:Book):List (List Int):=listsB b (stds b).length []
def allT (b:Book):List (List Int):=truthsB b b.lines.length []
end Go.Sh
namespace Go.Ab
open Go Go.RowKit Go.Proofs Go.Sh Go.En
abbrev rowLs (l:List (List Int)):OB := .vec 27 1 l.length (fun i=>[aInts (l.getD i [])])
def s67 (b:Book) (ls l:List Int):CallSpec:={ args:=[vBk b,aInts ls,aInts l],res:=bv (isBillB b ls l),pre:=SoundB b/\GoodLn b ls/\l.length<=big }
def h67a (b:Book) (ls l:List Int):Hint:={ X:=Nat,M:=fun i=>[(8,iv i)],I:=fun i=>i<=(stds b).length /\ ∀ j,j < i->slotB b (sdA b j) (l.getD j 0)=true,mu:=fun i=>(stds b).length - i,x0:=(0:Nat),nx:=fun i=>i + 1 }
def h67b (b:Book) (ls l:List Int):Hint:={ X:=Nat,M:=fun c=>[(10,iv c)],I:=fun c=>c<=b.ctrs.length /\ ∀ j,j < c->decide (sumAt b ls l j (stds b).length<=(ctB b j).room)=true,mu:=fun c=>b.ctrs.length - c,x0:=(0:Nat),nx:=fun c=>c + 1 }
def h67c (b:Book) (ls l:List Int) (c:Nat):Hint:={ X:=Nat,M:=fun i=>[(11,iv (sumAt b ls l c i)),(12,iv i)],I:=fun i=>i<=(stds b).length,mu:=fun i=>(stds b).length - i,x0:=(0:Nat),nx:=fun i=>i + 1 }
def s65 (b:Book) (ls l:List Int):CallSpec:={ args:=[vBk b,aInts ls,aInts l],res:=iv (costB b ls l),pre:=SoundB b/\GoodLn b ls/\l.length=(stds b).length }
def h65a (b:Book) (ls l:List Int):Hint:={ X:=Nat,M:=fun i=>[(8,iv (sglAt b ls l i)),(9,iv i)],I:=fun i=>i<=(stds b).length,mu:=fun i=>(stds b).length - i,x0:=(0:Nat),nx:=fun i=>i + 1 }
def h65b (b:Book) (ls l:List Int):Hint:={ X:=Nat,M:=fun c=>[(8,iv (sglAt b ls l (stds b).length + penAt b l c)),(11,iv c)],I:=fun c=>c<=b.ctrs.length,mu:=fun c=>b.ctrs.length - c,x0:=(0:Nat),nx:=fun c=>c + 1 }
def s66 (b:Book) (first:List Int) (m:Nat):CallSpec:={ args:=[vBk b,aInts first,iv m],res:=aIntss (listsB b (m - first.length) first),pre:=SoundB b/\first.length<=m/\m<=6 }
def h66 (b:Book) (first:List Int) (m:Nat):Hint:={ X:=Nat,M:=fun k=>[(7,.vec 5000),(8,iv ((k:Int) - 1))],H:=fun k=>[(5000,rowLs (listsTo b first (m - first.length - 1) k))],I:=fun k=>k<=b.ctrs.length + 1,mu:=fun k=>b.ctrs.length + 1 - k,x0:=(0:Nat),nx:=fun k=>k + 1 }
def c66 (b:Book) (first:List Int) (m k:Nat):CallSpec:=s66 b (first ++ [(k:Int) - 1]) m
def s35 (b:Book) (ls:List Int):CallSpec:={ args:=[vBk b,aInts ls],res:=aInts (bestB b ls).1,pre:=SoundB b/\GoodLn b ls }
def h35 (b:Book) (ls:List Int):Hint:={ X:=Nat,M:=fun k=>[(6,iv (refBT b ls (allL b) k).1),(7,iv (refBT b ls (allL b) k).2),(8,iv ((k:Int) + 1))],I:=fun k=>k < (allL b).length,mu:=fun k=>(allL b).length - k,x0:=(0:Nat),nx:=fun k=>k + 1 }
def c35l (b:Book) (ls:List Int):CallSpec:=s66 b [] (stds b).length
def c35a (b:Book) (ls:List Int):CallSpec:=s65 b ls ((allL b).getD 0 [])
def c35b (b:Book) (ls:List Int) (k:Nat):CallSpec:=s67 b ls ((allL b).getD (k + 1) [])
def c35c (b:Book) (ls:List Int) (k:Nat):CallSpec:=s65 b ls ((allL b).getD (k + 1) [])
def s34 (b:Book) (ls:List Int):CallSpec:={ args:=[vBk b,aInts ls],res:=iv (bestB b ls).2,pre:=SoundB b/\GoodLn b ls }
def c34 (b:Book) (ls:List Int):CallSpec:=s65 b ls (bestB b ls).1
def ou7 (b:Book):OutSpec:={ args:=[vBk b],pre:=smallB b,res := .agg [.vec 0,.vec 1,iv b.rate,iv b.rep,.vec 2],hout:=[(0,.vec 41 2 b.lines.length (fun i=>cSpan (lnB b i))),(1,.vec 74 3 b.shown.length (fun i=>cShn (shB b i))),(2,.vec 68 4 b.ctrs.length (fun i=>cCtr (ctB b i)))] }
def s7o (b:Book) (id:Nat):CallSpec:=(ou7 b).at [(0,id),(1,id + 1),(2,id + 2)]
def s78 (b:Book):CallSpec:={ args:=[vBk b],res := .tup [aInts (lowsB b),aInts (highsB b)],pre:=SoundB b }
def h78 (b:Book):Hint:={ X:=Nat,M:=fun i=>[(2,.vec 5000),(3,.vec 5001),(4,iv i)],H:=fun i=>[(5000,rowZ ((lowsB b).take i)),(5001,rowZ ((highsB b).take i))],I:=fun i=>i<=b.lines.length,mu:=fun i=>b.lines.length - i,x0:=(0:Nat),nx:=fun i=>i + 1 }
def s45 (b:Book):CallSpec:={ args:=[vBk b],res:=vSpan (owedB b),pre:=SoundB b }
def s19 (b:Book):CallSpec:={ args:=[vBk b],res := .tup [vSpan (owedN b),iv (checkB b)],pre:=fitsB b }
def s48 (b:Book) (first:List Int):CallSpec:={ args:=[vBk b,aInts first],res:=aIntss (truthsB b (b.lines.length - first.length) first),pre:=SoundB b/\first.length<=b.lines.length }
def h48 (b:Book) (first:List Int):Hint:={ X:=Nat,M:=fun k=>[(5,.vec 5000),(7,iv ((lnB b first.length).lo + k))],H:=fun k=>[(5000,rowLs (truthsTo b first (b.lines.length - first.length - 1) k))],I:=fun k=>k<=lnN b first.length,mu:=fun k=>lnN b first.length - k,x0:=(0:Nat),nx:=fun k=>k + 1 }
def c48 (b:Book) (first:List Int) (k:Nat):CallSpec:=s48 b (first ++ [(lnB b first.length).lo + k])
def s21 (b:Book) (c:Int):CallSpec:={ args:=[vBk b,iv c],res := .tup [iv (buyN b c),iv (openE b (isCt b c))],pre:=fitsB b }
def h21 (b:Book) (c:Int):Hint:={ X:=Nat,M:=fun i=>[(8,iv (refSo b c (allT b) i)),(9,iv i)],I:=fun i=>i<=(allT b).length,mu:=fun i=>(allT b).length - i,x0:=(0:Nat),nx:=fun i=>i + 1 }
def c21t (b:Book) (c:Int):CallSpec:=s48 b []
def s51 (b:Book) (a n:Int):CallSpec:={ args:=[vBk b,iv a,iv n],res:=vBk (cntB b a.toNat n),pre:=smallB b/\0<=a/\a < b.lines.length }
def c51 (b:Book) (a n:Int) (id:Nat):CallSpec:=s7o b id
def s23 (b:Book):CallSpec:={ args:=[vBk b],res := .tup [iv (measN b),iv (measE b)],pre:=fitsB b }
def h23a (b:Book):Hint:={ X:=Nat,M:=fun i=>[(5,iv (measTo b i).1),(6,iv (measTo b i).2),(7,iv i)],I:=fun i=>i<=b.lines.length,mu:=fun i=>b.lines.length - i,x0:=(0:Nat),nx:=fun i=>i + 1 }
def h23b (b:Book) (i:Nat):Hint:={ X:=Nat,M:=fun k=>[(8,iv (worstTo b i k)),(9,iv ((lnB b i).lo + k))],I:=fun k=>k<=lnN b i,mu:=fun k=>lnN b i - k,x0:=(0:Nat),nx:=fun k=>k + 1 }
def c23c (b:Book) (i k:Nat):CallSpec:=s51 b i ((lnB b i).lo + k)
def c23 (b:Book) (i k:Nat):CallSpec:=s45 (cntB b (i:Int).toNat ((lnB b i).lo + k))
end Go.Ab
namespace Go.Ab
open Go Go.RowKit Go.Proofs Go.Sh Go.En
theorem sound_smallB {b:Book} (hs:SoundB b):smallB b:=by
 have h1:=hs.lines
 have h2:=hs.shown
 have h3:=hs.ctrs
 exact ⟨by omega,by omega,by omega⟩
theorem measN_ok8 {b:Book} (h:okBook b=true) (h2:0 < b.lines.length):measN b=(measTo b b.lines.length).1/\measE b=0:=by
 unfold measN measE; rw [h,decide_eq_true h2,if_pos rfl,if_pos h2]; exact ⟨rfl,rfl⟩
abbrev q5z (b:Book) (ls:List Int) (l:List Int) (P:Prop):Prop:=SoundB b/\GoodLn b ls/\l.length<=big->P
abbrev q60 (b:Book) (ls:List Int) (l:List Int) (P:Prop):Prop:=q5z b ls l ((!decide ((↑(l.length):Int)=(↑((stds b).length):Int)))=false->P)
abbrev q61 (b:Book) (l:List Int) (x2:Nat) (P:Prop):Prop:=(x2<=(stds b).length /\ ∀ (j:Nat),j < x2->slotB b (sdA b j) (l.getD j 0)=true)->P
abbrev q62 (b:Book) (l:List Int) (x2:Nat) (P:Prop):Prop:=q61 b l x2 (decide ((x2:Int) < (↑((stds b).length):Int))=true->P)
abbrev q63 (b:Book) (l:List Int) (x2:Nat) (P:Prop):Prop:=q62 b l x2 (decide (l.getD x2 0 = -1)=false->P)
abbrev q64 (b:Book) (l:List Int) (x2:Nat) (P:Prop):Prop:=q63 b l x2 ((!isCt b (l.getD x2 0))=false->P)
abbrev q65 (b:Book) (l:List Int) (x2:Nat) (P:Prop):Prop:=q64 b l x2 ((!within ((stds b).getD x2 default).day (ctB b (l.getD x2 0).toNat).frm ((ctB b (l.getD x2 0).toNat).frm + (ctB b (l.getD x2 0).toNat).days - 1))=false->P)
abbrev q66 (b:Book) (l:List Int) (x2:Nat) (P:Prop):Prop:=q61 b l x2 (decide ((x2:Int) < (↑((stds b).length):Int))=false->P)
abbrev q67 (b:Book) (ls:List Int) (l:List Int) (x9:Nat) (P:Prop):Prop:=(x9<=b.ctrs.length /\ ∀ (j:Nat),j < x9->decide (sumAt b ls l (j:Int) (stds b).length<=(ctB b j).room)=true)->P
abbrev q68 (b:Book) (ls:List Int) (l:List Int) (x9:Nat) (P:Prop):Prop:=q67 b ls l x9 (decide ((x9:Int) < (↑(b.ctrs.length):Int))=true->P)
abbrev q69 (b:Book) (x11:Nat) (P:Prop):Prop:=x11<=(stds b).length->P
abbrev q6a (b:Book) (x11:Nat) (P:Prop):Prop:=q69 b x11 (decide ((x11:Int) < (↑((stds b).length):Int))=true->P)
abbrev q6b (b:Book) (l:List Int) (x9:Nat) (x11:Nat) (P:Prop):Prop:=q6a b x11 (decide (l.getD x11 0=(x9:Int))=true->P)
abbrev q6c (b:Book) (l:List Int) (x9:Nat) (x11:Nat) (P:Prop):Prop:=q6a b x11 (decide (l.getD x11 0=(x9:Int))=false->P)
abbrev q6d (b:Book) (x11:Nat) (P:Prop):Prop:=q69 b x11 (decide ((x11:Int) < (↑((stds b).length):Int))=false->P)
abbrev q6e (b:Book) (ls:List Int) (l:List Int) (x9:Nat) (x11:Nat) (P:Prop):Prop:=q6d b x11 (decide ((ctB b x9).room < sumAt b ls l (x9:Int) x11)=false->P)
theorem w67 (b:Book) (ls:List Int) (l:List Int)
 (o0:q5z b ls l (smallB b))
 (o1:q5z b ls l ((!decide ((↑(l.length):Int)=(↑((stds b).length):Int)))=true->false=isBillB b ls l))
 (o2:q60 b ls l (0=(↑0:Int)))
 (o3:q60 b ls l (0<=(stds b).length /\ ∀ (j:Nat),j < 0->slotB b (sdA b j) (l.getD j 0)=true))
 (o4:q60 b ls l (∀ (x2:Nat),q62 b l x2 (0<=(x2:Int))))
 (o5:q60 b ls l (∀ (x2:Nat),q62 b l x2 ((x2:Int) < (↑(l.length):Int))))
 (o6:q60 b ls l (∀ (x2:Nat),q62 b l x2 (decide (l.getD x2 0 = -1)=true->inI ((x2:Int) + 1))))
 (o7:q60 b ls l (∀ (x2:Nat),q62 b l x2 (decide (l.getD x2 0 = -1)=true->(x2:Int) + 1=(↑(x2 + 1):Int))))
 (o8:q60 b ls l (∀ (x2:Nat),q62 b l x2 (decide (l.getD x2 0 = -1)=true->x2 + 1<=(stds b).length /\ ∀ (j:Nat),j < x2 + 1->slotB b (sdA b j) (l.getD j 0)=true)))
 (o9:q60 b ls l (∀ (x2:Nat),q62 b l x2 (decide (l.getD x2 0 = -1)=true->(stds b).length - (x2 + 1) < (stds b).length - x2)))
 (o10:q60 b ls l (∀ (x2:Nat),q63 b l x2 (0<=(x2:Int))))
 (o11:q60 b ls l (∀ (x2:Nat),q63 b l x2 ((x2:Int) < (↑(l.length):Int))))
 (o12:q60 b ls l (∀ (x2:Nat),q63 b l x2 (fitsB b)))
 (o13:q60 b ls l (∀ (x2:Nat),q63 b l x2 ((!isCt b (l.getD x2 0))=true->false=isBillB b ls l)))
 (o14:q60 b ls l (∀ (x2:Nat),q64 b l x2 (0<=(x2:Int))))
 (o15:q60 b ls l (∀ (x2:Nat),q64 b l x2 ((x2:Int) < (↑(l.length):Int))))
 (o16:q60 b ls l (∀ (x2:Nat),q64 b l x2 (0<=l.getD x2 0)))
 (o17:q60 b ls l (∀ (x2:Nat),q64 b l x2 (l.getD x2 0 < (↑(b.ctrs.length):Int))))
 (o18:q60 b ls l (∀ (x2:Nat),q64 b l x2 (0<=(x2:Int))))
 (o19:q60 b ls l (∀ (x2:Nat),q64 b l x2 ((x2:Int) < (↑((stds b).length):Int))))
 (o20:q60 b ls l (∀ (x2:Nat),q64 b l x2 (inI ((ctB b (l.getD x2 0).toNat).frm + (ctB b (l.getD x2 0).toNat).days))))
 (o21:q60 b ls l (∀ (x2:Nat),q64 b l x2 (inI ((ctB b (l.getD x2 0).toNat).frm + (ctB b (l.getD x2 0).toNat).days - 1))))
 (o22:q60 b ls l (∀ (x2:Nat),q64 b l x2 ((!within ((stds b).getD x2 default).day (ctB b (l.getD x2 0).toNat).frm ((ctB b (l.getD x2 0).toNat).frm + (ctB b (l.getD x2 0).toNat).days - 1))=true->false=isBillB b ls l)))
 (o23:q60 b ls l (∀ (x2:Nat),q65 b l x2 (inI ((x2:Int) + 1))))
 (o24:q60 b ls l (∀ (x2:Nat),q65 b l x2 ((x2:Int) + 1=(↑(x2 + 1):Int))))
 (o25:q60 b ls l (∀ (x2:Nat),q65 b l x2 (x2 + 1<=(stds b).length /\ ∀ (j:Nat),j < x2 + 1->slotB b (sdA b j) (l.getD j 0)=true)))
 (o26:q60 b ls l (∀ (x2:Nat),q65 b l x2 ((stds b).length - (x2 + 1) < (stds b).length - x2)))
 (o27:q60 b ls l (∀ (x2:Nat),q66 b l x2 (0=(↑0:Int))))
 (o28:q60 b ls l (∀ (x2:Nat),q66 b l x2 (0<=b.ctrs.length /\ ∀ (j:Nat),j < 0->decide (sumAt b ls l (j:Int) (stds b).length<=(ctB b j).room)=true)))
 (o29:q60 b ls l (∀ (x2:Nat),q66 b l x2 (∀ (x9:Nat),q68 b ls l x9 (0=sumAt b ls l (x9:Int) 0))))
 (o30:q60 b ls l (∀ (x2:Nat),q66 b l x2 (∀ (x9:Nat),q68 b ls l x9 (0=(↑0:Int)))))
 (o31:q60 b ls l (∀ (x2:Nat),q66 b l x2 (∀ (x9:Nat),q68 b ls l x9 (0<=(stds b).length))))
 (o32:q60 b ls l (∀ (x2:Nat),q66 b l x2 (∀ (x9:Nat),q68 b ls l x9 (∀ (x11:Nat),q6a b x11 (0<=(x11:Int))))))
 (o33:q60 b ls l (∀ (x2:Nat),q66 b l x2 (∀ (x9:Nat),q68 b ls l x9 (∀ (x11:Nat),q6a b x11 ((x11:Int) < (↑(l.length):Int))))))
 (o34:q60 b ls l (∀ (x2:Nat),q66 b l x2 (∀ (x9:Nat),q68 b ls l x9 (∀ (x11:Nat),q6b b l x9 x11 (0<=(x11:Int))))))
 (o35:q60 b ls l (∀ (x2:Nat),q66 b l x2 (∀ (x9:Nat),q68 b ls l x9 (∀ (x11:Nat),q6b b l x9 x11 ((x11:Int) < (↑((stds b).length):Int))))))
 (o36:q60 b ls l (∀ (x2:Nat),q66 b l x2 (∀ (x9:Nat),q68 b ls l x9 (∀ (x11:Nat),q6b b l x9 x11 (0<=((stds b).getD x11 default).ad)))))
 (o37:q60 b ls l (∀ (x2:Nat),q66 b l x2 (∀ (x9:Nat),q68 b ls l x9 (∀ (x11:Nat),q6b b l x9 x11 (((stds b).getD x11 default).ad < (↑(ls.length):Int))))))
 (o38:q60 b ls l (∀ (x2:Nat),q66 b l x2 (∀ (x9:Nat),q68 b ls l x9 (∀ (x11:Nat),q6b b l x9 x11 (inI (sumAt b ls l (x9:Int) x11 + ls.getD ((stds b).getD x11 default).ad.toNat 0))))))
 (o39:q60 b ls l (∀ (x2:Nat),q66 b l x2 (∀ (x9:Nat),q68 b ls l x9 (∀ (x11:Nat),q6b b l x9 x11 (inI ((x11:Int) + 1))))))
 (o40:q60 b ls l (∀ (x2:Nat),q66 b l x2 (∀ (x9:Nat),q68 b ls l x9 (∀ (x11:Nat),q6b b l x9 x11 (sumAt b ls l (x9:Int) x11 + ls.getD ((stds b).getD x11 default).ad.toNat 0=sumAt b ls l (x9:Int) (x11 + 1))))))
 (o41:q60 b ls l (∀ (x2:Nat),q66 b l x2 (∀ (x9:Nat),q68 b ls l x9 (∀ (x11:Nat),q6b b l x9 x11 ((x11:Int) + 1=(↑(x11 + 1):Int))))))
 (o42:q60 b ls l (∀ (x2:Nat),q66 b l x2 (∀ (x9:Nat),q68 b ls l x9 (∀ (x11:Nat),q6b b l x9 x11 (x11 + 1<=(stds b).length)))))
 (o43:q60 b ls l (∀ (x2:Nat),q66 b l x2 (∀ (x9:Nat),q68 b ls l x9 (∀ (x11:Nat),q6b b l x9 x11 ((stds b).length - (x11 + 1) < (stds b).length - x11)))))
 (o44:q60 b ls l (∀ (x2:Nat),q66 b l x2 (∀ (x9:Nat),q68 b ls l x9 (∀ (x11:Nat),q6c b l x9 x11 (inI ((x11:Int) + 1))))))
 (o45:q60 b ls l (∀ (x2:Nat),q66 b l x2 (∀ (x9:Nat),q68 b ls l x9 (∀ (x11:Nat),q6c b l x9 x11 (sumAt b ls l (x9:Int) x11=sumAt b ls l (x9:Int) (x11 + 1))))))
 (o46:q60 b ls l (∀ (x2:Nat),q66 b l x2 (∀ (x9:Nat),q68 b ls l x9 (∀ (x11:Nat),q6c b l x9 x11 ((x11:Int) + 1=(↑(x11 + 1):Int))))))
 (o47:q60 b ls l (∀ (x2:Nat),q66 b l x2 (∀ (x9:Nat),q68 b ls l x9 (∀ (x11:Nat),q6c b l x9 x11 (x11 + 1<=(stds b).length)))))
 (o48:q60 b ls l (∀ (x2:Nat),q66 b l x2 (∀ (x9:Nat),q68 b ls l x9 (∀ (x11:Nat),q6c b l x9 x11 ((stds b).length - (x11 + 1) < (stds b).length - x11)))))
 (o49:q60 b ls l (∀ (x2:Nat),q66 b l x2 (∀ (x9:Nat),q68 b ls l x9 (∀ (x11:Nat),q6d b x11 (0<=(x9:Int))))))
 (o50:q60 b ls l (∀ (x2:Nat),q66 b l x2 (∀ (x9:Nat),q68 b ls l x9 (∀ (x11:Nat),q6d b x11 ((x9:Int) < (↑(b.ctrs.length):Int))))))
 (o51:q60 b ls l (∀ (x2:Nat),q66 b l x2 (∀ (x9:Nat),q68 b ls l x9 (∀ (x11:Nat),q6d b x11 (decide ((ctB b x9).room < sumAt b ls l (x9:Int) x11)=true->false=isBillB b ls l)))))
 (o52:q60 b ls l (∀ (x2:Nat),q66 b l x2 (∀ (x9:Nat),q68 b ls l x9 (∀ (x11:Nat),q6e b ls l x9 x11 (inI ((x9:Int) + 1))))))
 (o53:q60 b ls l (∀ (x2:Nat),q66 b l x2 (∀ (x9:Nat),q68 b ls l x9 (∀ (x11:Nat),q6e b ls l x9 x11 ((x9:Int) + 1=(↑(x9 + 1):Int))))))
 (o54:q60 b ls l (∀ (x2:Nat),q66 b l x2 (∀ (x9:Nat),q68 b ls l x9 (∀ (x11:Nat),q6e b ls l x9 x11 (x9 + 1<=b.ctrs.length /\ ∀ (j:Nat),j < x9 + 1->decide (sumAt b ls l (j:Int) (stds b).length<=(ctB b j).room)=true)))))
 (o55:q60 b ls l (∀ (x2:Nat),q66 b l x2 (∀ (x9:Nat),q68 b ls l x9 (∀ (x11:Nat),q6e b ls l x9 x11 (b.ctrs.length - (x9 + 1) < b.ctrs.length - x9)))))
 (o56:q60 b ls l (∀ (x2:Nat),q66 b l x2 (∀ (x9:Nat),q67 b ls l x9 (decide ((x9:Int) < (↑(b.ctrs.length):Int))=false->true=isBillB b ls l)))) :
  Triple Tryz.prog 67 (s67 b ls l):=by
 refine triple_of Tryz.func67 rfl Tryz.call67 T0_ok _ rfl rfl rfl rfl (Nat.le_of_ble_eq_true (by kernel_rfl)) (fun _ _ _ _ h=>h) ?_
 intro hpre C hC _ hE
 obtain ⟨P,w0,E0,av,hA,ro,df⟩:=C
 obtain ⟨rfl,rfl,rfl⟩:=hC
 refine swp_seq ?_
 refine zR [1,2,3] [0] (Ak 2 tv) ?_
 refine swp_seq ?_
 refine zC ([(1,CallSpec.eq (s26 b) [true])]) [1,2,3,7] [0] (Ak 1 (An (An (An (zr (AV.agg (cBk b))) tv) (An (t26 (b)) (An (o0 hpre) (Ak 1 (fun (i0:Env)=>tv))))) (Ak 1 tv))) ?_
 refine swp_seq ?_
 refine swp_seq ?_
 refine zR [1,2,3,7,19] [0] (Ak 5 tv) ?_
 refine zI (!decide ((↑(l.length):Int)=(↑((stds b).length):Int))) (fun y1 => ?_) (fun y1 => ?_)
 ·refine swp_seq ?_
  refine zR [6] [] (Ak 1 tv) ?_
  refine swp_ret ?_
  exact zT [] (An (Ak 1 tv) (An (An (cb (o1 hpre y1)) (zr nilN)) (An (zr true) (An (zr true) (zr true)))))
 ·refine swp_skip ?_
  refine swp_seq ?_
  refine swp_seq ?_
  refine zR [1,2,3,7,8] [0] (Ak 1 tv) ?_
  refine swp_block ?_
  refine zL (Hint.ann (h67a b ls l) [(1,aInts ls),(2,aInts l),(3,AV.ptr 0 []),(7,aDays (stds b))] [(0,OB.cells 26 (cBk b))] 10088) (zE hE [] [(0,.same 0)] [1,2,7] [0] (An (An (An (zr (aInts ls)) (zr true)) (An (An (zr (aInts l)) (zr true)) (An (An (zr (some (Src.same 0))) (zr nilP)) (An (An (zr (aDays (stds b))) (zr true)) (An (An (ci (o2 hpre y1)) (zr nilN)) tv))))) (An (An (An (zr (OB.cells 26 (cBk b))) (zr true)) tv) (An (zr true) (zr true))))) (o3 hpre y1) (fun (x2:Nat) hx2 => ?_)
  refine swp_seq ?_
  refine swp_seq ?_
  refine zR [1,2,3,7,8,23] [0] (Ak 4 tv) ?_
  refine zI (decide ((x2:Int) < (↑((stds b).length):Int))) (fun y3 => ?_) (fun y3 => ?_)
  ·refine swp_skip ?_
   refine swp_seq ?_
   refine swp_block ?_
   refine swp_seq ?_
   refine swp_seq ?_
   refine zR [1,2,3,7,8,30] [0] (Ak 2 (An (An (o4 hpre y1 x2 hx2 y3) (o5 hpre y1 x2 hx2 y3)) (Ak 2 tv))) ?_
   refine zI (decide (l.getD x2 0 = -1)) (fun y4 => ?_) (fun y4 => ?_)
   ·refine swp_exit ?_
    refine zR [1,2,3,7,8] [0] (Ak 1 (An (o6 hpre y1 x2 hx2 y3 y4) (Ak 1 tv))) ?_
    exact zn (zE hE [] [(0,.same 0)] [1,2,7] [0] (An (An (An (zr (aInts ls)) (zr true)) (An (An (zr (aInts l)) (zr true)) (An (An (zr (some (Src.same 0))) (zr nilP)) (An (An (zr (aDays (stds b))) (zr true)) (An (An (ci (o7 hpre y1 x2 hx2 y3 y4)) (zr nilN)) tv))))) (An (An (An (zr (OB.cells 26 (cBk b))) (zr true)) tv) (An (zr true) (zr true))))) (o8 hpre y1 x2 hx2 y3 y4) (o9 hpre y1 x2 hx2 y3 y4)
   ·refine swp_skip ?_
    refine swp_seq ?_
    refine swp_seq ?_
    refine zC ([(5,CallSpec.eq (s41 b (l.getD x2 0)) [true,true])]) [1,2,3,7,8,37] [0] (Ak 3 (An (An (o10 hpre y1 x2 hx2 y3 y4) (o11 hpre y1 x2 hx2 y3 y4)) (Ak 1 (An (An (An (zr (AV.agg (cBk b))) (An (zr (iv (l.getD x2 0))) tv)) (An (t41 (b) (l.getD x2 0)) (An (o12 hpre y1 x2 hx2 y3 y4) (Ak 1 (fun (i5:Env)=>tv))))) (Ak 1 tv))))) ?_
    refine zI (!isCt b (l.getD x2 0)) (fun y6 => ?_) (fun y6 => ?_)
    ·refine swp_seq ?_
     refine zR [6] [] (Ak 1 tv) ?_
     refine swp_ret ?_
     exact zT [] (An (Ak 1 tv) (An (An (cb (o13 hpre y1 x2 hx2 y3 y4 y6)) (zr nilN)) (An (zr true) (An (zr true) (zr true)))))
    ·refine swp_skip ?_
     refine swp_seq ?_
     refine zR [1,2,3,7,8,9] [0,10280] (Ak 4 (An (An (o14 hpre y1 x2 hx2 y3 y4 y6) (o15 hpre y1 x2 hx2 y3 y4 y6)) (Ak 1 (An (An (o16 hpre y1 x2 hx2 y3 y4 y6) (o17 hpre y1 x2 hx2 y3 y4 y6)) (Ak 3 tv))))) ?_
     refine swp_seq ?_
     refine zC ([(13,CallSpec.eq (s52 ((stds b).getD x2 default).day (ctB b (l.getD x2 0).toNat).frm ((ctB b (l.getD x2 0).toNat).frm + (ctB b (l.getD x2 0).toNat).days - 1)) [true,true,true])]) [1,2,3,7,8,60] [0] (Ak 2 (An (An (o18 hpre y1 x2 hx2 y3 y4 y6) (o19 hpre y1 x2 hx2 y3 y4 y6)) (Ak 8 (An (o20 hpre y1 x2 hx2 y3 y4 y6) (An (o21 hpre y1 x2 hx2 y3 y4 y6) (An (An (An (zr (iv ((stds b).getD x2 default).day)) (An (zr (iv (ctB b (l.getD x2 0).toNat).frm)) (An (zr (iv ((ctB b (l.getD x2 0).toNat).frm + (ctB b (l.getD x2 0).toNat).days - 1))) tv))) (An (t52 ((stds b).getD x2 default).day (ctB b (l.getD x2 0).toNat).frm ((ctB b (l.getD x2 0).toNat).frm + (ctB b (l.getD x2 0).toNat).days - 1)) (Ak 2 (fun (i7:Env)=>tv)))) (Ak 1 tv))))))) ?_
     refine zI (!within ((stds b).getD x2 default).day (ctB b (l.getD x2 0).toNat).frm ((ctB b (l.getD x2 0).toNat).frm + (ctB b (l.getD x2 0).toNat).days - 1)) (fun y8 => ?_) (fun y8 => ?_)
     ·refine swp_seq ?_
      refine zR [6] [] (Ak 1 tv) ?_
      refine swp_ret ?_
      exact zT [] (An (Ak 1 tv) (An (An (cb (o22 hpre y1 x2 hx2 y3 y4 y6 y8)) (zr nilN)) (An (zr true) (An (zr true) (zr true)))))
     ·refine swp_skip ?_
      refine zR [1,2,3,7,8] [0] (Ak 1 (An (o23 hpre y1 x2 hx2 y3 y4 y6 y8) (Ak 1 tv))) ?_
      exact zn (zE hE [] [(0,.same 0)] [1,2,7] [0] (An (An (An (zr (aInts ls)) (zr true)) (An (An (zr (aInts l)) (zr true)) (An (An (zr (some (Src.same 0))) (zr nilP)) (An (An (zr (aDays (stds b))) (zr true)) (An (An (ci (o24 hpre y1 x2 hx2 y3 y4 y6 y8)) (zr nilN)) tv))))) (An (An (An (zr (OB.cells 26 (cBk b))) (zr true)) tv) (An (zr true) (zr true))))) (o25 hpre y1 x2 hx2 y3 y4 y6 y8) (o26 hpre y1 x2 hx2 y3 y4 y6 y8)
  ·refine swp_exit ?_
   refine swp_seq ?_
   refine swp_seq ?_
   refine zR [1,2,3,7,10] [0] (Ak 1 tv) ?_
   refine swp_block ?_
   refine zL (Hint.ann (h67b b ls l) [(1,aInts ls),(2,aInts l),(3,AV.ptr 0 []),(7,aDays (stds b))] [(0,OB.cells 26 (cBk b))] 20128) (zE hE [] [(0,.same 0)] [1,2,7] [0] (An (An (An (zr (aInts ls)) (zr true)) (An (An (zr (aInts l)) (zr true)) (An (An (zr (some (Src.same 0))) (zr nilP)) (An (An (zr (aDays (stds b))) (zr true)) (An (An (ci (o27 hpre y1 x2 hx2 y3)) (zr nilN)) tv))))) (An (An (An (zr (OB.cells 26 (cBk b))) (zr true)) tv) (An (zr true) (zr true))))) (o28 hpre y1 x2 hx2 y3) (fun (x9:Nat) hx9 => ?_)
   refine swp_seq ?_
   refine swp_seq ?_
   refine zR [1,2,3,7,10,65] [0] (Ak 5 tv) ?_
   refine zI (decide ((x9:Int) < (↑(b.ctrs.length):Int))) (fun y10 => ?_) (fun y10 => ?_)
   ·refine swp_skip ?_
    refine swp_seq ?_
    refine swp_block ?_
    refine swp_seq ?_
    refine zR [1,2,3,7,10,11] [0] (Ak 1 tv) ?_
    refine swp_seq ?_
    refine swp_seq ?_
    refine zR [1,2,3,7,10,11,12] [0] (Ak 1 tv) ?_
    refine swp_block ?_
    refine zL (Hint.ann (h67c b ls l x9) [(1,aInts ls),(2,aInts l),(3,AV.ptr 0 []),(7,aDays (stds b)),(10,iv (x9:Int))] [(0,OB.cells 26 (cBk b))] 30184) (zE hE [] [(0,.same 0)] [1,2,7,10] [0] (An (An (An (zr (aInts ls)) (zr true)) (An (An (zr (aInts l)) (zr true)) (An (An (zr (some (Src.same 0))) (zr nilP)) (An (An (zr (aDays (stds b))) (zr true)) (An (An (zr (iv (x9:Int))) (zr true)) (An (An (ci (o29 hpre y1 x2 hx2 y3 x9 hx9 y10)) (zr nilN)) (An (An (ci (o30 hpre y1 x2 hx2 y3 x9 hx9 y10)) (zr nilN)) tv))))))) (An (An (An (zr (OB.cells 26 (cBk b))) (zr true)) tv) (An (zr true) (zr true))))) (o31 hpre y1 x2 hx2 y3 x9 hx9 y10) (fun (x11:Nat) hx11 => ?_)
    refine swp_seq ?_
    refine swp_seq ?_
    refine zR [1,2,3,7,10,11,12,71] [0] (Ak 4 tv) ?_
    refine zI (decide ((x11:Int) < (↑((stds b).length):Int))) (fun y12 => ?_) (fun y12 => ?_)
    ·refine swp_skip ?_
     refine swp_seq ?_
     refine swp_block ?_
     refine swp_seq ?_
     refine zR [1,2,3,7,10,11,12,79] [0] (Ak 2 (An (An (o32 hpre y1 x2 hx2 y3 x9 hx9 y10 x11 hx11 y12) (o33 hpre y1 x2 hx2 y3 x9 hx9 y10 x11 hx11 y12)) (Ak 3 tv))) ?_
     refine zI (decide (l.getD x11 0=(x9:Int))) (fun y13 => ?_) (fun y13 => ?_)
     ·refine zR [1,2,3,7,10,11,12] [0] (Ak 4 (An (An (o34 hpre y1 x2 hx2 y3 x9 hx9 y10 x11 hx11 y12 y13) (o35 hpre y1 x2 hx2 y3 x9 hx9 y10 x11 hx11 y12 y13)) (Ak 2 (An (An (o36 hpre y1 x2 hx2 y3 x9 hx9 y10 x11 hx11 y12 y13) (o37 hpre y1 x2 hx2 y3 x9 hx9 y10 x11 hx11 y12 y13)) (Ak 1 (An (o38 hpre y1 x2 hx2 y3 x9 hx9 y10 x11 hx11 y12 y13) (Ak 1 tv))))))) ?_
      refine zR [1,2,3,7,10,11,12] [0] (Ak 1 (An (o39 hpre y1 x2 hx2 y3 x9 hx9 y10 x11 hx11 y12 y13) (Ak 1 tv))) ?_
      exact zn (zE hE [] [(0,.same 0)] [1,2,7,10] [0] (An (An (An (zr (aInts ls)) (zr true)) (An (An (zr (aInts l)) (zr true)) (An (An (zr (some (Src.same 0))) (zr nilP)) (An (An (zr (aDays (stds b))) (zr true)) (An (An (zr (iv (x9:Int))) (zr true)) (An (An (ci (o40 hpre y1 x2 hx2 y3 x9 hx9 y10 x11 hx11 y12 y13)) (zr nilN)) (An (An (ci (o41 hpre y1 x2 hx2 y3 x9 hx9 y10 x11 hx11 y12 y13)) (zr nilN)) tv))))))) (An (An (An (zr (OB.cells 26 (cBk b))) (zr true)) tv) (An (zr true) (zr true))))) (o42 hpre y1 x2 hx2 y3 x9 hx9 y10 x11 hx11 y12 y13) (o43 hpre y1 x2 hx2 y3 x9 hx9 y10 x11 hx11 y12 y13)
     ·refine swp_skip ?_
      refine zR [1,2,3,7,10,11,12] [0] (Ak 1 (An (o44 hpre y1 x2 hx2 y3 x9 hx9 y10 x11 hx11 y12 y13) (Ak 1 tv))) ?_
      exact zn (zE hE [] [(0,.same 0)] [1,2,7,10] [0] (An (An (An (zr (aInts ls)) (zr true)) (An (An (zr (aInts l)) (zr true)) (An (An (zr (some (Src.same 0))) (zr nilP)) (An (An (zr (aDays (stds b))) (zr true)) (An (An (zr (iv (x9:Int))) (zr true)) (An (An (ci (o45 hpre y1 x2 hx2 y3 x9 hx9 y10 x11 hx11 y12 y13)) (zr nilN)) (An (An (ci (o46 hpre y1 x2 hx2 y3 x9 hx9 y10 x11 hx11 y12 y13)) (zr nilN)) tv))))))) (An (An (An (zr (OB.cells 26 (cBk b))) (zr true)) tv) (An (zr true) (zr true))))) (o47 hpre y1 x2 hx2 y3 x9 hx9 y10 x11 hx11 y12 y13) (o48 hpre y1 x2 hx2 y3 x9 hx9 y10 x11 hx11 y12 y13)
    ·refine swp_exit ?_
     refine swp_seq ?_
     refine zR [1,2,3,7,10,97] [0] (Ak 4 (An (An (o49 hpre y1 x2 hx2 y3 x9 hx9 y10 x11 hx11 y12) (o50 hpre y1 x2 hx2 y3 x9 hx9 y10 x11 hx11 y12)) (Ak 3 tv))) ?_
     refine zI (decide ((ctB b x9).room < sumAt b ls l (x9:Int) x11)) (fun y14 => ?_) (fun y14 => ?_)
     ·refine swp_seq ?_
      refine zR [6] [] (Ak 1 tv) ?_
      refine swp_ret ?_
      exact zT [] (An (Ak 1 tv) (An (An (cb (o51 hpre y1 x2 hx2 y3 x9 hx9 y10 x11 hx11 y12 y14)) (zr nilN)) (An (zr true) (An (zr true) (zr true)))))
     ·refine swp_skip ?_
      refine zR [1,2,3,7,10] [0] (Ak 1 (An (o52 hpre y1 x2 hx2 y3 x9 hx9 y10 x11 hx11 y12 y14) (Ak 1 tv))) ?_
      exact zn (zE hE [] [(0,.same 0)] [1,2,7] [0] (An (An (An (zr (aInts ls)) (zr true)) (An (An (zr (aInts l)) (zr true)) (An (An (zr (some (Src.same 0))) (zr nilP)) (An (An (zr (aDays (stds b))) (zr true)) (An (An (ci (o53 hpre y1 x2 hx2 y3 x9 hx9 y10 x11 hx11 y12 y14)) (zr nilN)) tv))))) (An (An (An (zr (OB.cells 26 (cBk b))) (zr true)) tv) (An (zr true) (zr true))))) (o54 hpre y1 x2 hx2 y3 x9 hx9 y10 x11 hx11 y12 y14) (o55 hpre y1 x2 hx2 y3 x9 hx9 y10 x11 hx11 y12 y14)
   ·refine swp_exit ?_
    refine swp_seq ?_
    refine zR [6] [] (Ak 1 tv) ?_
    refine swp_ret ?_
    exact zT [] (An (Ak 1 tv) (An (An (cb (o56 hpre y1 x2 hx2 y3 x9 hx9 y10)) (zr nilN)) (An (zr true) (An (zr true) (zr true)))))
theorem slot_single (b:Book) (s:Sday) {y:Int} (h:y = -1):slotB b s y=true:=by unfold slotB; rw [decide_eq_true h]; rfl
theorem slot_iff {b:Book} {s:Sday} {y:Int} (h:y ≠ -1):slotB b s y=(isCt b y && inWin (ctB b y.toNat) s.day):=by unfold slotB; rw [decide_eq_false h]; rfl
theorem bill_slot {b:Book} {ls l:List Int} {x:Nat} (hx:x < (stds b).length) (h:slotB b (sdA b x) (l.getD x 0)=false):isBillB b ls l=false :=
 bill_no fun e=>by have:=e.2.1 x (by omega); rw [h] at this; cases this
theorem bill_room {b:Book} {ls l:List Int} {c:Nat} (hc:c < b.ctrs.length) (h:(ctB b c).room < sumAt b ls l c (stds b).length):isBillB b ls l=false :=
 bill_no fun e=>by have:=e.2.2 c hc; rw [e.1] at this; omega
theorem sum_in {b:Book} {ls:List Int} (hg:GoodLn b ls) (l:List Int) (c:Int):∀ n,0<=sumAt b ls l c n/\sumAt b ls l c n<=9 * n:=by
 intro n
 induction n with
 | zero=>show (0:Int)<=0/\(0:Int)<=9 * ((0:Nat):Int); omega
 | succ n ih =>
  have h1:=hg.2 (sdA b n).ad.toNat
  have e:sumAt b ls l c (n + 1)=if l.getD n 0=c then sumAt b ls l c n + ls.getD (sdA b n).ad.toNat 0 else sumAt b ls l c n:=rfl
  rw [e]
  by_cases hc:l.getD n 0=c
  ·rw [if_pos hc]; omega
  ·rw [if_neg hc]; omega
theorem t67 (b:Book) (ls l:List Int):Triple Tryz.prog 67 (s67 b ls l):=by
  apply w67
  all_goals (try delta q5z q60 q61 q62 q63 q64 q65 q66 q67 q68 q69 q6a q6b q6c q6d q6e)
  case o0=>exact fun hp=>sound_smallB hp.1
  all_goals (rintro ⟨hs,hg,hbig⟩ h; simp only [Bool.not_eq_true',Bool.not_eq_false',decide_eq_true_eq,decide_eq_false_iff_not] at h)
  case o1=>exact (bill_no fun e=>h (by omega)).symm
  case o2=>rfl
  case o3=>exact ⟨Nat.zero_le _,fun j hj=>absurd hj (Nat.not_lt_zero _)⟩
  all_goals (have hst:=stds_small hs; have hct:=hs.ctrs; rintro x ⟨hx,hsl⟩ hl; simp only [decide_eq_true_eq,decide_eq_false_iff_not] at hl)
  case o27=>rfl
  case o28=>exact ⟨Nat.zero_le _,fun j hj=>absurd hj (Nat.not_lt_zero _)⟩
  all_goals (try omega)
  all_goals (try (
    intro h1
    first
    | omega
    | (simp only [inI]; omega)
    | exact ⟨by omega,lt_succ_cases hsl (slot_single b _ (of_decide_eq_true h1))⟩
    | exact small_fitsB (sound_smallB hs)))
  case o29=>intro c hc _; rfl
  case o56 =>
    intro c hc hcl
    simp only [decide_eq_false_iff_not] at hcl
    refine (bill_ok.2 ⟨by omega,fun i hi=>hsl i (by omega),fun k hk => ?_⟩).symm
    rw [show l.length=(stds b).length by omega]
    exact of_decide_eq_true (hc.2 k (by omega))
  case o13=>intro h1 h2; simp only [Bool.not_eq_true',decide_eq_false_iff_not] at h1 h2; exact (bill_slot (x:=x) (by omega) (by rw [slot_iff h1,h2]; rfl)).symm
  case o16 | o17 | o20 | o21 | o22 | o25=>all_goals (
    intro h1 h2
    simp only [Bool.not_eq_true',Bool.not_eq_false',decide_eq_true_eq,decide_eq_false_iff_not] at h1 h2
    have hsi:=slot_iff (b:=b) (s:=sdA b x) h1
    first
    | (have hi:=isCt_iff.1 h2
       have hcc:=hs.ctr (l.getD x 0).toNat (by omega)
       first
       | omega
       | (simp only [inI]; omega)
       | (intro h3
          first
          | omega
          | (simp only [inI]; omega)
          | (simp only [Bool.not_eq_true'] at h3; exact (bill_slot (x:=x) (by omega) (by rw [hsi,h2,Bool.true_and]; exact h3)).symm)
          | (simp only [Bool.not_eq_false'] at h3; exact ⟨by omega,lt_succ_cases hsl (by rw [hsi,h2,Bool.true_and]; exact h3)⟩))))
  all_goals (rintro c ⟨hc,hrm⟩ hcl n hn hnl; try simp only [decide_eq_true_eq,decide_eq_false_iff_not] at hcl hnl)
  all_goals (try omega)
  all_goals (have hsn:=sum_in hg l (c:Int) n)
  all_goals (try (have had:=std_ad hg (getD_mem (stds b) default (show n < (stds b).length by omega)); have hln:=hg.2 ((stds b).getD n default).ad.toNat))
  all_goals (intro h2; try simp only [Bool.not_eq_true',Bool.not_eq_false',decide_eq_true_eq,decide_eq_false_iff_not] at h2)
  all_goals (try (first | omega | (simp only [inI]; omega)))
  case o40=>show _=if _ then _ else _; rw [if_pos h2]; rfl
  case o45=>show _=if _ then _ else _; rw [if_neg h2]
  case o51 => have e : n = (stds b).length := by omega
              rw [e] at h2; exact (bill_room (by omega) h2).symm
  case o54 => have e : n = (stds b).length := by omega
              rw [e] at h2
              exact ⟨by omega,lt_succ_cases hrm (decide_eq_true (by omega))⟩
abbrev q6f (b:Book) (ls:List Int) (l:List Int) (P:Prop):Prop:=SoundB b/\GoodLn b ls/\l.length=(stds b).length->P
abbrev q6g (b:Book) (x1:Nat) (P:Prop):Prop:=x1<=(stds b).length->P
abbrev q6h (b:Book) (x1:Nat) (P:Prop):Prop:=q6g b x1 (decide ((x1:Int) < (↑((stds b).length):Int))=true->P)
abbrev q6i (b:Book) (l:List Int) (x1:Nat) (P:Prop):Prop:=q6h b x1 ((!decide (l.getD x1 0 = -1))=true->P)
abbrev q6j (b:Book) (l:List Int) (x1:Nat) (P:Prop):Prop:=q6h b x1 ((!decide (l.getD x1 0 = -1))=false->P)
abbrev q6k (b:Book) (l:List Int) (x1:Nat) (P:Prop):Prop:=q6j b l x1 (stoodB b ((stds b).getD x1 default).ad (((stds b).getD x1 default).day - 1)=true->P)
abbrev q6l (b:Book) (l:List Int) (x1:Nat) (P:Prop):Prop:=q6j b l x1 (stoodB b ((stds b).getD x1 default).ad (((stds b).getD x1 default).day - 1)=false->P)
abbrev q6m (b:Book) (x1:Nat) (P:Prop):Prop:=q6g b x1 (decide ((x1:Int) < (↑((stds b).length):Int))=false->P)
abbrev q6n (b:Book) (x6:Nat) (P:Prop):Prop:=x6<=b.ctrs.length->P
abbrev q6o (b:Book) (x6:Nat) (P:Prop):Prop:=q6n b x6 (decide ((x6:Int) < (↑(b.ctrs.length):Int))=true->P)
abbrev q6p (b:Book) (l:List Int) (x6:Nat) (P:Prop):Prop:=q6o b x6 (isIn l (x6:Int)=true->P)
theorem w65 (b:Book) (ls:List Int) (l:List Int)
 (o0:q6f b ls l (smallB b))
 (o1:q6f b ls l (0=sglAt b ls l 0))
 (o2:q6f b ls l (0=(↑0:Int)))
 (o3:q6f b ls l (0<=(stds b).length))
 (o4:q6f b ls l (∀ (x1:Nat),q6h b x1 (0<=(x1:Int))))
 (o5:q6f b ls l (∀ (x1:Nat),q6h b x1 ((x1:Int) < (↑(l.length):Int))))
 (o6:q6f b ls l (∀ (x1:Nat),q6i b l x1 (inI ((x1:Int) + 1))))
 (o7:q6f b ls l (∀ (x1:Nat),q6i b l x1 (sglAt b ls l x1=sglAt b ls l (x1 + 1))))
 (o8:q6f b ls l (∀ (x1:Nat),q6i b l x1 ((x1:Int) + 1=(↑(x1 + 1):Int))))
 (o9:q6f b ls l (∀ (x1:Nat),q6i b l x1 (x1 + 1<=(stds b).length)))
 (o10:q6f b ls l (∀ (x1:Nat),q6i b l x1 ((stds b).length - (x1 + 1) < (stds b).length - x1)))
 (o11:q6f b ls l (∀ (x1:Nat),q6j b l x1 (0<=(x1:Int))))
 (o12:q6f b ls l (∀ (x1:Nat),q6j b l x1 ((x1:Int) < (↑((stds b).length):Int))))
 (o13:q6f b ls l (∀ (x1:Nat),q6j b l x1 (0<=(x1:Int))))
 (o14:q6f b ls l (∀ (x1:Nat),q6j b l x1 ((x1:Int) < (↑((stds b).length):Int))))
 (o15:q6f b ls l (∀ (x1:Nat),q6j b l x1 (inI (((stds b).getD x1 default).day - 1))))
 (o16:q6f b ls l (∀ (x1:Nat),q6j b l x1 (fitsB b)))
 (o17:q6f b ls l (∀ (x1:Nat),q6k b l x1 (0<=(x1:Int))))
 (o18:q6f b ls l (∀ (x1:Nat),q6k b l x1 ((x1:Int) < (↑((stds b).length):Int))))
 (o19:q6f b ls l (∀ (x1:Nat),q6k b l x1 (0<=((stds b).getD x1 default).ad)))
 (o20:q6f b ls l (∀ (x1:Nat),q6k b l x1 (((stds b).getD x1 default).ad < (↑(ls.length):Int))))
 (o21:q6f b ls l (∀ (x1:Nat),q6k b l x1 (inI (b.rep * ls.getD ((stds b).getD x1 default).ad.toNat 0))))
 (o22:q6f b ls l (∀ (x1:Nat),q6k b l x1 (inI (sglAt b ls l x1 + b.rep * ls.getD ((stds b).getD x1 default).ad.toNat 0))))
 (o23:q6f b ls l (∀ (x1:Nat),q6k b l x1 (inI ((x1:Int) + 1))))
 (o24:q6f b ls l (∀ (x1:Nat),q6k b l x1 (sglAt b ls l x1 + b.rep * ls.getD ((stds b).getD x1 default).ad.toNat 0=sglAt b ls l (x1 + 1))))
 (o25:q6f b ls l (∀ (x1:Nat),q6k b l x1 ((x1:Int) + 1=(↑(x1 + 1):Int))))
 (o26:q6f b ls l (∀ (x1:Nat),q6k b l x1 (x1 + 1<=(stds b).length)))
 (o27:q6f b ls l (∀ (x1:Nat),q6k b l x1 ((stds b).length - (x1 + 1) < (stds b).length - x1)))
 (o28:q6f b ls l (∀ (x1:Nat),q6l b l x1 (0<=(x1:Int))))
 (o29:q6f b ls l (∀ (x1:Nat),q6l b l x1 ((x1:Int) < (↑((stds b).length):Int))))
 (o30:q6f b ls l (∀ (x1:Nat),q6l b l x1 (0<=((stds b).getD x1 default).ad)))
 (o31:q6f b ls l (∀ (x1:Nat),q6l b l x1 (((stds b).getD x1 default).ad < (↑(ls.length):Int))))
 (o32:q6f b ls l (∀ (x1:Nat),q6l b l x1 (inI (b.rate * ls.getD ((stds b).getD x1 default).ad.toNat 0))))
 (o33:q6f b ls l (∀ (x1:Nat),q6l b l x1 (inI (sglAt b ls l x1 + b.rate * ls.getD ((stds b).getD x1 default).ad.toNat 0))))
 (o34:q6f b ls l (∀ (x1:Nat),q6l b l x1 (inI ((x1:Int) + 1))))
 (o35:q6f b ls l (∀ (x1:Nat),q6l b l x1 (sglAt b ls l x1 + b.rate * ls.getD ((stds b).getD x1 default).ad.toNat 0=sglAt b ls l (x1 + 1))))
 (o36:q6f b ls l (∀ (x1:Nat),q6l b l x1 ((x1:Int) + 1=(↑(x1 + 1):Int))))
 (o37:q6f b ls l (∀ (x1:Nat),q6l b l x1 (x1 + 1<=(stds b).length)))
 (o38:q6f b ls l (∀ (x1:Nat),q6l b l x1 ((stds b).length - (x1 + 1) < (stds b).length - x1)))
 (o39:q6f b ls l (∀ (x1:Nat),q6m b x1 (sglAt b ls l x1=sglAt b ls l (stds b).length + penAt b l 0)))
 (o40:q6f b ls l (∀ (x1:Nat),q6m b x1 (0=(↑0:Int))))
 (o41:q6f b ls l (∀ (x1:Nat),q6m b x1 (0<=b.ctrs.length)))
 (o42:q6f b ls l (∀ (x1:Nat),q6m b x1 (∀ (x6:Nat),q6o b x6 (l.length<=big))))
 (o43:q6f b ls l (∀ (x1:Nat),q6m b x1 (∀ (x6:Nat),q6p b l x6 (0<=(x6:Int)))))
 (o44:q6f b ls l (∀ (x1:Nat),q6m b x1 (∀ (x6:Nat),q6p b l x6 ((x6:Int) < (↑(b.ctrs.length):Int)))))
 (o45:q6f b ls l (∀ (x1:Nat),q6m b x1 (∀ (x6:Nat),q6p b l x6 (inI (sglAt b ls l (stds b).length + penAt b l x6 + (ctB b x6).pence)))))
 (o46:q6f b ls l (∀ (x1:Nat),q6m b x1 (∀ (x6:Nat),q6p b l x6 (inI ((x6:Int) + 1)))))
 (o47:q6f b ls l (∀ (x1:Nat),q6m b x1 (∀ (x6:Nat),q6p b l x6 (sglAt b ls l (stds b).length + penAt b l x6 + (ctB b x6).pence=sglAt b ls l (stds b).length + penAt b l (x6 + 1)))))
 (o48:q6f b ls l (∀ (x1:Nat),q6m b x1 (∀ (x6:Nat),q6p b l x6 ((x6:Int) + 1=(↑(x6 + 1):Int)))))
 (o49:q6f b ls l (∀ (x1:Nat),q6m b x1 (∀ (x6:Nat),q6p b l x6 (x6 + 1<=b.ctrs.length))))
 (o50:q6f b ls l (∀ (x1:Nat),q6m b x1 (∀ (x6:Nat),q6p b l x6 (b.ctrs.length - (x6 + 1) < b.ctrs.length - x6))))
 (o51:q6f b ls l (∀ (x1:Nat),q6m b x1 (∀ (x6:Nat),q6o b x6 (isIn l (x6:Int)=false->inI ((x6:Int) + 1)))))
 (o52:q6f b ls l (∀ (x1:Nat),q6m b x1 (∀ (x6:Nat),q6o b x6 (isIn l (x6:Int)=false->sglAt b ls l (stds b).length + penAt b l x6=sglAt b ls l (stds b).length + penAt b l (x6 + 1)))))
 (o53:q6f b ls l (∀ (x1:Nat),q6m b x1 (∀ (x6:Nat),q6o b x6 (isIn l (x6:Int)=false->(x6:Int) + 1=(↑(x6 + 1):Int)))))
 (o54:q6f b ls l (∀ (x1:Nat),q6m b x1 (∀ (x6:Nat),q6o b x6 (isIn l (x6:Int)=false->x6 + 1<=b.ctrs.length))))
 (o55:q6f b ls l (∀ (x1:Nat),q6m b x1 (∀ (x6:Nat),q6o b x6 (isIn l (x6:Int)=false->b.ctrs.length - (x6 + 1) < b.ctrs.length - x6))))
 (o56:q6f b ls l (∀ (x1:Nat),q6m b x1 (∀ (x6:Nat),q6n b x6 (decide ((x6:Int) < (↑(b.ctrs.length):Int))=false->sglAt b ls l (stds b).length + penAt b l x6=costB b ls l)))) :
  Triple Tryz.prog 65 (s65 b ls l):=by
 refine triple_of Tryz.func65 rfl Tryz.call65 T0_ok _ rfl rfl rfl rfl (Nat.le_of_ble_eq_true (by kernel_rfl)) (fun _ _ _ _ h=>h) ?_
 intro hpre C hC _ hE
 obtain ⟨P,w0,E0,av,hA,ro,df⟩:=C
 obtain ⟨rfl,rfl,rfl⟩:=hC
 refine swp_seq ?_
 refine zR [1,2,3] [0] (Ak 2 tv) ?_
 refine swp_seq ?_
 refine zC ([(1,CallSpec.eq (s26 b) [true])]) [1,2,3,7] [0] (Ak 1 (An (An (An (zr (AV.agg (cBk b))) tv) (An (t26 (b)) (An (o0 hpre) (Ak 1 (fun (i0:Env)=>tv))))) (Ak 1 tv))) ?_
 refine swp_seq ?_
 refine zR [1,2,3,7,8] [0] (Ak 1 tv) ?_
 refine swp_seq ?_
 refine swp_seq ?_
 refine zR [1,2,3,7,8,9] [0] (Ak 1 tv) ?_
 refine swp_block ?_
 refine zL (Hint.ann (h65a b ls l) [(1,aInts ls),(2,aInts l),(3,AV.ptr 0 []),(7,aDays (stds b))] [(0,OB.cells 26 (cBk b))] 10056) (zE hE [] [(0,.same 0)] [1,2,7] [0] (An (An (An (zr (aInts ls)) (zr true)) (An (An (zr (aInts l)) (zr true)) (An (An (zr (some (Src.same 0))) (zr nilP)) (An (An (zr (aDays (stds b))) (zr true)) (An (An (ci (o1 hpre)) (zr nilN)) (An (An (ci (o2 hpre)) (zr nilN)) tv)))))) (An (An (An (zr (OB.cells 26 (cBk b))) (zr true)) tv) (An (zr true) (zr true))))) (o3 hpre) (fun (x1:Nat) hx1 => ?_)
 refine swp_seq ?_
 refine swp_seq ?_
 refine zR [1,2,3,7,8,9,17] [0] (Ak 4 tv) ?_
 refine zI (decide ((x1:Int) < (↑((stds b).length):Int))) (fun y2 => ?_) (fun y2 => ?_)
 ·refine swp_skip ?_
  refine swp_seq ?_
  refine swp_block ?_
  refine swp_seq ?_
  refine swp_seq ?_
  refine zR [1,2,3,7,8,9,24] [0] (Ak 2 (An (An (o4 hpre x1 hx1 y2) (o5 hpre x1 hx1 y2)) (Ak 2 tv))) ?_
  refine zI (!decide (l.getD x1 0 = -1)) (fun y3 => ?_) (fun y3 => ?_)
  ·refine swp_exit ?_
   refine zR [1,2,3,7,8,9] [0] (Ak 1 (An (o6 hpre x1 hx1 y2 y3) (Ak 1 tv))) ?_
   exact zn (zE hE [] [(0,.same 0)] [1,2,7] [0] (An (An (An (zr (aInts ls)) (zr true)) (An (An (zr (aInts l)) (zr true)) (An (An (zr (some (Src.same 0))) (zr nilP)) (An (An (zr (aDays (stds b))) (zr true)) (An (An (ci (o7 hpre x1 hx1 y2 y3)) (zr nilN)) (An (An (ci (o8 hpre x1 hx1 y2 y3)) (zr nilN)) tv)))))) (An (An (An (zr (OB.cells 26 (cBk b))) (zr true)) tv) (An (zr true) (zr true))))) (o9 hpre x1 hx1 y2 y3) (o10 hpre x1 hx1 y2 y3)
  ·refine swp_skip ?_
   refine swp_seq ?_
   refine zR [1,2,3,7,8,9,10] [0] (Ak 3 tv) ?_
   refine swp_seq ?_
   refine swp_seq ?_
   refine zC ([(12,CallSpec.eq (s55 b ((stds b).getD x1 default).ad (((stds b).getD x1 default).day - 1)) [true,true,true])]) [1,2,3,7,8,9,10,39] [0] (Ak 3 (An (An (o11 hpre x1 hx1 y2 y3) (o12 hpre x1 hx1 y2 y3)) (Ak 4 (An (An (o13 hpre x1 hx1 y2 y3) (o14 hpre x1 hx1 y2 y3)) (Ak 2 (An (o15 hpre x1 hx1 y2 y3) (An (An (An (zr (AV.agg (cBk b))) (An (zr (iv ((stds b).getD x1 default).ad)) (An (zr (iv (((stds b).getD x1 default).day - 1))) tv))) (An (t55 (b) ((stds b).getD x1 default).ad (((stds b).getD x1 default).day - 1)) (An (o16 hpre x1 hx1 y2 y3) (Ak 1 (fun (i4:Env)=>tv))))) tv))))))) ?_
   refine zI (stoodB b ((stds b).getD x1 default).ad (((stds b).getD x1 default).day - 1)) (fun y5 => ?_) (fun y5 => ?_)
   ·refine zR [1,2,3,7,8,9,10] [0] (Ak 3 tv) ?_
    refine zR [1,2,3,7,8,9] [0] (Ak 5 (An (An (o17 hpre x1 hx1 y2 y3 y5) (o18 hpre x1 hx1 y2 y3 y5)) (Ak 2 (An (An (o19 hpre x1 hx1 y2 y3 y5) (o20 hpre x1 hx1 y2 y3 y5)) (Ak 1 (An (o21 hpre x1 hx1 y2 y3 y5) (An (o22 hpre x1 hx1 y2 y3 y5) (Ak 1 tv)))))))) ?_
    refine zR [1,2,3,7,8,9] [0] (Ak 1 (An (o23 hpre x1 hx1 y2 y3 y5) (Ak 1 tv))) ?_
    exact zn (zE hE [] [(0,.same 0)] [1,2,7] [0] (An (An (An (zr (aInts ls)) (zr true)) (An (An (zr (aInts l)) (zr true)) (An (An (zr (some (Src.same 0))) (zr nilP)) (An (An (zr (aDays (stds b))) (zr true)) (An (An (ci (o24 hpre x1 hx1 y2 y3 y5)) (zr nilN)) (An (An (ci (o25 hpre x1 hx1 y2 y3 y5)) (zr nilN)) tv)))))) (An (An (An (zr (OB.cells 26 (cBk b))) (zr true)) tv) (An (zr true) (zr true))))) (o26 hpre x1 hx1 y2 y3 y5) (o27 hpre x1 hx1 y2 y3 y5)
   ·refine swp_skip ?_
    refine zR [1,2,3,7,8,9] [0] (Ak 5 (An (An (o28 hpre x1 hx1 y2 y3 y5) (o29 hpre x1 hx1 y2 y3 y5)) (Ak 2 (An (An (o30 hpre x1 hx1 y2 y3 y5) (o31 hpre x1 hx1 y2 y3 y5)) (Ak 1 (An (o32 hpre x1 hx1 y2 y3 y5) (An (o33 hpre x1 hx1 y2 y3 y5) (Ak 1 tv)))))))) ?_
    refine zR [1,2,3,7,8,9] [0] (Ak 1 (An (o34 hpre x1 hx1 y2 y3 y5) (Ak 1 tv))) ?_
    exact zn (zE hE [] [(0,.same 0)] [1,2,7] [0] (An (An (An (zr (aInts ls)) (zr true)) (An (An (zr (aInts l)) (zr true)) (An (An (zr (some (Src.same 0))) (zr nilP)) (An (An (zr (aDays (stds b))) (zr true)) (An (An (ci (o35 hpre x1 hx1 y2 y3 y5)) (zr nilN)) (An (An (ci (o36 hpre x1 hx1 y2 y3 y5)) (zr nilN)) tv)))))) (An (An (An (zr (OB.cells 26 (cBk b))) (zr true)) tv) (An (zr true) (zr true))))) (o37 hpre x1 hx1 y2 y3 y5) (o38 hpre x1 hx1 y2 y3 y5)
 ·refine swp_exit ?_
  refine swp_seq ?_
  refine swp_seq ?_
  refine zR [2,3,8,11] [0] (Ak 1 tv) ?_
  refine swp_block ?_
  refine zL (Hint.ann (h65b b ls l) [(2,aInts l),(3,AV.ptr 0 [])] [(0,OB.cells 26 (cBk b))] 20096) (zE hE [] [(0,.same 0)] [2] [0] (An (An (An (zr (aInts l)) (zr true)) (An (An (zr (some (Src.same 0))) (zr nilP)) (An (An (ci (o39 hpre x1 hx1 y2)) (zr nilN)) (An (An (ci (o40 hpre x1 hx1 y2)) (zr nilN)) tv)))) (An (An (An (zr (OB.cells 26 (cBk b))) (zr true)) tv) (An (zr true) (zr true))))) (o41 hpre x1 hx1 y2) (fun (x6:Nat) hx6 => ?_)
  refine swp_seq ?_
  refine swp_seq ?_
  refine zR [2,3,8,11,58] [0] (Ak 5 tv) ?_
  refine zI (decide ((x6:Int) < (↑(b.ctrs.length):Int))) (fun y7 => ?_) (fun y7 => ?_)
  ·refine swp_skip ?_
   refine swp_seq ?_
   refine swp_block ?_
   refine swp_seq ?_
   refine zC ([(2,CallSpec.eq (s37 l (x6:Int)) [true,true])]) [2,3,8,11,63] [0] (Ak 2 (An (An (An (zr (aInts l)) (An (zr (iv (x6:Int))) tv)) (An (t37 (l) ((x6:Int))) (An (o42 hpre x1 hx1 y2 x6 hx6 y7) (Ak 1 (fun (i8:Env)=>tv))))) tv)) ?_
   refine zI (isIn l (x6:Int)) (fun y9 => ?_) (fun y9 => ?_)
   ·refine zR [2,3,8,11] [0] (Ak 4 (An (An (o43 hpre x1 hx1 y2 x6 hx6 y7 y9) (o44 hpre x1 hx1 y2 x6 hx6 y7 y9)) (Ak 2 (An (o45 hpre x1 hx1 y2 x6 hx6 y7 y9) (Ak 1 tv))))) ?_
    refine zR [2,3,8,11] [0] (Ak 1 (An (o46 hpre x1 hx1 y2 x6 hx6 y7 y9) (Ak 1 tv))) ?_
    exact zn (zE hE [] [(0,.same 0)] [2] [0] (An (An (An (zr (aInts l)) (zr true)) (An (An (zr (some (Src.same 0))) (zr nilP)) (An (An (ci (o47 hpre x1 hx1 y2 x6 hx6 y7 y9)) (zr nilN)) (An (An (ci (o48 hpre x1 hx1 y2 x6 hx6 y7 y9)) (zr nilN)) tv)))) (An (An (An (zr (OB.cells 26 (cBk b))) (zr true)) tv) (An (zr true) (zr true))))) (o49 hpre x1 hx1 y2 x6 hx6 y7 y9) (o50 hpre x1 hx1 y2 x6 hx6 y7 y9)
   ·refine swp_skip ?_
    refine zR [2,3,8,11] [0] (Ak 1 (An (o51 hpre x1 hx1 y2 x6 hx6 y7 y9) (Ak 1 tv))) ?_
    exact zn (zE hE [] [(0,.same 0)] [2] [0] (An (An (An (zr (aInts l)) (zr true)) (An (An (zr (some (Src.same 0))) (zr nilP)) (An (An (ci (o52 hpre x1 hx1 y2 x6 hx6 y7 y9)) (zr nilN)) (An (An (ci (o53 hpre x1 hx1 y2 x6 hx6 y7 y9)) (zr nilN)) tv)))) (An (An (An (zr (OB.cells 26 (cBk b))) (zr true)) tv) (An (zr true) (zr true))))) (o54 hpre x1 hx1 y2 x6 hx6 y7 y9) (o55 hpre x1 hx1 y2 x6 hx6 y7 y9)
  ·refine swp_exit ?_
   refine swp_seq ?_
   refine zR [6] [] (Ak 2 tv) ?_
   refine swp_ret ?_
   exact zT [] (An (Ak 1 tv) (An (An (ci (o56 hpre x1 hx1 y2 x6 hx6 y7)) (zr nilN)) (An (zr true) (An (zr true) (zr true)))))
theorem rate_pos {b:Book} (hs:SoundB b) {ls:List Int} (hg:GoodLn b ls) (k:Nat):(0<=b.rep * ls.getD k 0/\b.rep * ls.getD k 0<=81)/\0<=b.rate * ls.getD k 0/\b.rate * ls.getD k 0<=81:=by
 have hr:=hs.rate
 have hl:=hg.2 k
 refine ⟨⟨Int.mul_nonneg hr.1 hl.1,?_⟩,Int.mul_nonneg (by omega) hl.1,?_⟩
 ·have:b.rep * ls.getD k 0<=9 * 9:=Int.mul_le_mul (by omega) hl.2 hl.1 (by omega)
  exact this
 ·have:b.rate * ls.getD k 0<=9 * 9:=Int.mul_le_mul (by omega) hl.2 hl.1 (by omega)
  exact this
theorem t65 (b:Book) (ls l:List Int):Triple Tryz.prog 65 (s65 b ls l):=by
  apply w65
  all_goals (try delta q6f q6g q6h q6i q6j q6k q6l q6m q6n q6o q6p)
  case o0=>exact fun hp=>sound_smallB hp.1
  all_goals (rintro ⟨hs,hg,hlen⟩)
  case o1 | o2=>all_goals rfl
  case o3=>exact Nat.zero_le _
  all_goals (have hst:=stds_small hs; have hct:=hs.ctrs)
  all_goals (intro x hx hl; simp only [decide_eq_true_eq,decide_eq_false_iff_not] at hl)
  all_goals (have hsg:=sgl_pos hs hg l x)
  all_goals (try (have had:=std_ad hg (getD_mem (stds b) default (show x < (stds b).length by omega)); have hday:=std_day (getD_mem (stds b) default (show x < (stds b).length by omega)); have hrp:=rate_pos hs hg ((stds b).getD x default).ad.toNat))
  case o39 => have e : x = (stds b).length := by omega
              rw [e]; show _=_ + (0:Int); omega
  case o40=>rfl
  case o41=>exact Nat.zero_le _
  all_goals (try omega)
  all_goals (try (intro h1; simp only [Bool.not_eq_true',Bool.not_eq_false',decide_eq_true_eq,decide_eq_false_iff_not] at h1; first | omega | (simp only [inI]; omega) | exact small_fitsB (sound_smallB hs) | (show _=if _ then _ else _; rw [if_neg h1])))
  case o24 =>
    intro h1 h2
    simp only [Bool.not_eq_false',decide_eq_true_eq] at h1
    show _=if _ then _ + singleP b ls (sdA b x) else _
    rw [if_pos h1]
    unfold singleP rateOf sdA
    rw [h2]; rfl
  case o35 =>
    intro h1 h2
    simp only [Bool.not_eq_false',decide_eq_true_eq] at h1
    show _=if _ then _ + singleP b ls (sdA b x) else _
    rw [if_pos h1]
    unfold singleP rateOf sdA
    rw [h2]; rfl
  all_goals (intro c hc hcl; simp only [decide_eq_true_eq,decide_eq_false_iff_not] at hcl)
  all_goals (have hsn:=sgl_pos hs hg l (stds b).length; have hpn:=pen_pos hs l c hc)
  case o56 => have e : c = b.ctrs.length := by omega
              rw [e]; rfl
  case o42 => have : (8 : Nat) <= big := by decide
              omega
  all_goals (intro h1)
  case o47=>show _=_ + (if _ then _ + _ else _); rw [if_pos h1,Int.add_assoc]
  case o52=>show _=_ + (if _ then _ + _ else _); rw [if_neg (by rw [h1]; exact Bool.false_ne_true)]
  all_goals (first | omega | (have hcc:=hs.ctr c (by omega); simp only [inI]; omega))
theorem wo7 (b:Book)
  (o0:smallB b->0 + List.length (Book.lines b)<=65536)
  (o1:smallB b->0 + List.length (Book.shown b)<=65536)
  (o2:smallB b->0 + List.length (Book.ctrs b)<=65536)
  (o3:smallB b->0 + b.lines.length=b.lines.length)
  (o4:smallB b->0 + b.shown.length=b.shown.length)
  (o5:smallB b->0 + b.ctrs.length=b.ctrs.length)
  (l:List (Nat × Nat)) (hl:l.map (·.1)=(OutSpec.hout (ou7 b)).map (·.1)) (hnd:(l.map (·.2)).Nodup) :
  Triple Tryz.prog 7 (OutSpec.at (ou7 b) l):=by
 refine triple_out Tryz.func7 rfl Tryz.call7 T0_ok _ _ _ _ l rfl (Nat.le_of_ble_eq_true (by kernel_rfl)) hl hnd (by kernel_rfl) (by kernel_rfl) (by kernel_rfl) ?_
 intro hpre C hC hE
 obtain ⟨P,w0,E0,av,hA,ro,df⟩:=C
 obtain ⟨rfl,rfl,rfl⟩:=hC
 refine swp_seq ?_
 refine zR [1,2] [0,8] (Ak 2 tv) ?_
 refine swp_seq ?_
 refine zR [2] [8,40,72,136] (Ak 3 (An (o0 hpre) (Ak 3 (An (o1 hpre) (Ak 7 (An (o2 hpre) (Ak 2 tv))))))) ?_
 refine swp_ret ?_
 exact zO (ASt.mk [(2,AV.ptr 90 [])] [(90,OB.cells 26 [AV.vec 0,AV.vec 1,iv b.rate,iv b.rep,AV.vec 2]),(0,OB.vec 41 2 b.lines.length fun (i:Nat)=>cSpan (lnB b i)),(1,OB.vec 74 3 b.shown.length fun (i:Nat)=>cShn (shB b i)),(2,OB.vec 68 4 b.ctrs.length fun (i:Nat)=>cCtr (ctB b i))] 100) (zE hE [] [(90,.same 8),(0,.same 40),(1,.same 72),(2,.same 136)] [] [] (An (An (An (zr (some (Src.same 8))) (zr nilP)) tv) (An (An (An (zr 26) (An (An (zr (some (Src.same 40))) (An (zr (some (Src.same 72))) (An (An (zr (iv b.rate)) (zr nilN)) (An (An (zr (iv b.rep)) (zr nilN)) (An (zr (some (Src.same 136))) tv))))) (zr true))) (An (An (zr 41) (An (zr 2) (An (o3 hpre) (fun (i0:Nat)=>(fun (y1:i0 < 0 + b.lines.length)=>(zr (cSpan (lnB b i0)))))))) (An (An (zr 74) (An (zr 3) (An (o4 hpre) (fun (i2:Nat)=>(fun (y3:i2 < 0 + b.shown.length)=>(zr (cShn (shB b i2)))))))) (An (An (zr 68) (An (zr 4) (An (o5 hpre) (fun (i4:Nat)=>(fun (y5:i4 < 0 + b.ctrs.length)=>(zr (cCtr (ctB b i4)))))))) tv)))) (An (zr true) (zr true))))) (An (Ak 1 tv) (An (zr (AV.agg [AV.vec 0,AV.vec 1,iv b.rate,iv b.rep,AV.vec 2])) (An (zr (some (OB.vec 41 2 b.lines.length fun (i:Nat)=>cSpan (lnB b i)))) (An (zr (some (OB.vec 74 3 b.shown.length fun (i:Nat)=>cShn (shB b i)))) (An (zr (some (OB.vec 68 4 b.ctrs.length fun (i:Nat)=>cCtr (ctB b i)))) tv)))))
theorem to7 (b:Book) (l:List (Nat × Nat)) (hl:l.map (·.1) = [0,1,2]) (hnd:(l.map (·.2)).Nodup):Triple Tryz.prog 7 ((ou7 b).at l):=by
 apply wo7 (l:=l) (hl:=hl) (hnd:=hnd)
 all_goals (rintro ⟨a1,a2,a3⟩; omega)
theorem t7o (b:Book) (id:Nat):Triple Tryz.prog 7 (s7o b id):=to7 b _ rfl (by simp)
abbrev q6q (b:Book) (a:Int) (P:Prop):Prop:=smallB b/\0<=a/\a < (↑(b.lines.length):Int)->P
theorem w51 (b:Book) (a:Int) (n:Int)
 (o0:q6q b a (0<=a))
 (o1:q6q b a (a < (↑(b.lines.length):Int)))
 (o2:q6q b a (a.toNat < b.lines.length))
 (o3:q6q b a (b.lines.length=(cntB b a.toNat n).lines.length))
 (o4:q6q b a (∀ (i1:Nat),i1 < (cntB b a.toNat n).lines.length->Decidable.rec (fun (h:¬i1=a.toNat)=>cSpan (lnB b i1)) (fun (h:i1=a.toNat)=>[iv n,iv n] ++ []) (instDecidableEqNat i1 a.toNat)=cSpan (lnB (cntB b a.toNat n) i1)))
 (o5:q6q b a (b.shown.length=(cntB b a.toNat n).shown.length))
 (o6:q6q b a (∀ (i3:Nat),i3 < (cntB b a.toNat n).shown.length->cShn (shB b i3)=cShn (shB (cntB b a.toNat n) i3)))
 (o7:q6q b a (b.rate=(cntB b a.toNat n).rate))
 (o8:q6q b a (b.rep=(cntB b a.toNat n).rep))
 (o9:q6q b a (b.ctrs.length=(cntB b a.toNat n).ctrs.length))
 (o10:q6q b a (∀ (i5:Nat),i5 < (cntB b a.toNat n).ctrs.length->cCtr (ctB b i5)=cCtr (ctB (cntB b a.toNat n) i5))) :
  Triple Tryz.prog 51 (s51 b a n):=by
 refine triple_of Tryz.func51 rfl Tryz.call51 T0_ok _ rfl rfl rfl rfl (Nat.le_of_ble_eq_true (by kernel_rfl)) (fun _ _ _ _ h=>h) ?_
 intro hpre C hC _ hE
 obtain ⟨P,w0,E0,av,hA,ro,df⟩:=C
 obtain ⟨rfl,rfl,rfl⟩:=hC
 refine swp_seq ?_
 refine zR [1,2,3,6] [0,8] (Ak 2 tv) ?_
 refine swp_seq ?_
 refine zC ([(1,CallSpec.eq (c51 b a n 24) [true])]) [1,2,6,7] [8,32,24,25,26] (Ak 1 (An (An (An (zr (AV.agg (cBk b))) tv) (An (t7o (b) (24)) (An hpre.1 (Ak 1 (fun (i0:Env)=>tv))))) (Ak 2 tv))) ?_
 refine swp_seq ?_
 refine zR [6,7] [8,32,24,25,26] (Ak 6 (An (An (o0 hpre) (o1 hpre)) (An (An (o2 hpre) tv) tv))) ?_
 refine swp_seq ?_
 refine zR [6] [8,24,25,26] (Ak 2 tv) ?_
 refine swp_ret ?_
 exact zT [24,25,26] (An (Ak 1 tv) (An (An (An (zr 2) (An (o3 hpre) (fun (i1:Nat)=>(fun (y2:i1 < (cntB b a.toNat n).lines.length)=>(o4 hpre i1 y2))))) (An (An (zr 3) (An (o5 hpre) (fun (i3:Nat)=>(fun (y4:i3 < (cntB b a.toNat n).shown.length)=>(o6 hpre i3 y4))))) (An (An (ci (o7 hpre)) (zr nilN)) (An (An (ci (o8 hpre)) (zr nilN)) (An (An (zr 4) (An (o9 hpre) (fun (i5:Nat)=>(fun (y6:i5 < (cntB b a.toNat n).ctrs.length)=>(o10 hpre i5 y6))))) tv))))) (An (zr true) (An (zr true) (zr true)))))
theorem t51 (b:Book) (a n:Int):Triple Tryz.prog 51 (s51 b a n):=by
 apply w51
 all_goals (try delta q6q)
 all_goals (rintro ⟨hp,h0,h1⟩)
 case o3=>exact (cnt_len _ _).symm
 case o4 =>
  intro i _
  rw [cnt_all b (by omega) n i]
  refine rec_ei8 (fun h=>by rw [if_neg h]) (fun h=>by rw [if_pos h]; rfl)
 all_goals (first | omega | rfl | (intro i _; rfl))
section
variable {b:Book} {first:List Int}
theorem listsB_len (m:Nat) (l:List Int):(listsB b m l).length=(b.ctrs.length + 1) ^ m:=by rw [lists_R,List.length_map,R_len]
theorem listsTo_succ {n k:Nat} (h:k < b.ctrs.length + 1):listsTo b first n (k + 1)=listsTo b first n k ++ listsB b n (first ++ [(k:Int) - 1]):=by
 unfold listsTo; rw [take_succ _ 0 (by rw [bys_len]; omega),List.flatMap_append,bys_get h]; simp
theorem listsTo_len {n:Nat}:∀ k,k<=b.ctrs.length + 1->(listsTo b first n k).length=k * (b.ctrs.length + 1) ^ n:=by
 intro k
 induction k with
 | zero=>intro _; simp [listsTo]
 | succ k ih=>intro h; rw [listsTo_succ (by omega),List.length_append,ih (by omega),listsB_len,Nat.add_mul,Nat.one_mul]
theorem listsTo_all {n:Nat}:listsTo b first n (b.ctrs.length + 1)=listsB b (n + 1) first:=by
 unfold listsTo; rw [List.take_of_length_le (by rw [bys_len]; exact Nat.le_refl _)]; rfl
theorem pow_small (hs:SoundB b) {n:Nat} (h:n<=6):(b.ctrs.length + 1) ^ n<=4096:=by
 have h1:=hs.ctrs
 have h2:(b.ctrs.length + 1) ^ n<=4 ^ n:=Nat.pow_le_pow_left (by omega) n
 have h3:4 ^ n<=4 ^ 6:=Nat.pow_le_pow_right (by omega) h
 have h4:(4:Nat) ^ 6=4096:=by decide
 omega
theorem truthsTo_succ {n k:Nat}:truthsTo b first n (k + 1)=truthsTo b first n k ++ truthsB b n (first ++ [(lnB b first.length).lo + k]):=by
 unfold truthsTo; rw [List.range_succ,List.flatMap_append]; simp
theorem truthsTo_all {n:Nat}:truthsTo b first n (lnN b first.length)=truthsB b (n + 1) first:=rfl
theorem lnN_le (hs:SoundB b) {i:Nat} (h:i < b.lines.length):lnN b i<=10:=by
 have:=hs.line i h; unfold lnN; omega
theorem truthsB_len (hs:SoundB b):∀ (n:Nat) (l:List Int),l.length + n=b.lines.length->(truthsB b n l).length<=10 ^ n:=by
 intro n
 induction n with
 | zero=>intro l _; exact Nat.le_refl _
 | succ n ih =>
  intro l hl
  have hk:∀ k,(truthsTo b l n k).length<=k * 10 ^ n:=by
   intro k
   induction k with
   | zero=>simp [truthsTo]
   | succ k ihk =>
    rw [truthsTo_succ,List.length_append,Nat.add_mul,Nat.one_mul]
    have:=ih (l ++ [(lnB b l.length).lo + k]) (by rw [List.length_append,List.length_singleton]; omega)
    omega
  have h1:=hk (lnN b l.length)
  rw [truthsTo_all] at h1
  have h2:=Nat.mul_le_mul_right (10 ^ n) (lnN_le hs (i:=l.length) (by omega))
  rw [Nat.pow_succ,Nat.mul_comm (10 ^ n)]
  omega
theorem truthsTo_len (hs:SoundB b) {n:Nat} (hl:first.length + n + 1=b.lines.length) (k:Nat):(truthsTo b first n k).length<=k * 10 ^ n:=by
 induction k with
 | zero=>simp [truthsTo]
 | succ k ihk =>
  rw [truthsTo_succ,List.length_append,Nat.add_mul,Nat.one_mul]
  have:=truthsB_len hs n (first ++ [(lnB b first.length).lo + k]) (by rw [List.length_append,List.length_singleton]; omega)
  omega
end
abbrev q6r (b:Book) (first:List Int) (m:Nat) (P:Prop):Prop:=SoundB b/\first.length<=m/\m<=6->P
abbrev q6s (b:Book) (first:List Int) (m:Nat) (P:Prop):Prop:=q6r b first m (decide ((↑(first.length):Int)=(m:Int))=false->P)
abbrev q6t (b:Book) (x3:Nat) (P:Prop):Prop:=x3<=b.ctrs.length + 1->P
abbrev q6u (b:Book) (x3:Nat) (P:Prop):Prop:=q6t b x3 (decide ((x3:Int) - 1 < (↑(b.ctrs.length):Int))=true->P)
theorem w66 (b:Book) (first:List Int) (m:Nat)
 (o0:q6r b first m (decide ((↑(first.length):Int)=(m:Int))=true->1=(listsB b (m - first.length) first).length))
 (o1:q6r b first m (decide ((↑(first.length):Int)=(m:Int))=true -> ∀ (i1:Nat),i1 < (listsB b (m - first.length) first).length->List.getD [[AV.sl 1 first.length fun (i:Nat)=>[iv (first.getD i 0)]]] i1 (TI.za ti27) = [aInts ((listsB b (m - first.length) first).getD i1 [])]))
 (o2:q6s b first m (-1=(↑0:Int) - 1))
 (o3:q6s b first m ((listsTo b first (m - first.length - 1) 0).length=0))
 (o4:q6s b first m (0<=b.ctrs.length + 1))
 (o5:q6s b first m (∀ (x3:Nat),q6u b x3 (0 + first.length<=65536)))
 (o6:q6s b first m (∀ (x3:Nat),q6u b x3 (0 + first.length + 1<=65536)))
 (o7:q6s b first m (∀ (x3:Nat),q6u b x3 (0 + first.length + 1=(first ++ [(x3:Int) - 1]).length)))
 (o8:q6s b first m (∀ (x3:Nat),q6u b x3 (∀ (i5:Nat),i5 < (first ++ [(x3:Int) - 1]).length->catF (0 + first.length) (fun (i:Nat)=>[iv (first.getD i 0)]) (fun (j:Nat)=>List.getD [[iv ((x3:Int) - 1)]] j (TI.za ti3)) i5 = [iv ((first ++ [(x3:Int) - 1]).getD i5 0)])))
 (o9:q6s b first m (∀ (x3:Nat),q6u b x3 (Triple Tryz.prog 66 (c66 b first m x3))))
 (o10:q6s b first m (∀ (x3:Nat),q6u b x3 ((first ++ [(x3:Int) - 1]).length<=m)))
 (o11:q6s b first m (∀ (x3:Nat),q6u b x3 (m<=6)))
 (o12:q6s b first m (∀ (x3:Nat),q6u b x3 ((listsTo b first (m - first.length - 1) x3).length + (listsB b (m - (first ++ [(x3:Int) - 1]).length) (first ++ [(x3:Int) - 1])).length<=65536)))
 (o13:q6s b first m (∀ (x3:Nat),q6u b x3 (inI ((x3:Int) - 1 + 1))))
 (o14:q6s b first m (∀ (x3:Nat),q6u b x3 ((x3:Int) - 1 + 1=(↑(x3 + 1):Int) - 1)))
 (o15:q6s b first m (∀ (x3:Nat),q6u b x3 ((listsTo b first (m - first.length - 1) x3).length + (listsB b (m - (first ++ [(x3:Int) - 1]).length) (first ++ [(x3:Int) - 1])).length=(listsTo b first (m - first.length - 1) (x3 + 1)).length)))
 (o16:q6s b first m (∀ (x3:Nat),q6u b x3 (∀ (i8:Nat),i8 < (listsTo b first (m - first.length - 1) x3).length + (listsB b (m - (first ++ [(x3:Int) - 1]).length) (first ++ [(x3:Int) - 1])).length->catF (listsTo b first (m - first.length - 1) x3).length (fun (i:Nat)=>[aInts ((listsTo b first (m - first.length - 1) x3).getD i [])]) (fun (i:Nat)=>[aInts ((listsB b (m - (first ++ [(x3:Int) - 1]).length) (first ++ [(x3:Int) - 1])).getD i [])]) i8 = [aInts ((listsTo b first (m - first.length - 1) (x3 + 1)).getD i8 [])])))
 (o17:q6s b first m (∀ (x3:Nat),q6u b x3 (x3 + 1<=b.ctrs.length + 1)))
 (o18:q6s b first m (∀ (x3:Nat),q6u b x3 (b.ctrs.length + 1 - (x3 + 1) < b.ctrs.length + 1 - x3)))
 (o19:q6s b first m (∀ (x3:Nat),q6t b x3 (decide ((x3:Int) - 1 < (↑(b.ctrs.length):Int))=false->(listsTo b first (m - first.length - 1) x3).length=(listsB b (m - first.length) first).length)))
 (o20:q6s b first m (∀ (x3:Nat),q6t b x3 (decide ((x3:Int) - 1 < (↑(b.ctrs.length):Int))=false -> ∀ (i10:Nat),i10 < (listsB b (m - first.length) first).length -> [aInts ((listsTo b first (m - first.length - 1) x3).getD i10 [])] = [aInts ((listsB b (m - first.length) first).getD i10 [])]))) :
  Triple Tryz.prog 66 (s66 b first m):=by
 refine triple_of Tryz.func66 rfl Tryz.call66 T0_ok _ rfl rfl rfl rfl (Nat.le_of_ble_eq_true (by kernel_rfl)) (fun _ _ _ _ h=>h) ?_
 intro hpre C hC _ hE
 obtain ⟨P,w0,E0,av,hA,ro,df⟩:=C
 obtain ⟨rfl,rfl,rfl⟩:=hC
 refine swp_seq ?_
 refine zR [1,2,3] [0] (Ak 2 tv) ?_
 refine swp_seq ?_
 refine swp_seq ?_
 refine zR [1,2,3,12] [0] (Ak 4 tv) ?_
 refine zI (decide ((↑(first.length):Int)=(m:Int))) (fun y0 => ?_) (fun y0 => ?_)
 ·refine swp_seq ?_
  refine zR [6] [56] (Ak 3 tv) ?_
  refine swp_ret ?_
  exact zT [56] (An (Ak 1 tv) (An (An (zr 1) (An (o0 hpre y0) (fun (i1:Nat)=>(fun (y2:i1 < (listsB b (m - first.length) first).length)=>(o1 hpre y0 i1 y2))))) (An (zr true) (An (zr true) (zr true)))))
 ·refine swp_skip ?_
  refine swp_seq ?_
  refine zR [1,2,3,7] [0] (Ak 1 tv) ?_
  refine swp_seq ?_
  refine swp_seq ?_
  refine zR [1,2,3,7,8] [0] (Ak 1 tv) ?_
  refine swp_block ?_
  refine zL (Hint.ann (h66 b first m) [(1,aInts first),(2,iv (m:Int)),(3,AV.ptr 0 [])] [(0,OB.cells 26 (cBk b))] 10064) (zE hE [] [(0,.same 0),(5000,.nil)] [1,2] [0] (An (An (An (zr (aInts first)) (zr true)) (An (An (zr (iv (m:Int))) (zr true)) (An (An (zr (some (Src.same 0))) (zr nilP)) (An (zr (some Src.nil)) (An (An (ci (o2 hpre y0)) (zr nilN)) tv))))) (An (An (An (zr (OB.cells 26 (cBk b))) (zr true)) (An (o3 hpre y0) tv)) (An (zr true) (zr true))))) (o4 hpre y0) (fun (x3:Nat) hx3 => ?_)
  refine swp_seq ?_
  refine swp_seq ?_
  refine zR [1,2,3,7,8,19] [0,5000] (Ak 5 tv) ?_
  refine zI (decide ((x3:Int) - 1 < (↑(b.ctrs.length):Int))) (fun y4 => ?_) (fun y4 => ?_)
  ·refine swp_skip ?_
   refine swp_seq ?_
   refine swp_block ?_
   refine zC ([(9,CallSpec.eq (c66 b first m x3) [true,false,true])]) [1,2,3,7,8] [0,10184] (Ak 4 (An (o5 hpre y0 x3 hx3 y4) (Ak 2 (An (o6 hpre y0 x3 hx3 y4) (Ak 1 (An (An (An (zr (AV.agg (cBk b))) (An (An (zr 1) (An (o7 hpre y0 x3 hx3 y4) (fun (i5:Nat)=>(fun (y6:i5 < (first ++ [(x3:Int) - 1]).length)=>(o8 hpre y0 x3 hx3 y4 i5 y6))))) (An (zr (iv (m:Int))) tv))) (An (o9 hpre y0 x3 hx3 y4) (An (An hpre.1 (An (o10 hpre y0 x3 hx3 y4) (o11 hpre y0 x3 hx3 y4))) (Ak 1 (fun (i7:Env)=>tv))))) (An (o12 hpre y0 x3 hx3 y4) (Ak 1 tv)))))))) ?_
   refine zR [1,2,3,7,8] [0,10184] (Ak 1 (An (o13 hpre y0 x3 hx3 y4) (Ak 1 tv))) ?_
   exact zn (zE hE [] [(0,.same 0),(5000,.same 10184)] [1,2] [0] (An (An (An (zr (aInts first)) (zr true)) (An (An (zr (iv (m:Int))) (zr true)) (An (An (zr (some (Src.same 0))) (zr nilP)) (An (zr (some (Src.same 10184))) (An (An (ci (o14 hpre y0 x3 hx3 y4)) (zr nilN)) tv))))) (An (An (An (zr (OB.cells 26 (cBk b))) (zr true)) (An (An (zr 27) (An (zr 1) (An (o15 hpre y0 x3 hx3 y4) (fun (i8:Nat)=>(fun (y9:i8 < (listsTo b first (m - first.length - 1) x3).length + (listsB b (m - (first ++ [(x3:Int) - 1]).length) (first ++ [(x3:Int) - 1])).length)=>(o16 hpre y0 x3 hx3 y4 i8 y9)))))) tv)) (An (zr true) (zr true))))) (o17 hpre y0 x3 hx3 y4) (o18 hpre y0 x3 hx3 y4)
  ·refine swp_exit ?_
   refine swp_seq ?_
   refine zR [6] [5000] (Ak 2 tv) ?_
   refine swp_ret ?_
   exact zT [5000] (An (Ak 1 tv) (An (An (zr 1) (An (o19 hpre y0 x3 hx3 y4) (fun (i10:Nat)=>(fun (y11:i10 < (listsB b (m - first.length) first).length)=>(o20 hpre y0 x3 hx3 y4 i10 y11))))) (An (zr true) (An (zr true) (zr true)))))
theorem t66 (b:Book) (first:List Int) (m:Nat):Triple Tryz.prog 66 (s66 b first m):=by
 have key:∀ (k:Nat) (first:List Int),m - first.length<=k->Triple Tryz.prog 66 (s66 b first m):=by
  intro k
  induction k with
  | zero =>
   intro first hk
   apply w66
   all_goals (try delta q6r q6s q6t q6u)
   all_goals (rintro ⟨hs,h1,h2⟩; have he:first.length=m:=by omega)
   case o0=>intro _; rw [he,Nat.sub_self]; rfl
   case o1 =>
    intro _ i hi
    rw [he,Nat.sub_self] at hi ⊢
    have:i=0:=by simpa [listsB] using hi
    subst this; rw [← he]; rfl
   all_goals (intro h; exact absurd (by omega) (of_decide_eq_false h))
  | succ k ih =>
   intro first hk
   apply w66
   all_goals (try delta q6r q6s q6t q6u)
   all_goals (rintro ⟨hs,h1,h2⟩; have hct:=hs.ctrs)
   case o0=>intro h; have he:=of_decide_eq_true h; rw [show m - first.length=0 by omega]; rfl
   case o1 =>
    intro h i hi
    have he:=of_decide_eq_true h
    rw [show m - first.length=0 by omega] at hi ⊢
    have:i=0:=by simpa [listsB] using hi
    subst this; rfl
   all_goals (intro h; have he:first.length < m:=(by have:=of_decide_eq_false h; omega))
   case o2=>omega
   case o3=>rfl
   case o4=>omega
   all_goals (intro x hx hl; simp only [decide_eq_true_eq,decide_eq_false_iff_not] at hl)
   case o19=>rw [show x=b.ctrs.length + 1 by omega,listsTo_all,show m - first.length - 1 + 1=m - first.length by omega]
   case o20=>intro i hi; rw [show x=b.ctrs.length + 1 by omega,listsTo_all,show m - first.length - 1 + 1=m - first.length by omega]
   all_goals (have hll:(first ++ [(x:Int) - 1]).length=first.length + 1:=by rw [List.length_append]; rfl)
   all_goals (have hmm:m - (first ++ [(x:Int) - 1]).length=m - first.length - 1:=by omega)
   all_goals (have hb1:=listsTo_len (b:=b) (first:=first) (n:=m - first.length - 1) x (by omega); have hb2:=listsB_len (b:=b) (m - first.length - 1) (first ++ [(x:Int) - 1]); have hp:=pow_small hs (n:=m - first.length - 1) (by omega))
   case o8=>intro i hi; rw [hll] at hi; exact catF_one first _ 0 (fun z=>[iv z]) (Nat.zero_add _) (fun _ _=>rfl) rfl hi
   case o9=>exact ih _ (by omega)
   case o12 =>
    rw [hmm,hb1,hb2]
    have:=Nat.mul_le_mul (show x<=4 by omega) hp
    omega
   case o15=>rw [hmm,listsTo_succ (by omega),List.length_append]
   case o16=>intro i hi; rw [hmm,listsTo_succ (by omega)]; rw [hmm] at hi; exact catF_eq _ _ [] (fun z=>[aInts z]) rfl (fun _ _=>rfl) (fun _ _=>rfl) hi
   all_goals (first | omega | (simp only [inI]; omega))
 exact key _ first (Nat.le_refl _)
abbrev q6v (b:Book) (ls:List Int) (P:Prop):Prop:=SoundB b/\GoodLn b ls->P
abbrev q6w (b:Book) (x5:Nat) (P:Prop):Prop:=x5 < (allL b).length->P
abbrev q6x (b:Book) (x5:Nat) (P:Prop):Prop:=q6w b x5 (decide ((x5:Int) + 1 < (↑((listsB b ((stds b).length - 0) []).length):Int))=true->P)
abbrev q6y (b:Book) (ls:List Int) (x5:Nat) (P:Prop):Prop:=q6x b x5 ((!isBillB b ls ((allL b).getD (x5 + 1) []))=true->P)
abbrev q6z (b:Book) (ls:List Int) (x5:Nat) (P:Prop):Prop:=q6x b x5 ((!isBillB b ls ((allL b).getD (x5 + 1) []))=false->P)
abbrev q70 (b:Book) (ls:List Int) (x5:Nat) (P:Prop):Prop:=q6z b ls x5 (decide (costB b ls ((allL b).getD (x5 + 1) []) < (refBT b ls (allL b) x5).2)=true->P)
abbrev q71 (b:Book) (ls:List Int) (x5:Nat) (P:Prop):Prop:=q6z b ls x5 (decide (costB b ls ((allL b).getD (x5 + 1) []) < (refBT b ls (allL b) x5).2)=false->P)
abbrev q72 (b:Book) (x5:Nat) (P:Prop):Prop:=q6w b x5 (decide ((x5:Int) + 1 < (↑((listsB b ((stds b).length - 0) []).length):Int))=false->P)
theorem w35 (b:Book) (ls:List Int)
 (o0:q6v b ls (smallB b))
 (o1:q6v b ls (0<=List.length (stds b)))
 (o2:q6v b ls (List.length (stds b)<=6))
 (o3:q6v b ls (0 < (↑((listsB b ((stds b).length - 0) []).length):Int)))
 (o4:q6v b ls (((listsB b ((stds b).length - 0) []).getD 0 []).length=((allL b).getD 0 []).length))
 (o5:q6v b ls (∀ (i2:Nat),i2 < ((allL b).getD 0 []).length -> [iv (((listsB b ((stds b).length - 0) []).getD 0 []).getD i2 0)] = [iv (((allL b).getD 0 []).getD i2 0)]))
 (o6:q6v b ls (((allL b).getD 0 []).length=(stds b).length))
 (o7:q6v b ls (0=(↑((refBT b ls (allL b) 0).1):Int)))
 (o8:q6v b ls (costB b ls ((allL b).getD 0 [])=(refBT b ls (allL b) 0).2))
 (o9:q6v b ls (1=(↑0:Int) + 1))
 (o10:q6v b ls (0 < (allL b).length))
 (o11:q6v b ls (∀ (x5:Nat),q6x b x5 (0<=(x5:Int) + 1)))
 (o12:q6v b ls (∀ (x5:Nat),q6x b x5 ((x5:Int) + 1 < (↑((listsB b ((stds b).length - 0) []).length):Int))))
 (o13:q6v b ls (∀ (x5:Nat),q6x b x5 (((listsB b ((stds b).length - 0) []).getD ((x5:Int) + 1).toNat []).length=((allL b).getD (x5 + 1) []).length)))
 (o14:q6v b ls (∀ (x5:Nat),q6x b x5 (∀ (i7:Nat),i7 < ((allL b).getD (x5 + 1) []).length -> [iv (((listsB b ((stds b).length - 0) []).getD ((x5:Int) + 1).toNat []).getD i7 0)] = [iv (((allL b).getD (x5 + 1) []).getD i7 0)])))
 (o15:q6v b ls (∀ (x5:Nat),q6x b x5 (((allL b).getD (x5 + 1) []).length<=big)))
 (o16:q6v b ls (∀ (x5:Nat),q6y b ls x5 (inI ((x5:Int) + 1 + 1))))
 (o17:q6v b ls (∀ (x5:Nat),q6y b ls x5 ((↑((refBT b ls (allL b) x5).1):Int)=(↑((refBT b ls (allL b) (x5 + 1)).1):Int))))
 (o18:q6v b ls (∀ (x5:Nat),q6y b ls x5 ((refBT b ls (allL b) x5).2=(refBT b ls (allL b) (x5 + 1)).2)))
 (o19:q6v b ls (∀ (x5:Nat),q6y b ls x5 ((x5:Int) + 1 + 1=(↑(x5 + 1):Int) + 1)))
 (o20:q6v b ls (∀ (x5:Nat),q6y b ls x5 (x5 + 1 < (allL b).length)))
 (o21:q6v b ls (∀ (x5:Nat),q6y b ls x5 ((allL b).length - (x5 + 1) < (allL b).length - x5)))
 (o22:q6v b ls (∀ (x5:Nat),q6z b ls x5 (0<=(x5:Int) + 1)))
 (o23:q6v b ls (∀ (x5:Nat),q6z b ls x5 ((x5:Int) + 1 < (↑((listsB b ((stds b).length - 0) []).length):Int))))
 (o24:q6v b ls (∀ (x5:Nat),q6z b ls x5 (((listsB b ((stds b).length - 0) []).getD ((x5:Int) + 1).toNat []).length=((allL b).getD (x5 + 1) []).length)))
 (o25:q6v b ls (∀ (x5:Nat),q6z b ls x5 (∀ (i11:Nat),i11 < ((allL b).getD (x5 + 1) []).length -> [iv (((listsB b ((stds b).length - 0) []).getD ((x5:Int) + 1).toNat []).getD i11 0)] = [iv (((allL b).getD (x5 + 1) []).getD i11 0)])))
 (o26:q6v b ls (∀ (x5:Nat),q6z b ls x5 (((allL b).getD (x5 + 1) []).length=(stds b).length)))
 (o27:q6v b ls (∀ (x5:Nat),q70 b ls x5 (inI ((x5:Int) + 1 + 1))))
 (o28:q6v b ls (∀ (x5:Nat),q70 b ls x5 ((x5:Int) + 1=(↑((refBT b ls (allL b) (x5 + 1)).1):Int))))
 (o29:q6v b ls (∀ (x5:Nat),q70 b ls x5 (costB b ls ((allL b).getD (x5 + 1) [])=(refBT b ls (allL b) (x5 + 1)).2)))
 (o30:q6v b ls (∀ (x5:Nat),q70 b ls x5 ((x5:Int) + 1 + 1=(↑(x5 + 1):Int) + 1)))
 (o31:q6v b ls (∀ (x5:Nat),q70 b ls x5 (x5 + 1 < (allL b).length)))
 (o32:q6v b ls (∀ (x5:Nat),q70 b ls x5 ((allL b).length - (x5 + 1) < (allL b).length - x5)))
 (o33:q6v b ls (∀ (x5:Nat),q71 b ls x5 (inI ((x5:Int) + 1 + 1))))
 (o34:q6v b ls (∀ (x5:Nat),q71 b ls x5 ((↑((refBT b ls (allL b) x5).1):Int)=(↑((refBT b ls (allL b) (x5 + 1)).1):Int))))
 (o35:q6v b ls (∀ (x5:Nat),q71 b ls x5 ((refBT b ls (allL b) x5).2=(refBT b ls (allL b) (x5 + 1)).2)))
 (o36:q6v b ls (∀ (x5:Nat),q71 b ls x5 ((x5:Int) + 1 + 1=(↑(x5 + 1):Int) + 1)))
 (o37:q6v b ls (∀ (x5:Nat),q71 b ls x5 (x5 + 1 < (allL b).length)))
 (o38:q6v b ls (∀ (x5:Nat),q71 b ls x5 ((allL b).length - (x5 + 1) < (allL b).length - x5)))
 (o39:q6v b ls (∀ (x5:Nat),q72 b x5 (0<=(↑((refBT b ls (allL b) x5).1):Int))))
 (o40:q6v b ls (∀ (x5:Nat),q72 b x5 ((↑((refBT b ls (allL b) x5).1):Int) < (↑((listsB b ((stds b).length - 0) []).length):Int))))
 (o41:q6v b ls (∀ (x5:Nat),q72 b x5 (((listsB b ((stds b).length - 0) []).getD (refBT b ls (allL b) x5).1 []).length=(bestB b ls).1.length)))
 (o42:q6v b ls (∀ (x5:Nat),q72 b x5 (∀ (i15:Nat),i15 < (bestB b ls).1.length -> [iv (((listsB b ((stds b).length - 0) []).getD (refBT b ls (allL b) x5).1 []).getD i15 0)] = [iv ((bestB b ls).1.getD i15 0)]))) :
  Triple Tryz.prog 35 (s35 b ls):=by
 refine triple_of Tryz.func35 rfl Tryz.call35 T0_ok _ rfl rfl rfl rfl (Nat.le_of_ble_eq_true (by kernel_rfl)) (fun _ _ _ _ h=>h) ?_
 intro hpre C hC _ hE
 obtain ⟨P,w0,E0,av,hA,ro,df⟩:=C
 obtain ⟨rfl,rfl,rfl⟩:=hC
 refine swp_seq ?_
 refine zR [1,2] [0] (Ak 2 tv) ?_
 refine swp_seq ?_
 refine zC ([(2,CallSpec.eq (s26 b) [true]),(4,CallSpec.eq (c35l b ls) [true,false,true])]) [1,2,5] [0] (Ak 2 (An (An (An (zr (AV.agg (cBk b))) tv) (An (t26 (b)) (An (o0 hpre) (Ak 1 (fun (i0:Env)=>tv))))) (Ak 1 (An (An (An (zr (AV.agg (cBk b))) (An (zr 0) (An (zr (iv (↑((stds b).length):Int))) tv))) (An (t66 (b) ([]) (stds b).length) (An (An hpre.1 (An (o1 hpre) (o2 hpre))) (Ak 1 (fun (i1:Env)=>tv))))) (Ak 1 tv))))) ?_
 refine swp_seq ?_
 refine zC ([(5,CallSpec.eq (c35a b ls) [true,true,false])]) [1,2,5,6,7] [0] (Ak 3 (An (An (by decide:Int.ofNat 0<=Int.ofNat 0) (o3 hpre)) (Ak 1 (An (An (An (zr (AV.agg (cBk b))) (An (zr (aInts ls)) (An (An (zr 1) (An (o4 hpre) (fun (i2:Nat)=>(fun (y3:i2 < ((allL b).getD 0 []).length)=>(o5 hpre i2 y3))))) tv))) (An (t65 (b) (ls) ((allL b).getD 0 [])) (An (An hpre.1 (An hpre.2 (o6 hpre))) (Ak 1 (fun (i4:Env)=>tv))))) (Ak 2 tv))))) ?_
 refine swp_seq ?_
 refine swp_seq ?_
 refine zR [1,2,5,6,7,8] [0] (Ak 1 tv) ?_
 refine swp_block ?_
 refine zL (Hint.ann (h35 b ls) [(1,aInts ls),(2,AV.ptr 0 []),(5,aIntss (listsB b ((stds b).length - 0) []))] [(0,OB.cells 26 (cBk b))] 10136) (zE hE [] [(0,.same 0)] [1,5] [0] (An (An (An (zr (aInts ls)) (zr true)) (An (An (zr (some (Src.same 0))) (zr nilP)) (An (An (zr (aIntss (listsB b ((stds b).length - 0) []))) (zr true)) (An (An (ci (o7 hpre)) (zr nilN)) (An (An (ci (o8 hpre)) (zr nilN)) (An (An (ci (o9 hpre)) (zr nilN)) tv)))))) (An (An (An (zr (OB.cells 26 (cBk b))) (zr true)) tv) (An (zr true) (zr true))))) (o10 hpre) (fun (x5:Nat) hx5 => ?_)
 refine swp_seq ?_
 refine swp_seq ?_
 refine zR [1,2,5,6,7,8,24] [0] (Ak 4 tv) ?_
 refine zI (decide ((x5:Int) + 1 < (↑((listsB b ((stds b).length - 0) []).length):Int))) (fun y6 => ?_) (fun y6 => ?_)
 ·refine swp_skip ?_
  refine swp_seq ?_
  refine swp_block ?_
  refine swp_seq ?_
  refine swp_seq ?_
  refine zC ([(6,CallSpec.eq (c35b b ls x5) [true,true,false])]) [1,2,5,6,7,8,34] [0] (Ak 4 (An (An (o11 hpre x5 hx5 y6) (o12 hpre x5 hx5 y6)) (Ak 1 (An (An (An (zr (AV.agg (cBk b))) (An (zr (aInts ls)) (An (An (zr 1) (An (o13 hpre x5 hx5 y6) (fun (i7:Nat)=>(fun (y8:i7 < ((allL b).getD (x5 + 1) []).length)=>(o14 hpre x5 hx5 y6 i7 y8))))) tv))) (An (t67 (b) (ls) ((allL b).getD (x5 + 1) [])) (An (An hpre.1 (An hpre.2 (o15 hpre x5 hx5 y6))) (Ak 1 (fun (i9:Env)=>tv))))) (Ak 1 tv))))) ?_
  refine zI (!isBillB b ls ((allL b).getD (x5 + 1) [])) (fun y10 => ?_) (fun y10 => ?_)
  ·refine swp_exit ?_
   refine zR [1,2,5,6,7,8] [0] (Ak 1 (An (o16 hpre x5 hx5 y6 y10) (Ak 1 tv))) ?_
   exact zn (zE hE [] [(0,.same 0)] [1,5] [0] (An (An (An (zr (aInts ls)) (zr true)) (An (An (zr (some (Src.same 0))) (zr nilP)) (An (An (zr (aIntss (listsB b ((stds b).length - 0) []))) (zr true)) (An (An (ci (o17 hpre x5 hx5 y6 y10)) (zr nilN)) (An (An (ci (o18 hpre x5 hx5 y6 y10)) (zr nilN)) (An (An (ci (o19 hpre x5 hx5 y6 y10)) (zr nilN)) tv)))))) (An (An (An (zr (OB.cells 26 (cBk b))) (zr true)) tv) (An (zr true) (zr true))))) (o20 hpre x5 hx5 y6 y10) (o21 hpre x5 hx5 y6 y10)
  ·refine swp_skip ?_
   refine swp_seq ?_
   refine zC ([(6,CallSpec.eq (c35c b ls x5) [true,true,false])]) [1,2,5,6,7,8,9] [0] (Ak 4 (An (An (o22 hpre x5 hx5 y6 y10) (o23 hpre x5 hx5 y6 y10)) (Ak 1 (An (An (An (zr (AV.agg (cBk b))) (An (zr (aInts ls)) (An (An (zr 1) (An (o24 hpre x5 hx5 y6 y10) (fun (i11:Nat)=>(fun (y12:i11 < ((allL b).getD (x5 + 1) []).length)=>(o25 hpre x5 hx5 y6 y10 i11 y12))))) tv))) (An (t65 (b) (ls) ((allL b).getD (x5 + 1) [])) (An (An hpre.1 (An hpre.2 (o26 hpre x5 hx5 y6 y10))) (Ak 1 (fun (i13:Env)=>tv))))) (Ak 1 tv))))) ?_
   refine swp_seq ?_
   refine zR [1,2,5,6,7,8,9,44] [0] (Ak 3 tv) ?_
   refine zI (decide (costB b ls ((allL b).getD (x5 + 1) []) < (refBT b ls (allL b) x5).2)) (fun y14 => ?_) (fun y14 => ?_)
   ·refine zR [1,2,5,6,7,8] [0] (Ak 4 tv) ?_
    refine zR [1,2,5,6,7,8] [0] (Ak 1 (An (o27 hpre x5 hx5 y6 y10 y14) (Ak 1 tv))) ?_
    exact zn (zE hE [] [(0,.same 0)] [1,5] [0] (An (An (An (zr (aInts ls)) (zr true)) (An (An (zr (some (Src.same 0))) (zr nilP)) (An (An (zr (aIntss (listsB b ((stds b).length - 0) []))) (zr true)) (An (An (ci (o28 hpre x5 hx5 y6 y10 y14)) (zr nilN)) (An (An (ci (o29 hpre x5 hx5 y6 y10 y14)) (zr nilN)) (An (An (ci (o30 hpre x5 hx5 y6 y10 y14)) (zr nilN)) tv)))))) (An (An (An (zr (OB.cells 26 (cBk b))) (zr true)) tv) (An (zr true) (zr true))))) (o31 hpre x5 hx5 y6 y10 y14) (o32 hpre x5 hx5 y6 y10 y14)
   ·refine swp_skip ?_
    refine zR [1,2,5,6,7,8] [0] (Ak 1 (An (o33 hpre x5 hx5 y6 y10 y14) (Ak 1 tv))) ?_
    exact zn (zE hE [] [(0,.same 0)] [1,5] [0] (An (An (An (zr (aInts ls)) (zr true)) (An (An (zr (some (Src.same 0))) (zr nilP)) (An (An (zr (aIntss (listsB b ((stds b).length - 0) []))) (zr true)) (An (An (ci (o34 hpre x5 hx5 y6 y10 y14)) (zr nilN)) (An (An (ci (o35 hpre x5 hx5 y6 y10 y14)) (zr nilN)) (An (An (ci (o36 hpre x5 hx5 y6 y10 y14)) (zr nilN)) tv)))))) (An (An (An (zr (OB.cells 26 (cBk b))) (zr true)) tv) (An (zr true) (zr true))))) (o37 hpre x5 hx5 y6 y10 y14) (o38 hpre x5 hx5 y6 y10 y14)
 ·refine swp_exit ?_
  refine swp_seq ?_
  refine zR [4] [] (Ak 2 (An (An (o39 hpre x5 hx5 y6) (o40 hpre x5 hx5 y6)) (Ak 2 tv))) ?_
  refine swp_ret ?_
  exact zT [] (An (Ak 1 tv) (An (An (zr 1) (An (o41 hpre x5 hx5 y6) (fun (i15:Nat)=>(fun (y16:i15 < (bestB b ls).1.length)=>(o42 hpre x5 hx5 y6 i15 y16))))) (An (zr true) (An (zr true) (zr true)))))
theorem allL_item {b:Book} {k:Nat} (h:k < (allL b).length):((allL b).getD k []).length=(stds b).length:=by
 have:=lists_len (stds b).length [] _ (getD_mem (allL b) [] h)
 simpa using this
theorem allL_len {b:Book} (hs:SoundB b):(allL b).length<=4096:=by
 have h1:=listsB_len (b:=b) (stds b).length []
 have h2:=pow_small hs (stds_small hs)
 show (listsB b (stds b).length []).length<=4096
 omega
theorem t35 (b:Book) (ls:List Int):Triple Tryz.prog 35 (s35 b ls):=by
  apply w35
  all_goals (try delta q6v q6w q6x q6y q6z q70 q71 q72)
  all_goals (rintro ⟨hs,hg⟩; have hst:=stds_small hs; obtain ⟨r1,r2,r3,r4⟩:=ref_bill hs hg (L:=allL b) rfl; have hll:=allL_len hs)
  all_goals (have hL:listsB b ((stds b).length - 0) []=allL b:=rfl; have hbg:(100000:Nat)<=big:=by decide)
  all_goals (try rw [hL])
  case o0=>exact sound_smallB hs
  case o5=>intro i _; rfl
  case o6=>exact allL_item r1
  case o8=>rfl
  all_goals (try (first | omega | rfl))
  all_goals (intro x hx hl; simp only [decide_eq_true_eq,decide_eq_false_iff_not] at hl)
  all_goals (have hst2:refBT b ls (allL b) (x + 1)=if isBillB b ls ((allL b).getD (x + 1) []) && decide (costB b ls ((allL b).getD (x + 1) []) < (refBT b ls (allL b) x).2) then (x + 1,costB b ls ((allL b).getD (x + 1) [])) else refBT b ls (allL b) x:=rfl)
  all_goals (have hrt:=ref_to hs hg (L:=allL b) rfl x (by omega))
  case o40=>have:=hrt.1; omega
  case o41 => have e : x = (allL b).length - 1 := by omega
              rw [e,r3]
  case o42 => have e : x = (allL b).length - 1 := by omega
              intro i _; rw [e,r3]
  all_goals (try omega)
  all_goals (try (have hit:=allL_item (b:=b) (k:=x + 1) (by omega)))
  all_goals (have htn:((x:Int) + 1).toNat=x + 1:=by omega; try rw [htn])
  all_goals (try (first | omega | rfl | (intro i _; rfl)))
  all_goals (intro hb; simp only [Bool.not_eq_true',Bool.not_eq_false'] at hb)
  all_goals (try (first | omega | rfl | (intro i _; rfl) | (simp only [inI]; omega)))
  case o17=>rw [hst2,hb]; rfl
  case o18=>rw [hst2,hb]; rfl
  all_goals (intro hc)
  all_goals (try (first | omega | rfl | (simp only [inI]; omega)))
  all_goals (rw [hst2,hb,hc]; first | rfl | (simp only [Bool.and_self,if_true]; rfl) | simp)
theorem w34 (b:Book) (ls:List Int)
  (o0:SoundB b/\GoodLn b ls->(bestB b ls).1.length=(stds b).length)
  (o1:SoundB b/\GoodLn b ls->costB b ls (bestB b ls).1=(bestB b ls).2) :
  Triple Tryz.prog 34 (s34 b ls):=by
 refine triple_of Tryz.func34 rfl Tryz.call34 T0_ok _ rfl rfl rfl rfl (Nat.le_of_ble_eq_true (by kernel_rfl)) (fun _ _ _ _ h=>h) ?_
 intro hpre C hC _ hE
 obtain ⟨P,w0,E0,av,hA,ro,df⟩:=C
 obtain ⟨rfl,rfl,rfl⟩:=hC
 refine swp_seq ?_
 refine zR [1,2] [0] (Ak 2 tv) ?_
 refine swp_seq ?_
 refine zC ([(4,CallSpec.eq (s35 b ls) [true,true]),(5,CallSpec.eq (c34 b ls) [true,true,true])]) [4] [] (Ak 4 (An (An (An (zr (AV.agg (cBk b))) (An (zr (aInts ls)) tv)) (An (t35 (b) (ls)) (An (An hpre.1 hpre.2) (Ak 1 (fun (i0:Env)=>tv))))) (An (An (An (zr (AV.agg (cBk b))) (An (zr (aInts ls)) (An (zr (aInts (bestB b ls).1)) tv))) (An (t65 (b) (ls) (bestB b ls).1) (An (An hpre.1 (An hpre.2 (o0 hpre))) (Ak 1 (fun (i1:Env)=>tv))))) (Ak 1 tv)))) ?_
 refine swp_ret ?_
 exact zT [] (An (Ak 1 tv) (An (An (ci (o1 hpre)) (zr nilN)) (An (zr true) (An (zr true) (zr true)))))
theorem t34 (b:Book) (ls:List Int):Triple Tryz.prog 34 (s34 b ls):=by
 apply w34
 all_goals (rintro ⟨hs,hg⟩; have hb:=best_is hs hg)
 case o0=>exact (bill_ok.1 hb.bill).1
 case o1=>exact hb.cost.symm
abbrev q73 (b:Book) (P:Prop):Prop:=SoundB b->P
abbrev q74 (b:Book) (x0:Nat) (P:Prop):Prop:=x0<=b.lines.length->P
abbrev q75 (b:Book) (x0:Nat) (P:Prop):Prop:=q74 b x0 (decide ((x0:Int) < (↑(b.lines.length):Int))=true->P)
abbrev q76 (b:Book) (x0:Nat) (P:Prop):Prop:=q74 b x0 (decide ((x0:Int) < (↑(b.lines.length):Int))=false->P)
theorem w78 (b:Book)
 (o0:q73 b (0=(↑0:Int)))
 (o1:q73 b ((List.take 0 (lowsB b)).length=0))
 (o2:q73 b ((List.take 0 (highsB b)).length=0))
 (o3:q73 b (0<=List.length (Book.lines b)))
 (o4:q73 b (∀ (x0:Nat),q75 b x0 (0<=(x0:Int))))
 (o5:q73 b (∀ (x0:Nat),q75 b x0 ((x0:Int) < (↑(b.lines.length):Int))))
 (o6:q73 b (∀ (x0:Nat),q75 b x0 ((List.take x0 (lowsB b)).length + 1<=65536)))
 (o7:q73 b (∀ (x0:Nat),q75 b x0 (0<=(x0:Int))))
 (o8:q73 b (∀ (x0:Nat),q75 b x0 ((x0:Int) < (↑(b.lines.length):Int))))
 (o9:q73 b (∀ (x0:Nat),q75 b x0 ((List.take x0 (highsB b)).length + 1<=65536)))
 (o10:q73 b (∀ (x0:Nat),q75 b x0 (inI ((x0:Int) + 1))))
 (o11:q73 b (∀ (x0:Nat),q75 b x0 ((x0:Int) + 1=(↑(x0 + 1):Int))))
 (o12:q73 b (∀ (x0:Nat),q75 b x0 ((List.take x0 (lowsB b)).length + 1=(List.take (x0 + 1) (lowsB b)).length)))
 (o13:q73 b (∀ (x0:Nat),q75 b x0 (∀ (i2:Nat),i2 < (List.take x0 (lowsB b)).length + 1->catF (List.take x0 (lowsB b)).length (fun (i:Nat)=>[iv ((List.take x0 (lowsB b)).getD i 0)]) (fun (j:Nat)=>List.getD [[iv (lnB b x0).lo]] j (TI.za ti3)) i2 = [iv ((List.take (x0 + 1) (lowsB b)).getD i2 0)])))
 (o14:q73 b (∀ (x0:Nat),q75 b x0 ((List.take x0 (highsB b)).length + 1=(List.take (x0 + 1) (highsB b)).length)))
 (o15:q73 b (∀ (x0:Nat),q75 b x0 (∀ (i4:Nat),i4 < (List.take x0 (highsB b)).length + 1->catF (List.take x0 (highsB b)).length (fun (i:Nat)=>[iv ((List.take x0 (highsB b)).getD i 0)]) (fun (j:Nat)=>List.getD [[iv (lnB b x0).hi]] j (TI.za ti3)) i4 = [iv ((List.take (x0 + 1) (highsB b)).getD i4 0)])))
 (o16:q73 b (∀ (x0:Nat),q75 b x0 (x0 + 1<=b.lines.length)))
 (o17:q73 b (∀ (x0:Nat),q75 b x0 (b.lines.length - (x0 + 1) < b.lines.length - x0)))
 (o18:q73 b (∀ (x0:Nat),q76 b x0 ((List.take x0 (lowsB b)).length=(lowsB b).length)))
 (o19:q73 b (∀ (x0:Nat),q76 b x0 (∀ (i6:Nat),i6 < (lowsB b).length -> [iv ((List.take x0 (lowsB b)).getD i6 0)] = [iv ((lowsB b).getD i6 0)])))
 (o20:q73 b (∀ (x0:Nat),q76 b x0 ((List.take x0 (highsB b)).length=(highsB b).length)))
 (o21:q73 b (∀ (x0:Nat),q76 b x0 (∀ (i8:Nat),i8 < (highsB b).length -> [iv ((List.take x0 (highsB b)).getD i8 0)] = [iv ((highsB b).getD i8 0)]))) :
  Triple Tryz.prog 78 (s78 b):=by
 refine triple_of Tryz.func78 rfl Tryz.call78 T0_ok _ rfl rfl rfl rfl (Nat.le_of_ble_eq_true (by kernel_rfl)) (fun _ _ _ _ h=>h) ?_
 intro hpre C hC _ hE
 obtain ⟨P,w0,E0,av,hA,ro,df⟩:=C
 obtain ⟨rfl,rfl,rfl⟩:=hC
 refine swp_seq ?_
 refine zR [1,2,3] [0] (Ak 3 tv) ?_
 refine swp_seq ?_
 refine swp_seq ?_
 refine zR [1,2,3,4] [0] (Ak 1 tv) ?_
 refine swp_block ?_
 refine zL (Hint.ann (h78 b) [(1,AV.ptr 0 [])] [(0,OB.cells 26 (cBk b))] 10032) (zE hE [] [(0,.same 0),(5000,.nil),(5001,.nil)] [] [0] (An (An (An (zr (some (Src.same 0))) (zr nilP)) (An (zr (some Src.nil)) (An (zr (some Src.nil)) (An (An (ci (o0 hpre)) (zr nilN)) tv)))) (An (An (An (zr (OB.cells 26 (cBk b))) (zr true)) (An (o1 hpre) (An (o2 hpre) tv))) (An (zr true) (zr true))))) (o3 hpre) (fun (x0:Nat) hx0 => ?_)
 refine swp_seq ?_
 refine swp_seq ?_
 refine zR [1,2,3,4,9] [0,5000,5001] (Ak 5 tv) ?_
 refine zI (decide ((x0:Int) < (↑(b.lines.length):Int))) (fun y1 => ?_) (fun y1 => ?_)
 ·refine swp_skip ?_
  refine swp_seq ?_
  refine swp_block ?_
  refine zR [1,2,3,4] [0,10136,10208] (Ak 4 (An (An (o4 hpre x0 hx0 y1) (o5 hpre x0 hx0 y1)) (Ak 3 (An (o6 hpre x0 hx0 y1) (Ak 4 (An (An (o7 hpre x0 hx0 y1) (o8 hpre x0 hx0 y1)) (Ak 3 (An (o9 hpre x0 hx0 y1) (Ak 2 tv))))))))) ?_
  refine zR [1,2,3,4] [0,10136,10208] (Ak 1 (An (o10 hpre x0 hx0 y1) (Ak 1 tv))) ?_
  exact zn (zE hE [] [(0,.same 0),(5000,.same 10136),(5001,.same 10208)] [] [0] (An (An (An (zr (some (Src.same 0))) (zr nilP)) (An (zr (some (Src.same 10136))) (An (zr (some (Src.same 10208))) (An (An (ci (o11 hpre x0 hx0 y1)) (zr nilN)) tv)))) (An (An (An (zr (OB.cells 26 (cBk b))) (zr true)) (An (An (zr 3) (An (zr 1) (An (o12 hpre x0 hx0 y1) (fun (i2:Nat)=>(fun (y3:i2 < (List.take x0 (lowsB b)).length + 1)=>(o13 hpre x0 hx0 y1 i2 y3)))))) (An (An (zr 3) (An (zr 1) (An (o14 hpre x0 hx0 y1) (fun (i4:Nat)=>(fun (y5:i4 < (List.take x0 (highsB b)).length + 1)=>(o15 hpre x0 hx0 y1 i4 y5)))))) tv))) (An (zr true) (zr true))))) (o16 hpre x0 hx0 y1) (o17 hpre x0 hx0 y1)
 ·refine swp_exit ?_
  refine swp_seq ?_
  refine zR [2,3] [5000,5001] (Ak 4 tv) ?_
  refine swp_ret ?_
  exact zT [5000,5001] (An (Ak 2 tv) (An (An (An (zr 1) (An (o18 hpre x0 hx0 y1) (fun (i6:Nat)=>(fun (y7:i6 < (lowsB b).length)=>(o19 hpre x0 hx0 y1 i6 y7))))) (An (An (zr 1) (An (o20 hpre x0 hx0 y1) (fun (i8:Nat)=>(fun (y9:i8 < (highsB b).length)=>(o21 hpre x0 hx0 y1 i8 y9))))) tv)) (An (zr true) (An (zr true) (zr true)))))
theorem t78 (b:Book):Triple Tryz.prog 78 (s78 b):=by
 apply w78
 all_goals (try delta q73 q74 q75 q76)
 all_goals (intro hs; have hln:=hs.lines; have hll:=lows_len b; have hhl:=highs_len b)
 case o0 | o1 | o2=>all_goals rfl
 case o3=>omega
 all_goals (intro x hx hxl; simp only [decide_eq_true_eq,decide_eq_false_iff_not] at hxl)
 case o6 | o9=>all_goals (rw [List.length_take]; omega)
 case o12 | o14=>all_goals (rw [List.length_take,List.length_take]; omega)
 case o13 =>
  rw [take_succ _ 0 (by rw [lows_len]; omega)]
  exact snoc_cat 0 (fun n=>[iv n]) _ _ (by rw [lows_get (by omega)]; rfl)
 case o15 =>
  rw [take_succ _ 0 (by rw [highs_len]; omega)]
  exact snoc_cat 0 (fun n=>[iv n]) _ _ (by rw [highs_get (by omega)]; rfl)
 case o18=>rw [List.take_of_length_le (by rw [lows_len]; omega)]
 case o20=>rw [List.take_of_length_le (by rw [highs_len]; omega)]
 case o19=>rw [List.take_of_length_le (by rw [lows_len]; omega)]; intro i _; rfl
 case o21=>rw [List.take_of_length_le (by rw [highs_len]; omega)]; intro i _; rfl
 all_goals (first | omega | rfl | (simp only [inI]; omega))
theorem w45 (b:Book)
  (o0:SoundB b->GoodLn b (lowsB b))
  (o1:SoundB b->GoodLn b (highsB b))
  (o2:SoundB b->(bestB b (lowsB b)).2=(owedB b).lo)
  (o3:SoundB b->(bestB b (highsB b)).2=(owedB b).hi) :
  Triple Tryz.prog 45 (s45 b):=by
 refine triple_of Tryz.func45 rfl Tryz.call45 T0_ok _ rfl rfl rfl rfl (Nat.le_of_ble_eq_true (by kernel_rfl)) (fun _ _ _ _ h=>h) ?_
 intro hpre C hC _ hE
 obtain ⟨P,w0,E0,av,hA,ro,df⟩:=C
 obtain ⟨rfl,rfl,rfl⟩:=hC
 refine swp_seq ?_
 refine zR [1,2] [0,8] (Ak 2 tv) ?_
 refine swp_seq ?_
 refine zC ([(1,CallSpec.eq (s78 b) [true])]) [1,2,3,4] [0,8] (Ak 1 (An (An (An (zr (AV.agg (cBk b))) tv) (An (t78 (b)) (An hpre (Ak 1 (fun (i0:Env)=>tv))))) (Ak 5 tv))) ?_
 refine swp_seq ?_
 refine zC ([(2,CallSpec.eq (s34 b (lowsB b)) [true,true]),(5,CallSpec.eq (s34 b (highsB b)) [true,true])]) [2] [8] (Ak 2 (An (An (An (zr (AV.agg (cBk b))) (An (zr (aInts (lowsB b))) tv)) (An (t34 (b) (lowsB b)) (An (An hpre (o0 hpre)) (Ak 1 (fun (i1:Env)=>tv))))) (Ak 2 (An (An (An (zr (AV.agg (cBk b))) (An (zr (aInts (highsB b))) tv)) (An (t34 (b) (highsB b)) (An (An hpre (o1 hpre)) (Ak 1 (fun (i2:Env)=>tv))))) (Ak 2 tv))))) ?_
 refine swp_ret ?_
 exact zT [] (An (Ak 1 tv) (An (An (An (ci (o2 hpre)) (zr nilN)) (An (An (ci (o3 hpre)) (zr nilN)) tv)) (An (zr true) (An (zr true) (zr true)))))
theorem t45 (b:Book):Triple Tryz.prog 45 (s45 b):=by
 apply w45
 all_goals (intro hs; first | exact lows_good hs | exact highs_good hs | rfl)
abbrev q77 (b:Book) (P:Prop):Prop:=fitsB b->(!decide (checkB b=0))=false->P
theorem w19 (b:Book)
 (o0:fitsB b->(!decide (checkB b=0))=true->0=(owedN b).lo)
 (o1:fitsB b->(!decide (checkB b=0))=true->0=(owedN b).hi)
 (o2:q77 b (SoundB b))
 (o3:q77 b ((owedB b).lo=(owedN b).lo))
 (o4:q77 b ((owedB b).hi=(owedN b).hi))
 (o5:q77 b (0=checkB b)) :
  Triple Tryz.prog 19 (s19 b):=by
 refine triple_of Tryz.func19 rfl Tryz.call19 T0_ok _ rfl rfl rfl rfl (Nat.le_of_ble_eq_true (by kernel_rfl)) (fun _ _ _ _ h=>h) ?_
 intro hpre C hC _ hE
 obtain ⟨P,w0,E0,av,hA,ro,df⟩:=C
 obtain ⟨rfl,rfl,rfl⟩:=hC
 refine swp_seq ?_
 refine zR [1,2] [0,8] (Ak 3 tv) ?_
 refine swp_seq ?_
 refine swp_seq ?_
 refine zC ([(1,CallSpec.eq (s25 b) [true])]) [1,2,4] [0,8] (Ak 1 (An (An (An (zr (AV.agg (cBk b))) tv) (An (t25 (b)) (An hpre (Ak 1 (fun (i0:Env)=>tv))))) (Ak 1 tv))) ?_
 refine swp_seq ?_
 refine zR [1,2,4,8] [0,8] (Ak 2 tv) ?_
 refine zI (!decide (checkB b=0)) (fun y1 => ?_) (fun y1 => ?_)
 ·refine swp_seq ?_
  refine zR [2,3] [8] (Ak 4 tv) ?_
  refine swp_ret ?_
  exact zT [] (An (Ak 2 tv) (An (An (An (An (ci (o0 hpre y1)) (zr nilN)) (An (An (ci (o1 hpre y1)) (zr nilN)) tv)) (An (An (zr (iv (checkB b))) (zr nilN)) tv)) (An (zr true) (An (zr true) (zr true)))))
 ·refine swp_skip ?_
  refine swp_seq ?_
  refine zC ([(1,CallSpec.eq (s45 b) [true])]) [2,3] [8] (Ak 1 (An (An (An (zr (AV.agg (cBk b))) tv) (An (t45 (b)) (An (o2 hpre y1) (Ak 1 (fun (i2:Env)=>tv))))) (Ak 2 tv))) ?_
  refine swp_ret ?_
  exact zT [] (An (Ak 2 tv) (An (An (An (An (ci (o3 hpre y1)) (zr nilN)) (An (An (ci (o4 hpre y1)) (zr nilN)) tv)) (An (An (ci (o5 hpre y1)) (zr nilN)) tv)) (An (zr true) (An (zr true) (zr true)))))
theorem t19 (b:Book):Triple Tryz.prog 19 (s19 b):=by
 apply w19
 all_goals (try delta q77)
 all_goals (first | (intro hp h; rw [chk_b] at h; skip) | (intro hp; exact hp))
 all_goals (try (simp only [Bool.not_eq_true'] at h; unfold owedN; rw [h]; rfl))
 all_goals (simp only [Bool.not_eq_false'] at h)
 all_goals (first | exact ok_soundB h | (unfold owedN; rw [h]; rfl) | (unfold checkB; rw [h]; rfl))
abbrev q78 (b:Book) (first:List Int) (P:Prop):Prop:=SoundB b/\first.length<=b.lines.length->P
abbrev q79 (b:Book) (first:List Int) (P:Prop):Prop:=q78 b first (decide ((↑(first.length):Int)=(↑(b.lines.length):Int))=false->P)
abbrev q7a (b:Book) (first:List Int) (x3:Nat) (P:Prop):Prop:=x3<=lnN b first.length->P
abbrev q7b (b:Book) (first:List Int) (x3:Nat) (P:Prop):Prop:=q7a b first x3 (decide ((lnB b first.length).lo + (x3:Int)<=(lnB b first.length).hi)=true->P)
theorem w48 (b:Book) (first:List Int)
 (o0:q78 b first (decide ((↑(first.length):Int)=(↑(b.lines.length):Int))=true->1=(truthsB b (b.lines.length - first.length) first).length))
 (o1:q78 b first (decide ((↑(first.length):Int)=(↑(b.lines.length):Int))=true -> ∀ (i1:Nat),i1 < (truthsB b (b.lines.length - first.length) first).length->List.getD [[AV.sl 1 first.length fun (i:Nat)=>[iv (first.getD i 0)]]] i1 (TI.za ti27) = [aInts ((truthsB b (b.lines.length - first.length) first).getD i1 [])]))
 (o2:q79 b first (0<=(↑(first.length):Int)))
 (o3:q79 b first ((↑(first.length):Int) < (↑(b.lines.length):Int)))
 (o4:q79 b first ((lnB b first.length).lo=(lnB b first.length).lo + (↑0:Int)))
 (o5:q79 b first ((truthsTo b first (b.lines.length - first.length - 1) 0).length=0))
 (o6:q79 b first (0<=lnN b first.length))
 (o7:q79 b first (∀ (x3:Nat),q7b b first x3 (0 + first.length<=65536)))
 (o8:q79 b first (∀ (x3:Nat),q7b b first x3 (0 + first.length + 1<=65536)))
 (o9:q79 b first (∀ (x3:Nat),q7b b first x3 (0 + first.length + 1=(first ++ [(lnB b first.length).lo + (x3:Int)]).length)))
 (o10:q79 b first (∀ (x3:Nat),q7b b first x3 (∀ (i5:Nat),i5 < (first ++ [(lnB b first.length).lo + (x3:Int)]).length->catF (0 + first.length) (fun (i:Nat)=>[iv (first.getD i 0)]) (fun (j:Nat)=>List.getD [[iv ((lnB b first.length).lo + (x3:Int))]] j (TI.za ti3)) i5 = [iv ((first ++ [(lnB b first.length).lo + (x3:Int)]).getD i5 0)])))
 (o11:q79 b first (∀ (x3:Nat),q7b b first x3 (Triple Tryz.prog 48 (c48 b first x3))))
 (o12:q79 b first (∀ (x3:Nat),q7b b first x3 ((first ++ [(lnB b first.length).lo + (x3:Int)]).length<=b.lines.length)))
 (o13:q79 b first (∀ (x3:Nat),q7b b first x3 ((truthsTo b first (b.lines.length - first.length - 1) x3).length + (truthsB b (b.lines.length - (first ++ [(lnB b first.length).lo + (x3:Int)]).length) (first ++ [(lnB b first.length).lo + (x3:Int)])).length<=65536)))
 (o14:q79 b first (∀ (x3:Nat),q7b b first x3 (inI ((lnB b first.length).lo + (x3:Int) + 1))))
 (o15:q79 b first (∀ (x3:Nat),q7b b first x3 ((lnB b first.length).lo + (x3:Int) + 1=(lnB b first.length).lo + (↑(x3 + 1):Int))))
 (o16:q79 b first (∀ (x3:Nat),q7b b first x3 ((truthsTo b first (b.lines.length - first.length - 1) x3).length + (truthsB b (b.lines.length - (first ++ [(lnB b first.length).lo + (x3:Int)]).length) (first ++ [(lnB b first.length).lo + (x3:Int)])).length=(truthsTo b first (b.lines.length - first.length - 1) (x3 + 1)).length)))
 (o17:q79 b first (∀ (x3:Nat),q7b b first x3 (∀ (i8:Nat),i8 < (truthsTo b first (b.lines.length - first.length - 1) x3).length + (truthsB b (b.lines.length - (first ++ [(lnB b first.length).lo + (x3:Int)]).length) (first ++ [(lnB b first.length).lo + (x3:Int)])).length->catF (truthsTo b first (b.lines.length - first.length - 1) x3).length (fun (i:Nat)=>[aInts ((truthsTo b first (b.lines.length - first.length - 1) x3).getD i [])]) (fun (i:Nat)=>[aInts ((truthsB b (b.lines.length - (first ++ [(lnB b first.length).lo + (x3:Int)]).length) (first ++ [(lnB b first.length).lo + (x3:Int)])).getD i [])]) i8 = [aInts ((truthsTo b first (b.lines.length - first.length - 1) (x3 + 1)).getD i8 [])])))
 (o18:q79 b first (∀ (x3:Nat),q7b b first x3 (x3 + 1<=lnN b first.length)))
 (o19:q79 b first (∀ (x3:Nat),q7b b first x3 (lnN b first.length - (x3 + 1) < lnN b first.length - x3)))
 (o20:q79 b first (∀ (x3:Nat),q7a b first x3 (decide ((lnB b first.length).lo + (x3:Int)<=(lnB b first.length).hi)=false->(truthsTo b first (b.lines.length - first.length - 1) x3).length=(truthsB b (b.lines.length - first.length) first).length)))
 (o21:q79 b first (∀ (x3:Nat),q7a b first x3 (decide ((lnB b first.length).lo + (x3:Int)<=(lnB b first.length).hi)=false -> ∀ (i10:Nat),i10 < (truthsB b (b.lines.length - first.length) first).length -> [aInts ((truthsTo b first (b.lines.length - first.length - 1) x3).getD i10 [])] = [aInts ((truthsB b (b.lines.length - first.length) first).getD i10 [])]))) :
  Triple Tryz.prog 48 (s48 b first):=by
 refine triple_of Tryz.func48 rfl Tryz.call48 T0_ok _ rfl rfl rfl rfl (Nat.le_of_ble_eq_true (by kernel_rfl)) (fun _ _ _ _ h=>h) ?_
 intro hpre C hC _ hE
 obtain ⟨P,w0,E0,av,hA,ro,df⟩:=C
 obtain ⟨rfl,rfl,rfl⟩:=hC
 refine swp_seq ?_
 refine zR [1,2] [0] (Ak 2 tv) ?_
 refine swp_seq ?_
 refine swp_seq ?_
 refine zR [1,2,13] [0] (Ak 6 tv) ?_
 refine zI (decide ((↑(first.length):Int)=(↑(b.lines.length):Int))) (fun y0 => ?_) (fun y0 => ?_)
 ·refine swp_seq ?_
  refine zR [4] [72] (Ak 3 tv) ?_
  refine swp_ret ?_
  exact zT [72] (An (Ak 1 tv) (An (An (zr 1) (An (o0 hpre y0) (fun (i1:Nat)=>(fun (y2:i1 < (truthsB b (b.lines.length - first.length) first).length)=>(o1 hpre y0 i1 y2))))) (An (zr true) (An (zr true) (zr true)))))
 ·refine swp_skip ?_
  refine swp_seq ?_
  refine zR [1,2,5] [0] (Ak 1 tv) ?_
  refine swp_seq ?_
  refine zR [1,2,5,6] [0,120] (Ak 4 (An (An (o2 hpre y0) (o3 hpre y0)) (Ak 3 tv))) ?_
  refine swp_seq ?_
  refine swp_seq ?_
  refine zR [1,2,5,6,7] [0,120] (Ak 3 tv) ?_
  refine swp_block ?_
  refine zL (Hint.ann (h48 b first) [(1,aInts first),(2,AV.ptr 0 []),(6,AV.ptr 120 [])] [(0,OB.cells 26 (cBk b)),(120,OB.cells 41 (cSpan (lnB b first.length)))] 10160) (zE hE [] [(0,.same 0),(120,.same 120),(5000,.nil)] [1] [0,120] (An (An (An (zr (aInts first)) (zr true)) (An (An (zr (some (Src.same 0))) (zr nilP)) (An (An (zr (some (Src.same 120))) (zr nilP)) (An (zr (some Src.nil)) (An (An (ci (o4 hpre y0)) (zr nilN)) tv))))) (An (An (An (zr (OB.cells 26 (cBk b))) (zr true)) (An (An (zr (OB.cells 41 (cSpan (lnB b first.length)))) (zr true)) (An (o5 hpre y0) tv))) (An (zr true) (zr true))))) (o6 hpre y0) (fun (x3:Nat) hx3 => ?_)
  refine swp_seq ?_
  refine swp_seq ?_
  refine zR [1,2,6,5,7,27] [0,120,5000] (Ak 4 tv) ?_
  refine zI (decide ((lnB b first.length).lo + (x3:Int)<=(lnB b first.length).hi)) (fun y4 => ?_) (fun y4 => ?_)
  ·refine swp_skip ?_
   refine swp_seq ?_
   refine swp_block ?_
   refine zC ([(8,CallSpec.eq (c48 b first x3) [true,false])]) [1,2,6,5,7] [0,120,10264] (Ak 4 (An (o7 hpre y0 x3 hx3 y4) (Ak 2 (An (o8 hpre y0 x3 hx3 y4) (An (An (An (zr (AV.agg (cBk b))) (An (An (zr 1) (An (o9 hpre y0 x3 hx3 y4) (fun (i5:Nat)=>(fun (y6:i5 < (first ++ [(lnB b first.length).lo + (x3:Int)]).length)=>(o10 hpre y0 x3 hx3 y4 i5 y6))))) tv)) (An (o11 hpre y0 x3 hx3 y4) (An (An hpre.1 (o12 hpre y0 x3 hx3 y4)) (Ak 1 (fun (i7:Env)=>tv))))) (An (o13 hpre y0 x3 hx3 y4) (Ak 1 tv))))))) ?_
   refine zR [1,2,6,5,7] [0,120,10264] (Ak 1 (An (o14 hpre y0 x3 hx3 y4) (Ak 1 tv))) ?_
   exact zn (zE hE [] [(0,.same 0),(120,.same 120),(5000,.same 10264)] [1] [0,120] (An (An (An (zr (aInts first)) (zr true)) (An (An (zr (some (Src.same 0))) (zr nilP)) (An (An (zr (some (Src.same 120))) (zr nilP)) (An (zr (some (Src.same 10264))) (An (An (ci (o15 hpre y0 x3 hx3 y4)) (zr nilN)) tv))))) (An (An (An (zr (OB.cells 26 (cBk b))) (zr true)) (An (An (zr (OB.cells 41 (cSpan (lnB b first.length)))) (zr true)) (An (An (zr 27) (An (zr 1) (An (o16 hpre y0 x3 hx3 y4) (fun (i8:Nat)=>(fun (y9:i8 < (truthsTo b first (b.lines.length - first.length - 1) x3).length + (truthsB b (b.lines.length - (first ++ [(lnB b first.length).lo + (x3:Int)]).length) (first ++ [(lnB b first.length).lo + (x3:Int)])).length)=>(o17 hpre y0 x3 hx3 y4 i8 y9)))))) tv))) (An (zr true) (zr true))))) (o18 hpre y0 x3 hx3 y4) (o19 hpre y0 x3 hx3 y4)
  ·refine swp_exit ?_
   refine swp_seq ?_
   refine zR [4] [5000] (Ak 2 tv) ?_
   refine swp_ret ?_
   exact zT [5000] (An (Ak 1 tv) (An (An (zr 1) (An (o20 hpre y0 x3 hx3 y4) (fun (i10:Nat)=>(fun (y11:i10 < (truthsB b (b.lines.length - first.length) first).length)=>(o21 hpre y0 x3 hx3 y4 i10 y11))))) (An (zr true) (An (zr true) (zr true)))))
theorem t48 (b:Book) (first:List Int):Triple Tryz.prog 48 (s48 b first):=by
 have key:∀ (k:Nat) (first:List Int),b.lines.length - first.length<=k->Triple Tryz.prog 48 (s48 b first):=by
  intro k
  induction k with
  | zero =>
   intro first hk
   apply w48
   all_goals (try delta q78 q79 q7a q7b)
   all_goals (rintro ⟨hs,h1⟩; have he:first.length=b.lines.length:=by omega)
   case o0=>intro _; rw [he,Nat.sub_self]; rfl
   case o1 =>
    intro _ i hi
    rw [he,Nat.sub_self] at hi ⊢
    have:i=0:=by simpa [truthsB] using hi
    subst this; rw [← he]; rfl
   all_goals (intro h; exact absurd (by omega) (of_decide_eq_false h))
  | succ k ih =>
   intro first hk
   apply w48
   all_goals (try delta q78 q79 q7a q7b)
   all_goals (rintro ⟨hs,h1⟩; have hln:=hs.lines)
   case o0=>intro h; have he:=of_decide_eq_true h; rw [show b.lines.length - first.length=0 by omega]; rfl
   case o1 =>
    intro h i hi
    have he:=of_decide_eq_true h
    rw [show b.lines.length - first.length=0 by omega] at hi ⊢
    have:i=0:=by simpa [truthsB] using hi
    subst this; rfl
   all_goals (intro h; have he:first.length < b.lines.length:=(by have:=of_decide_eq_false h; omega))
   all_goals (have hlx:=hs.line first.length he; have hN:=lnN_int hs he; have hN10:=lnN_le hs he)
   case o4=>omega
   case o5=>rfl
   all_goals (try omega)
   all_goals (intro x hx hl; simp only [decide_eq_true_eq,decide_eq_false_iff_not] at hl)
   case o20=>rw [show x=lnN b first.length by omega,truthsTo_all,show b.lines.length - first.length - 1 + 1=b.lines.length - first.length by omega]
   case o21=>intro i hi; rw [show x=lnN b first.length by omega,truthsTo_all,show b.lines.length - first.length - 1 + 1=b.lines.length - first.length by omega]
   all_goals (have hll:(first ++ [(lnB b first.length).lo + (x:Int)]).length=first.length + 1:=by rw [List.length_append]; rfl)
   all_goals (have hmm:b.lines.length - (first ++ [(lnB b first.length).lo + (x:Int)]).length=b.lines.length - first.length - 1:=by omega)
   all_goals (have hb1:=truthsTo_len (first:=first) (n:=b.lines.length - first.length - 1) hs (by omega) x; have hb2:=truthsB_len hs (b.lines.length - first.length - 1) (first ++ [(lnB b first.length).lo + (x:Int)]) (by omega))
   all_goals (have hp:10 ^ (b.lines.length - first.length - 1)<=1000:=Nat.le_trans (Nat.pow_le_pow_right (by omega) (show b.lines.length - first.length - 1<=3 by omega)) (by decide))
   case o10=>intro i hi; rw [hll] at hi; exact catF_one first _ 0 (fun z=>[iv z]) (Nat.zero_add _) (fun _ _=>rfl) rfl hi
   case o11=>exact ih _ (by omega)
   case o13 =>
    rw [hmm]
    have:=Nat.mul_le_mul (show x<=10 by omega) hp
    omega
   case o16=>rw [hmm,truthsTo_succ,List.length_append]
   case o17=>intro i hi; rw [hmm,truthsTo_succ]; rw [hmm] at hi; exact catF_eq _ _ [] (fun z=>[aInts z]) rfl (fun _ _=>rfl) (fun _ _=>rfl) hi
   all_goals (first | omega | (simp only [inI]; omega))
 exact key _ first (Nat.le_refl _)
abbrev q7c (b:Book) (P:Prop):Prop:=fitsB b->P
abbrev q7d (b:Book) (P:Prop):Prop:=q7c b ((!decide (checkB b=0))=false->P)
abbrev q7e (b:Book) (c:Int) (P:Prop):Prop:=q7d b ((!isCt b c)=false->P)
abbrev q7f (b:Book) (x5:Nat) (P:Prop):Prop:=x5<=(allT b).length->P
abbrev q7g (b:Book) (x5:Nat) (P:Prop):Prop:=q7f b x5 (decide ((x5:Int) < (↑((truthsB b (b.lines.length - 0) []).length):Int))=true->P)
abbrev q7h (b:Book) (c:Int) (x5:Nat) (P:Prop):Prop:=q7g b x5 (isIn (bestB b ((truthsB b (b.lines.length - 0) []).getD x5 [])).1 c=true->P)
abbrev q7i (b:Book) (c:Int) (x5:Nat) (P:Prop):Prop:=q7g b x5 (isIn (bestB b ((truthsB b (b.lines.length - 0) []).getD x5 [])).1 c=false->P)
theorem w21 (b:Book) (c:Int)
 (o0:q7c b ((!decide (checkB b=0))=true->0=buyN b c))
 (o1:q7c b ((!decide (checkB b=0))=true->checkB b=openE b (isCt b c)))
 (o2:q7d b ((!isCt b c)=true->0=buyN b c))
 (o3:q7d b ((!isCt b c)=true->1=openE b (isCt b c)))
 (o4:q7e b c (SoundB b))
 (o5:q7e b c (0<=b.lines.length))
 (o6:q7e b c (0=(↑(refSo b c (allT b) 0):Int)))
 (o7:q7e b c (0=(↑0:Int)))
 (o8:q7e b c (0<=(allT b).length))
 (o9:q7e b c (∀ (x5:Nat),q7g b x5 (0<=(x5:Int))))
 (o10:q7e b c (∀ (x5:Nat),q7g b x5 ((x5:Int) < (↑((truthsB b (b.lines.length - 0) []).length):Int))))
 (o11:q7e b c (∀ (x5:Nat),q7g b x5 (SoundB b)))
 (o12:q7e b c (∀ (x5:Nat),q7g b x5 (GoodLn b ((truthsB b (b.lines.length - 0) []).getD x5 []))))
 (o13:q7e b c (∀ (x5:Nat),q7g b x5 ((bestB b ((truthsB b (b.lines.length - 0) []).getD x5 [])).1.length<=big)))
 (o14:q7e b c (∀ (x5:Nat),q7h b c x5 (inI ((↑(refSo b c (allT b) x5):Int) + 1))))
 (o15:q7e b c (∀ (x5:Nat),q7h b c x5 (inI ((x5:Int) + 1))))
 (o16:q7e b c (∀ (x5:Nat),q7h b c x5 ((↑(refSo b c (allT b) x5):Int) + 1=(↑(refSo b c (allT b) (x5 + 1)):Int))))
 (o17:q7e b c (∀ (x5:Nat),q7h b c x5 ((x5:Int) + 1=(↑(x5 + 1):Int))))
 (o18:q7e b c (∀ (x5:Nat),q7h b c x5 (x5 + 1<=(allT b).length)))
 (o19:q7e b c (∀ (x5:Nat),q7h b c x5 ((allT b).length - (x5 + 1) < (allT b).length - x5)))
 (o20:q7e b c (∀ (x5:Nat),q7i b c x5 (inI ((x5:Int) + 1))))
 (o21:q7e b c (∀ (x5:Nat),q7i b c x5 ((↑(refSo b c (allT b) x5):Int)=(↑(refSo b c (allT b) (x5 + 1)):Int))))
 (o22:q7e b c (∀ (x5:Nat),q7i b c x5 ((x5:Int) + 1=(↑(x5 + 1):Int))))
 (o23:q7e b c (∀ (x5:Nat),q7i b c x5 (x5 + 1<=(allT b).length)))
 (o24:q7e b c (∀ (x5:Nat),q7i b c x5 ((allT b).length - (x5 + 1) < (allT b).length - x5)))
 (o25:q7e b c (∀ (x5:Nat),q7f b x5 (decide ((x5:Int) < (↑((truthsB b (b.lines.length - 0) []).length):Int))=false->knownOf (↑(refSo b c (allT b) x5):Int) (↑((truthsB b (b.lines.length - 0) []).length):Int)=buyN b c)))
 (o26:q7e b c (∀ (x5:Nat),q7f b x5 (decide ((x5:Int) < (↑((truthsB b (b.lines.length - 0) []).length):Int))=false->0=openE b (isCt b c)))) :
  Triple Tryz.prog 21 (s21 b c):=by
 refine triple_of Tryz.func21 rfl Tryz.call21 T0_ok _ rfl rfl rfl rfl (Nat.le_of_ble_eq_true (by kernel_rfl)) (fun _ _ _ _ h=>h) ?_
 intro hpre C hC _ hE
 obtain ⟨P,w0,E0,av,hA,ro,df⟩:=C
 obtain ⟨rfl,rfl,rfl⟩:=hC
 refine swp_seq ?_
 refine zR [1,2] [0] (Ak 3 tv) ?_
 refine swp_seq ?_
 refine swp_seq ?_
 refine zC ([(1,CallSpec.eq (s25 b) [true])]) [1,2,6] [0] (Ak 1 (An (An (An (zr (AV.agg (cBk b))) tv) (An (t25 (b)) (An hpre (Ak 1 (fun (i0:Env)=>tv))))) (Ak 1 tv))) ?_
 refine swp_seq ?_
 refine zR [1,2,6,13] [0] (Ak 2 tv) ?_
 refine zI (!decide (checkB b=0)) (fun y1 => ?_) (fun y1 => ?_)
 ·refine swp_seq ?_
  refine zR [4,5] [] (Ak 3 tv) ?_
  refine swp_ret ?_
  exact zT [] (An (Ak 2 tv) (An (An (An (ci (o0 hpre y1)) (zr nilN)) (An (An (ci (o1 hpre y1)) (zr nilN)) tv)) (An (zr true) (An (zr true) (zr true)))))
 ·refine swp_skip ?_
  refine swp_seq ?_
  refine swp_seq ?_
  refine zC ([(2,CallSpec.eq (s41 b c) [true,true])]) [1,2,18] [0] (Ak 2 (An (An (An (zr (AV.agg (cBk b))) (An (zr (iv c)) tv)) (An (t41 (b) (c)) (An hpre (Ak 1 (fun (i2:Env)=>tv))))) (Ak 1 tv))) ?_
  refine zI (!isCt b c) (fun y3 => ?_) (fun y3 => ?_)
  ·refine swp_seq ?_
   refine zR [4,5] [] (Ak 2 tv) ?_
   refine swp_ret ?_
   exact zT [] (An (Ak 2 tv) (An (An (An (ci (o2 hpre y1 y3)) (zr nilN)) (An (An (ci (o3 hpre y1 y3)) (zr nilN)) tv)) (An (zr true) (An (zr true) (zr true)))))
  ·refine swp_skip ?_
   refine swp_seq ?_
   refine zC ([(1,CallSpec.eq (c21t b c) [true,false])]) [1,2,7] [0] (Ak 1 (An (An (An (zr (AV.agg (cBk b))) (An (zr 0) tv)) (An (t48 (b) ([])) (An (An (o4 hpre y1 y3) (o5 hpre y1 y3)) (Ak 1 (fun (i4:Env)=>tv))))) (Ak 1 tv))) ?_
   refine swp_seq ?_
   refine zR [1,2,7,8] [0] (Ak 1 tv) ?_
   refine swp_seq ?_
   refine swp_seq ?_
   refine zR [1,2,7,8,9] [0] (Ak 1 tv) ?_
   refine swp_block ?_
   refine zL (Hint.ann (h21 b c) [(1,iv c),(2,AV.ptr 0 []),(7,aIntss (truthsB b (b.lines.length - 0) []))] [(0,OB.cells 26 (cBk b))] 10136) (zE hE [] [(0,.same 0)] [1,7] [0] (An (An (An (zr (iv c)) (zr true)) (An (An (zr (some (Src.same 0))) (zr nilP)) (An (An (zr (aIntss (truthsB b (b.lines.length - 0) []))) (zr true)) (An (An (ci (o6 hpre y1 y3)) (zr nilN)) (An (An (ci (o7 hpre y1 y3)) (zr nilN)) tv))))) (An (An (An (zr (OB.cells 26 (cBk b))) (zr true)) tv) (An (zr true) (zr true))))) (o8 hpre y1 y3) (fun (x5:Nat) hx5 => ?_)
   refine swp_seq ?_
   refine swp_seq ?_
   refine zR [1,2,7,8,9,24] [0] (Ak 4 tv) ?_
   refine zI (decide ((x5:Int) < (↑((truthsB b (b.lines.length - 0) []).length):Int))) (fun y6 => ?_) (fun y6 => ?_)
   ·refine swp_skip ?_
    refine swp_seq ?_
    refine swp_block ?_
    refine swp_seq ?_
    refine zC ([(5,CallSpec.eq (s35 b ((truthsB b (b.lines.length - 0) []).getD x5 [])) [true,true]),(7,CallSpec.eq (s37 (bestB b ((truthsB b (b.lines.length - 0) []).getD x5 [])).1 c) [true,true])]) [1,2,7,8,9,34] [0] (Ak 3 (An (An (o9 hpre y1 y3 x5 hx5 y6) (o10 hpre y1 y3 x5 hx5 y6)) (Ak 1 (An (An (An (zr (AV.agg (cBk b))) (An (zr (aInts ((truthsB b (b.lines.length - 0) []).getD x5 []))) tv)) (An (t35 (b) ((truthsB b (b.lines.length - 0) []).getD x5 [])) (An (An (o11 hpre y1 y3 x5 hx5 y6) (o12 hpre y1 y3 x5 hx5 y6)) (Ak 1 (fun (i7:Env)=>tv))))) (Ak 1 (An (An (An (zr (aInts (bestB b ((truthsB b (b.lines.length - 0) []).getD x5 [])).1)) (An (zr (iv c)) tv)) (An (t37 (bestB b ((truthsB b (b.lines.length - 0) []).getD x5 [])).1 (c)) (An (o13 hpre y1 y3 x5 hx5 y6) (Ak 1 (fun (i8:Env)=>tv))))) tv)))))) ?_
    refine zI (isIn (bestB b ((truthsB b (b.lines.length - 0) []).getD x5 [])).1 c) (fun y9 => ?_) (fun y9 => ?_)
    ·refine zR [1,2,7,8,9] [0] (Ak 1 (An (o14 hpre y1 y3 x5 hx5 y6 y9) (Ak 1 tv))) ?_
     refine zR [1,2,7,8,9] [0] (Ak 1 (An (o15 hpre y1 y3 x5 hx5 y6 y9) (Ak 1 tv))) ?_
     exact zn (zE hE [] [(0,.same 0)] [1,7] [0] (An (An (An (zr (iv c)) (zr true)) (An (An (zr (some (Src.same 0))) (zr nilP)) (An (An (zr (aIntss (truthsB b (b.lines.length - 0) []))) (zr true)) (An (An (ci (o16 hpre y1 y3 x5 hx5 y6 y9)) (zr nilN)) (An (An (ci (o17 hpre y1 y3 x5 hx5 y6 y9)) (zr nilN)) tv))))) (An (An (An (zr (OB.cells 26 (cBk b))) (zr true)) tv) (An (zr true) (zr true))))) (o18 hpre y1 y3 x5 hx5 y6 y9) (o19 hpre y1 y3 x5 hx5 y6 y9)
    ·refine swp_skip ?_
     refine zR [1,2,7,8,9] [0] (Ak 1 (An (o20 hpre y1 y3 x5 hx5 y6 y9) (Ak 1 tv))) ?_
     exact zn (zE hE [] [(0,.same 0)] [1,7] [0] (An (An (An (zr (iv c)) (zr true)) (An (An (zr (some (Src.same 0))) (zr nilP)) (An (An (zr (aIntss (truthsB b (b.lines.length - 0) []))) (zr true)) (An (An (ci (o21 hpre y1 y3 x5 hx5 y6 y9)) (zr nilN)) (An (An (ci (o22 hpre y1 y3 x5 hx5 y6 y9)) (zr nilN)) tv))))) (An (An (An (zr (OB.cells 26 (cBk b))) (zr true)) tv) (An (zr true) (zr true))))) (o23 hpre y1 y3 x5 hx5 y6 y9) (o24 hpre y1 y3 x5 hx5 y6 y9)
   ·refine swp_exit ?_
    refine swp_seq ?_
    refine zC ([(3,CallSpec.eq (s49 (↑(refSo b c (allT b) x5):Int) (↑((truthsB b (b.lines.length - 0) []).length):Int)) [true,true])]) [4,5] [] (Ak 3 (An (An (An (zr (iv (↑(refSo b c (allT b) x5):Int))) (An (zr (iv (↑((truthsB b (b.lines.length - 0) []).length):Int))) tv)) (An (t49 ((↑(refSo b c (allT b) x5):Int)) ((↑((truthsB b (b.lines.length - 0) []).length):Int))) (Ak 2 (fun (i10:Env)=>tv)))) (Ak 2 tv))) ?_
    refine swp_ret ?_
    exact zT [] (An (Ak 2 tv) (An (An (An (ci (o25 hpre y1 y3 x5 hx5 y6)) (zr nilN)) (An (An (ci (o26 hpre y1 y3 x5 hx5 y6)) (zr nilN)) tv)) (An (zr true) (An (zr true) (zr true)))))
theorem t21 (b:Book) (c:Int):Triple Tryz.prog 21 (s21 b c):=by
  apply w21
  all_goals (try delta q7c q7d q7e q7f q7g q7h q7i)
  all_goals (try (intro hp; exact hp))
  all_goals (intro hp h; rw [chk_b] at h)
  case o0=>simp only [Bool.not_eq_true'] at h; unfold buyN; rw [h]; rfl
  case o1=>simp only [Bool.not_eq_true'] at h; unfold checkB openE; rw [h]; rfl
  all_goals (simp only [Bool.not_eq_false'] at h)
  all_goals (try (intro _; exact hp))
  all_goals (try exact hp)
  all_goals (intro h2)
  case o2=>simp only [Bool.not_eq_true'] at h2; unfold buyN; rw [h,h2]; rfl
  case o3=>simp only [Bool.not_eq_true'] at h2; unfold openE; rw [h,h2]; rfl
  all_goals (simp only [Bool.not_eq_false'] at h2; have hs:=ok_soundB h; have hci:=isCt_iff.1 h2)
  all_goals (have hT:truthsB b (b.lines.length - 0) []=allT b:=rfl; try rw [hT])
  all_goals (have htl:(allT b).length<=1000:=Nat.le_trans (truthsB_len hs b.lines.length [] (Nat.zero_add _)) (Nat.le_trans (Nat.pow_le_pow_right (by omega) hs.lines) (by decide)))
  case o4=>exact hs
  all_goals (try (first | omega | rfl))
  all_goals (intro x hx hl; simp only [decide_eq_true_eq,decide_eq_false_iff_not] at hl)
  case o11=>exact hs
  case o25 =>
    rw [show x=(allT b).length by omega]
    unfold buyN; rw [h,h2]
    exact buy_ref hs hci rfl
  case o26=>exact (open_zero (by rw [h,h2]; rfl)).symm
  all_goals (try omega)
  all_goals (have hgl:GoodLn b ((allT b).getD x []):=in_good hs ((truths_in hs).1 (getD_mem (allT b) [] (by omega))))
  case o12=>exact hgl
  case o13 => have := best_len hs hgl; have hbg : (1000 : Nat) <= big := by decide
              omega
  all_goals (intro hb; have hrl:=refSo_le b c (allT b) x; have hrs:=refSo_succ b c (allT b) (n:=x) (by omega); rw [hb] at hrs; simp only [if_true,if_false,Bool.false_eq_true] at hrs)
  all_goals (first | omega | (simp only [inI]; omega))
abbrev q7j (b:Book) (P:Prop):Prop:=fitsB b->P
abbrev q7k (b:Book) (P:Prop):Prop:=q7j b ((!decide (checkB b=0))=false->P)
abbrev q7l (b:Book) (x2:Nat) (P:Prop):Prop:=x2<=b.lines.length->P
abbrev q7m (b:Book) (x2:Nat) (P:Prop):Prop:=q7l b x2 (decide ((x2:Int) < (↑(b.lines.length):Int))=true->P)
abbrev q7n (b:Book) (x2:Nat) (x4:Nat) (P:Prop):Prop:=x4<=lnN b x2->P
abbrev q7o (b:Book) (x2:Nat) (x4:Nat) (P:Prop):Prop:=q7n b x2 x4 (decide ((lnB b x2).lo + (x4:Int)<=(lnB b x2).hi)=true->P)
abbrev q7p (b:Book) (x2:Nat) (x4:Nat) (P:Prop):Prop:=q7n b x2 x4 (decide ((lnB b x2).lo + (x4:Int)<=(lnB b x2).hi)=false->P)
abbrev q7q (b:Book) (x2:Nat) (x4:Nat) (P:Prop):Prop:=q7p b x2 x4 ((bif decide ((measTo b x2).1 < 0) then true else decide (worstTo b x2 x4 < (measTo b x2).2))=true->P)
abbrev q7r (b:Book) (x2:Nat) (x4:Nat) (P:Prop):Prop:=q7p b x2 x4 ((bif decide ((measTo b x2).1 < 0) then true else decide (worstTo b x2 x4 < (measTo b x2).2))=false->P)
abbrev q7s (b:Book) (x2:Nat) (P:Prop):Prop:=q7l b x2 (decide ((x2:Int) < (↑(b.lines.length):Int))=false->P)
theorem w23 (b:Book)
 (o0:q7j b ((!decide (checkB b=0))=true->0=measN b))
 (o1:q7j b ((!decide (checkB b=0))=true->checkB b=measE b))
 (o2:q7k b (-1=(measTo b 0).1))
 (o3:q7k b (0=(measTo b 0).2))
 (o4:q7k b (0=(↑0:Int)))
 (o5:q7k b (0<=b.lines.length))
 (o6:q7k b (∀ (x2:Nat),q7m b x2 (0<=(x2:Int))))
 (o7:q7k b (∀ (x2:Nat),q7m b x2 ((x2:Int) < (↑(b.lines.length):Int))))
 (o8:q7k b (∀ (x2:Nat),q7m b x2 (0=worstTo b x2 0)))
 (o9:q7k b (∀ (x2:Nat),q7m b x2 ((lnB b x2).lo=(lnB b x2).lo + (↑0:Int))))
 (o10:q7k b (∀ (x2:Nat),q7m b x2 (0<=lnN b x2)))
 (o11:q7k b (∀ (x2:Nat),q7m b x2 (∀ (x4:Nat),q7n b x2 x4 (0<=(x2:Int)))))
 (o12:q7k b (∀ (x2:Nat),q7m b x2 (∀ (x4:Nat),q7n b x2 x4 ((x2:Int) < (↑(b.lines.length):Int)))))
 (o13:q7k b (∀ (x2:Nat),q7m b x2 (∀ (x4:Nat),q7o b x2 x4 (smallB b))))
 (o14:q7k b (∀ (x2:Nat),q7m b x2 (∀ (x4:Nat),q7o b x2 x4 (0<=(x2:Int)))))
 (o15:q7k b (∀ (x2:Nat),q7m b x2 (∀ (x4:Nat),q7o b x2 x4 ((x2:Int) < (↑(b.lines.length):Int)))))
 (o16:q7k b (∀ (x2:Nat),q7m b x2 (∀ (x4:Nat),q7o b x2 x4 (SoundB (cntB b x2 ((lnB b x2).lo + (x4:Int)))))))
 (o17:q7k b (∀ (x2:Nat),q7m b x2 (∀ (x4:Nat),q7o b x2 x4 (inI ((owedB (cntB b x2 ((lnB b x2).lo + (x4:Int)))).hi - (owedB (cntB b x2 ((lnB b x2).lo + (x4:Int)))).lo)))))
 (o18:q7k b (∀ (x2:Nat),q7m b x2 (∀ (x4:Nat),q7o b x2 x4 (inI ((lnB b x2).lo + (x4:Int) + 1)))))
 (o19:q7k b (∀ (x2:Nat),q7m b x2 (∀ (x4:Nat),q7o b x2 x4 (max (worstTo b x2 x4) ((owedB (cntB b x2 ((lnB b x2).lo + (x4:Int)))).hi - (owedB (cntB b x2 ((lnB b x2).lo + (x4:Int)))).lo)=worstTo b x2 (x4 + 1)))))
 (o20:q7k b (∀ (x2:Nat),q7m b x2 (∀ (x4:Nat),q7o b x2 x4 ((lnB b x2).lo + (x4:Int) + 1=(lnB b x2).lo + (↑(x4 + 1):Int)))))
 (o21:q7k b (∀ (x2:Nat),q7m b x2 (∀ (x4:Nat),q7o b x2 x4 (x4 + 1<=lnN b x2))))
 (o22:q7k b (∀ (x2:Nat),q7m b x2 (∀ (x4:Nat),q7o b x2 x4 (lnN b x2 - (x4 + 1) < lnN b x2 - x4))))
 (o23:q7k b (∀ (x2:Nat),q7m b x2 (∀ (x4:Nat),q7p b x2 x4 (decide ((measTo b x2).1 < 0)=false->(!decide ((measTo b x2).1 < 0))=true))))
 (o24:q7k b (∀ (x2:Nat),q7m b x2 (∀ (x4:Nat),q7q b x2 x4 (inI ((x2:Int) + 1)))))
 (o25:q7k b (∀ (x2:Nat),q7m b x2 (∀ (x4:Nat),q7q b x2 x4 ((x2:Int)=(measTo b (x2 + 1)).1))))
 (o26:q7k b (∀ (x2:Nat),q7m b x2 (∀ (x4:Nat),q7q b x2 x4 (worstTo b x2 x4=(measTo b (x2 + 1)).2))))
 (o27:q7k b (∀ (x2:Nat),q7m b x2 (∀ (x4:Nat),q7q b x2 x4 ((x2:Int) + 1=(↑(x2 + 1):Int)))))
 (o28:q7k b (∀ (x2:Nat),q7m b x2 (∀ (x4:Nat),q7q b x2 x4 (x2 + 1<=b.lines.length))))
 (o29:q7k b (∀ (x2:Nat),q7m b x2 (∀ (x4:Nat),q7q b x2 x4 (b.lines.length - (x2 + 1) < b.lines.length - x2))))
 (o30:q7k b (∀ (x2:Nat),q7m b x2 (∀ (x4:Nat),q7r b x2 x4 (inI ((x2:Int) + 1)))))
 (o31:q7k b (∀ (x2:Nat),q7m b x2 (∀ (x4:Nat),q7r b x2 x4 ((measTo b x2).1=(measTo b (x2 + 1)).1))))
 (o32:q7k b (∀ (x2:Nat),q7m b x2 (∀ (x4:Nat),q7r b x2 x4 ((measTo b x2).2=(measTo b (x2 + 1)).2))))
 (o33:q7k b (∀ (x2:Nat),q7m b x2 (∀ (x4:Nat),q7r b x2 x4 ((x2:Int) + 1=(↑(x2 + 1):Int)))))
 (o34:q7k b (∀ (x2:Nat),q7m b x2 (∀ (x4:Nat),q7r b x2 x4 (x2 + 1<=b.lines.length))))
 (o35:q7k b (∀ (x2:Nat),q7m b x2 (∀ (x4:Nat),q7r b x2 x4 (b.lines.length - (x2 + 1) < b.lines.length - x2))))
 (o36:q7k b (∀ (x2:Nat),q7s b x2 (decide ((measTo b x2).1 < 0)=true->0=measN b)))
 (o37:q7k b (∀ (x2:Nat),q7s b x2 (decide ((measTo b x2).1 < 0)=true->3=measE b)))
 (o38:q7k b (∀ (x2:Nat),q7s b x2 (decide ((measTo b x2).1 < 0)=false->(measTo b x2).1=measN b)))
 (o39:q7k b (∀ (x2:Nat),q7s b x2 (decide ((measTo b x2).1 < 0)=false->0=measE b))) :
  Triple Tryz.prog 23 (s23 b):=by
 refine triple_of Tryz.func23 rfl Tryz.call23 T0_ok _ rfl rfl rfl rfl (Nat.le_of_ble_eq_true (by kernel_rfl)) (fun _ _ _ _ h=>h) ?_
 intro hpre C hC _ hE
 obtain ⟨P,w0,E0,av,hA,ro,df⟩:=C
 obtain ⟨rfl,rfl,rfl⟩:=hC
 refine swp_seq ?_
 refine zR [1] [0] (Ak 3 tv) ?_
 refine swp_seq ?_
 refine swp_seq ?_
 refine zC ([(1,CallSpec.eq (s25 b) [true])]) [1,4] [0] (Ak 1 (An (An (An (zr (AV.agg (cBk b))) tv) (An (t25 (b)) (An hpre (Ak 1 (fun (i0:Env)=>tv))))) (Ak 1 tv))) ?_
 refine swp_seq ?_
 refine zR [1,4,14] [0] (Ak 2 tv) ?_
 refine zI (!decide (checkB b=0)) (fun y1 => ?_) (fun y1 => ?_)
 ·refine swp_seq ?_
  refine zR [2,3] [] (Ak 3 tv) ?_
  refine swp_ret ?_
  exact zT [] (An (Ak 2 tv) (An (An (An (ci (o0 hpre y1)) (zr nilN)) (An (An (ci (o1 hpre y1)) (zr nilN)) tv)) (An (zr true) (An (zr true) (zr true)))))
 ·refine swp_skip ?_
  refine swp_seq ?_
  refine zR [1,5,6] [0] (Ak 2 tv) ?_
  refine swp_seq ?_
  refine swp_seq ?_
  refine zR [1,5,6,7] [0] (Ak 1 tv) ?_
  refine swp_block ?_
  refine zL (Hint.ann (h23a b) [(1,AV.ptr 0 [])] [(0,OB.cells 26 (cBk b))] 10088) (zE hE [] [(0,.same 0)] [] [0] (An (An (An (zr (some (Src.same 0))) (zr nilP)) (An (An (ci (o2 hpre y1)) (zr nilN)) (An (An (ci (o3 hpre y1)) (zr nilN)) (An (An (ci (o4 hpre y1)) (zr nilN)) tv)))) (An (An (An (zr (OB.cells 26 (cBk b))) (zr true)) tv) (An (zr true) (zr true))))) (o5 hpre y1) (fun (x2:Nat) hx2 => ?_)
  refine swp_seq ?_
  refine swp_seq ?_
  refine zR [1,5,6,7,20] [0] (Ak 5 tv) ?_
  refine zI (decide ((x2:Int) < (↑(b.lines.length):Int))) (fun y3 => ?_) (fun y3 => ?_)
  ·refine swp_skip ?_
   refine swp_seq ?_
   refine swp_block ?_
   refine swp_seq ?_
   refine zR [1,5,6,7,8] [0] (Ak 1 tv) ?_
   refine swp_seq ?_
   refine swp_seq ?_
   refine zR [1,5,6,7,8,9] [0] (Ak 3 (An (An (o6 hpre y1 x2 hx2 y3) (o7 hpre y1 x2 hx2 y3)) (Ak 3 tv))) ?_
   refine swp_block ?_
   refine zL (Hint.ann (h23b b x2) [(1,AV.ptr 0 []),(5,iv (measTo b x2).1),(6,iv (measTo b x2).2),(7,iv (x2:Int))] [(0,OB.cells 26 (cBk b))] 20192) (zE hE [] [(0,.same 0)] [5,6,7] [0] (An (An (An (zr (some (Src.same 0))) (zr nilP)) (An (An (zr (iv (measTo b x2).1)) (zr true)) (An (An (zr (iv (measTo b x2).2)) (zr true)) (An (An (zr (iv (x2:Int))) (zr true)) (An (An (ci (o8 hpre y1 x2 hx2 y3)) (zr nilN)) (An (An (ci (o9 hpre y1 x2 hx2 y3)) (zr nilN)) tv)))))) (An (An (An (zr (OB.cells 26 (cBk b))) (zr true)) tv) (An (zr true) (zr true))))) (o10 hpre y1 x2 hx2 y3) (fun (x4:Nat) hx4 => ?_)
   refine swp_seq ?_
   refine swp_seq ?_
   refine zR [1,5,6,7,8,9,36] [0] (Ak 4 (An (An (o11 hpre y1 x2 hx2 y3 x4 hx4) (o12 hpre y1 x2 hx2 y3 x4 hx4)) (Ak 3 tv))) ?_
   refine zI (decide ((lnB b x2).lo + (x4:Int)<=(lnB b x2).hi)) (fun y5 => ?_) (fun y5 => ?_)
   ·refine swp_skip ?_
    refine swp_seq ?_
    refine swp_block ?_
    refine swp_seq ?_
    refine zC ([(3,CallSpec.eq (c23c b x2 x4) [true,true,true]),(4,CallSpec.eq (c23 b x2 x4) [true])]) [1,5,6,7,8,9,10] [0,20296] (Ak 3 (An (An (An (zr (AV.agg (cBk b))) (An (zr (iv (x2:Int))) (An (zr (iv ((lnB b x2).lo + (x4:Int)))) tv))) (An (t51 (b) ((x2:Int)) ((lnB b x2).lo + (x4:Int))) (An (An (o13 hpre y1 x2 hx2 y3 x4 hx4 y5) (An (o14 hpre y1 x2 hx2 y3 x4 hx4 y5) (o15 hpre y1 x2 hx2 y3 x4 hx4 y5))) (Ak 1 (fun (i6:Env)=>tv))))) (An (An (An (zr (AV.agg (cBk (cntB b x2 ((lnB b x2).lo + (x4:Int)))))) tv) (An (t45 (cntB b x2 ((lnB b x2).lo + (x4:Int)))) (An (o16 hpre y1 x2 hx2 y3 x4 hx4 y5) (Ak 1 (fun (i7:Env)=>tv))))) (Ak 2 tv)))) ?_
    refine zR [1,5,6,7,8,9] [0] (Ak 5 (An (o17 hpre y1 x2 hx2 y3 x4 hx4 y5) (Ak 2 tv))) ?_
    refine zR [1,5,6,7,8,9] [0] (Ak 1 (An (o18 hpre y1 x2 hx2 y3 x4 hx4 y5) (Ak 1 tv))) ?_
    exact zn (zE hE [] [(0,.same 0)] [5,6,7] [0] (An (An (An (zr (some (Src.same 0))) (zr nilP)) (An (An (zr (iv (measTo b x2).1)) (zr true)) (An (An (zr (iv (measTo b x2).2)) (zr true)) (An (An (zr (iv (x2:Int))) (zr true)) (An (An (ci (o19 hpre y1 x2 hx2 y3 x4 hx4 y5)) (zr nilN)) (An (An (ci (o20 hpre y1 x2 hx2 y3 x4 hx4 y5)) (zr nilN)) tv)))))) (An (An (An (zr (OB.cells 26 (cBk b))) (zr true)) tv) (An (zr true) (zr true))))) (o21 hpre y1 x2 hx2 y3 x4 hx4 y5) (o22 hpre y1 x2 hx2 y3 x4 hx4 y5)
   ·refine swp_exit ?_
    refine swp_seq ?_
    refine zR [1,5,6,7,8,57] [0] (Ak 3 (An (fun (y8:(!decide ((measTo b x2).1 < 0))=true)=>(An (Ak 1 tv) tv)) (An (fun (y9:(!decide ((measTo b x2).1 < 0))=true)=>(An (Ak 1 tv) tv)) (An (fun (y10:(!decide ((measTo b x2).1 < 0))=true)=>(An (An (fun (y11:(!decide ((measTo b x2).1 < 0))=true)=>y10) (An (fun (y12:(!decide ((measTo b x2).1 < 0))=true)=>y10) tv)) tv)) (An (An (fun (y13:decide ((measTo b x2).1 < 0)=true)=>tv) (fun (y14:decide ((measTo b x2).1 < 0)=false)=>(o23 hpre y1 x2 hx2 y3 x4 hx4 y5 y14))) tv))))) ?_
    refine zI (bif decide ((measTo b x2).1 < 0) then true else decide (worstTo b x2 x4 < (measTo b x2).2)) (fun y15 => ?_) (fun y15 => ?_)
    ·refine zR [1,5,6,7] [0] (Ak 4 tv) ?_
     refine zR [1,5,6,7] [0] (Ak 1 (An (o24 hpre y1 x2 hx2 y3 x4 hx4 y5 y15) (Ak 1 tv))) ?_
     exact zn (zE hE [] [(0,.same 0)] [] [0] (An (An (An (zr (some (Src.same 0))) (zr nilP)) (An (An (ci (o25 hpre y1 x2 hx2 y3 x4 hx4 y5 y15)) (zr nilN)) (An (An (ci (o26 hpre y1 x2 hx2 y3 x4 hx4 y5 y15)) (zr nilN)) (An (An (ci (o27 hpre y1 x2 hx2 y3 x4 hx4 y5 y15)) (zr nilN)) tv)))) (An (An (An (zr (OB.cells 26 (cBk b))) (zr true)) tv) (An (zr true) (zr true))))) (o28 hpre y1 x2 hx2 y3 x4 hx4 y5 y15) (o29 hpre y1 x2 hx2 y3 x4 hx4 y5 y15)
    ·refine swp_skip ?_
     refine zR [1,5,6,7] [0] (Ak 1 (An (o30 hpre y1 x2 hx2 y3 x4 hx4 y5 y15) (Ak 1 tv))) ?_
     exact zn (zE hE [] [(0,.same 0)] [] [0] (An (An (An (zr (some (Src.same 0))) (zr nilP)) (An (An (ci (o31 hpre y1 x2 hx2 y3 x4 hx4 y5 y15)) (zr nilN)) (An (An (ci (o32 hpre y1 x2 hx2 y3 x4 hx4 y5 y15)) (zr nilN)) (An (An (ci (o33 hpre y1 x2 hx2 y3 x4 hx4 y5 y15)) (zr nilN)) tv)))) (An (An (An (zr (OB.cells 26 (cBk b))) (zr true)) tv) (An (zr true) (zr true))))) (o34 hpre y1 x2 hx2 y3 x4 hx4 y5 y15) (o35 hpre y1 x2 hx2 y3 x4 hx4 y5 y15)
  ·refine swp_exit ?_
   refine swp_seq ?_
   refine swp_seq ?_
   refine zR [5,61] [] (Ak 2 tv) ?_
   refine zI (decide ((measTo b x2).1 < 0)) (fun y16 => ?_) (fun y16 => ?_)
   ·refine swp_seq ?_
    refine zR [2,3] [] (Ak 2 tv) ?_
    refine swp_ret ?_
    exact zT [] (An (Ak 2 tv) (An (An (An (ci (o36 hpre y1 x2 hx2 y3 y16)) (zr nilN)) (An (An (ci (o37 hpre y1 x2 hx2 y3 y16)) (zr nilN)) tv)) (An (zr true) (An (zr true) (zr true)))))
   ·refine swp_skip ?_
    refine swp_seq ?_
    refine zR [2,3] [] (Ak 3 tv) ?_
    refine swp_ret ?_
    exact zT [] (An (Ak 2 tv) (An (An (An (ci (o38 hpre y1 x2 hx2 y3 y16)) (zr nilN)) (An (An (ci (o39 hpre y1 x2 hx2 y3 y16)) (zr nilN)) tv)) (An (zr true) (An (zr true) (zr true)))))
theorem t23 (b:Book):Triple Tryz.prog 23 (s23 b):=by
 apply w23
 all_goals (try delta q7j q7k q7l q7m q7n q7o q7p q7q q7r q7s)
 all_goals (try (intro hp; exact hp))
 all_goals (intro hp h; rw [chk_b] at h)
 case o0=>simp only [Bool.not_eq_true'] at h; unfold measN; rw [h]; rfl
 case o1=>simp only [Bool.not_eq_true'] at h; unfold checkB measE; rw [h]; rfl
 all_goals (simp only [Bool.not_eq_false'] at h; have hs:=ok_soundB h; have hln:=hs.lines)
 case o2 | o3 | o5=>all_goals (first | rfl | omega)
 all_goals (intro x hx hl; simp only [decide_eq_true_eq,decide_eq_false_iff_not] at hl)
 case o36 | o37 | o38 | o39=>all_goals (
  intro h0
  have:x=b.lines.length:=by omega
  subst this
  by_cases hz:b.lines.length=0
  ·first
   | (unfold measN; rw [h,hz]; rfl)
   | (unfold measE; rw [h,hz]; rfl)
   | (rw [hz] at h0; cases h0)
  ·obtain ⟨i,_,e,_⟩:=meas_spec (b:=b) b.lines.length (by omega)
   have hm:=measN_ok8 h (by omega)
   first
   | exact hm.1.symm
   | exact hm.2.symm
   | (rw [e] at h0; simp only [decide_eq_true_eq] at h0; omega))
 all_goals (try (first | omega | rfl))
 all_goals (have hxl:x < b.lines.length:=by omega)
 all_goals (have hlx:=hs.line x (by omega); have hN:=lnN_int hs (i:=x) (by omega))
 all_goals (intro k hk hkl; simp only [decide_eq_true_eq,decide_eq_false_iff_not] at hkl)
 all_goals (try (first | omega | rfl))
 case o13=>exact sound_smallB hs
 case o16=>exact cnt_sound hs (by omega)
 case o17 =>
  have h4:=owed_in (cnt_sound hs (i:=x) (n:=(lnB b x).lo + k) (by omega))
  show inI ((owedB (cntB b x ((lnB b x).lo + k))).hi - (owedB (cntB b x ((lnB b x).lo + k))).lo)
  simp only [inI]; omega
 case o18=>simp only [inI]; omega
 all_goals (have hkN:k=lnN b x:=by omega)
 all_goals (intro hc; have hst:measTo b (x + 1)=if decide ((measTo b x).1 < 0) || decide (worstB b x < (measTo b x).2) then ((x:Int),worstB b x) else measTo b x:=rfl)
 case o23=>rw [hc]; rfl
 all_goals (rw [hkN,Bool.cond_true_left] at hc; try rw [hkN])
 all_goals (try (first | omega | (simp only [inI]; omega)))
 case o25 | o26=>all_goals (rw [hst]; unfold worstB; rw [if_pos hc]; try rfl)
 all_goals (rw [hst]; unfold worstB; rw [if_neg (by rw [hc]; exact Bool.false_ne_true)])
end Go.Ab
namespace Go.Sh
open Go.Ab
def exB:Book:=⟨[⟨2,3⟩,⟨4,4⟩],[⟨0,1,0⟩,⟨0,1,2⟩,⟨0,2,0⟩,⟨1,2,0⟩,⟨1,5,1⟩],3,2,[⟨1,2,8,15⟩,⟨2,7,20,20⟩]⟩
def exD:List Sday:=[⟨0,1⟩,⟨1,5⟩,⟨0,1⟩,⟨1,1⟩]
def prodTo (b:Book) (i:Nat):Int:=(prodW (b.lines.take i):Nat)
def farB (b:Book):Bool:=hugeB b || (okBook b && (decide (prodTo b b.lines.length > 12) || decide (((stds b).length:Int) > 4)))
structure NewC where
 ctr:Int
 more:Ctr
 cheap:Int
 room:Int
structure DearX where
 times:Int
 ctr:Int
end Go.Sh
namespace Go.En
open Go Go.Ab Go.Sh
end Go.En
namespace Go.Ab
open Go Go.RowKit Go.Proofs Go.Sh Go.En
def s30 (a d:Int):CallSpec:={ args:=[iv a,iv d],res:=vSday ⟨a,d⟩ }
def s56 (a d e:Int):CallSpec:={ args:=[iv a,iv d,iv e],res:=vShn ⟨a,d,e⟩ }
def s27:CallSpec:={ args:=[],res:=vBk exB }
def s27o (b:Book):CallSpec:={ args:=[],res:=vBk b,pre:=b=exB }
def sw6 (b:Book):CallSpec:={ args:=[],res:=bv true,pre:=b=exB }
def s6:CallSpec:={ args:=[],res:=bv true }
def c6e (b:Book):CallSpec:=s27o b
def c6c (b:Book):CallSpec:=s28 b [2,4] [0,0,-1,-1]
def c6b (b:Book):CallSpec:=s10 b [2,4]
def c6w (b:Book):CallSpec:=s15 b [2,4] 1
def c6t (b:Book):CallSpec:=s29 b exD
def c6x (b:Book):CallSpec:=s12 (billL b [2,4]) [-1,1,1,1]
def c6y (b:Book):CallSpec:=s12 (twL b exD) [2,3]
def s5 (b:Book):CallSpec:={ args:=[vBk b],res:=bv (farB b),pre:=fitsB b }
def h5 (b:Book):Hint:={ X:=Nat,M:=fun i=>[(3,iv (prodTo b i)),(4,iv i)],I:=fun i=>i<=b.lines.length,mu:=fun i=>b.lines.length - i,x0:=(0:Nat),nx:=fun i=>i + 1 }
end Go.Ab
namespace Go.Ab
open Go Go.RowKit Go.Proofs Go.Sh Go.En
theorem w30 (a:Int) (d:Int) :
  Triple Tryz.prog 30 (s30 a d):=by
 refine triple_of Tryz.func30 rfl Tryz.call30 T0_ok _ rfl rfl rfl rfl (Nat.le_of_ble_eq_true (by kernel_rfl)) (fun _ _ _ _ h=>h) ?_
 intro _ C hC _ hE
 obtain ⟨P,w0,E0,av,hA,ro,df⟩:=C
 obtain ⟨rfl,rfl,rfl⟩:=hC
 refine swp_seq ?_
 refine zR [0,1,4] [0] (Ak 1 tv) ?_
 refine swp_seq ?_
 refine zR [4] [0] (Ak 4 tv) ?_
 refine swp_ret ?_
 exact zT [] (An (Ak 1 tv) (An (An (An (zr (iv a)) (zr nilN)) (An (An (zr (iv d)) (zr nilN)) tv)) (An (zr true) (An (zr true) (zr true)))))
theorem t30 (a d:Int):Triple Tryz.prog 30 (s30 a d):=by
 apply w30
theorem w56 (a:Int) (d:Int) (e:Int) :
  Triple Tryz.prog 56 (s56 a d e):=by
 refine triple_of Tryz.func56 rfl Tryz.call56 T0_ok _ rfl rfl rfl rfl (Nat.le_of_ble_eq_true (by kernel_rfl)) (fun _ _ _ _ h=>h) ?_
 intro _ C hC _ hE
 obtain ⟨P,w0,E0,av,hA,ro,df⟩:=C
 obtain ⟨rfl,rfl,rfl⟩:=hC
 refine swp_seq ?_
 refine zR [0,1,2,6] [0] (Ak 1 tv) ?_
 refine swp_seq ?_
 refine zR [6] [0] (Ak 5 tv) ?_
 refine swp_ret ?_
 exact zT [] (An (Ak 1 tv) (An (An (An (zr (iv a)) (zr nilN)) (An (An (zr (iv d)) (zr nilN)) (An (An (zr (iv e)) (zr nilN)) tv))) (An (zr true) (An (zr true) (zr true)))))
theorem t56 (a d e:Int):Triple Tryz.prog 56 (s56 a d e):=by
 apply w56
theorem w27 
  (o0:∀ (i5:Nat),i5 < exB.lines.length->List.getD [[iv 2,iv 3],[iv 4,iv 4]] i5 (TI.za ti41)=cSpan (lnB exB i5))
  (o1:∀ (i7:Nat),i7 < exB.shown.length->List.getD [[iv 0,iv 1,iv 0],[iv 0,iv 1,iv 2],[iv 0,iv 2,iv 0],[iv 1,iv 2,iv 0],[iv 1,iv 5,iv 1]] i7 (TI.za ti74)=cShn (shB exB i7))
  (o2:3=Book.rate exB)
  (o3:2=Book.rep exB)
  (o4:∀ (i9:Nat),i9 < exB.ctrs.length->List.getD [[iv 1,iv 2,iv 8,iv 15],[iv 2,iv 7,iv 20,iv 20]] i9 (TI.za ti68)=cCtr (ctB exB i9)) :
  Triple Tryz.prog 27 (s27):=by
 refine triple_of Tryz.func27 rfl Tryz.call27 T0_ok _ rfl rfl rfl rfl (Nat.le_of_ble_eq_true (by kernel_rfl)) (fun _ _ _ _ h=>h) ?_
 intro _ C hC _ hE
 obtain ⟨P,w0,E0,av,hA,ro,df⟩:=C
 obtain ⟨rfl,rfl,rfl⟩:=hC
 refine swp_seq ?_
 refine zR [0] [0] (Ak 1 tv) ?_
 refine swp_seq ?_
 refine zC ([(3,CallSpec.eq (s56 0 1 0) [true,true,true]),(4,CallSpec.eq (s56 0 1 2) [true,true,true]),(5,CallSpec.eq (s56 0 2 0) [true,true,true]),(6,CallSpec.eq (s56 1 2 0) [true,true,true]),(7,CallSpec.eq (s56 1 5 1) [true,true,true])]) [0] [0,24,72,96] (Ak 3 (An (An (An (zr (iv 0)) (An (zr (iv 1)) (An (zr (iv 0)) tv))) (An (t56 (0) (1) (0)) (Ak 2 (fun (i0:Env)=>tv)))) (An (An (An (zr (iv 0)) (An (zr (iv 1)) (An (zr (iv 2)) tv))) (An (t56 (0) (1) (2)) (Ak 2 (fun (i1:Env)=>tv)))) (An (An (An (zr (iv 0)) (An (zr (iv 2)) (An (zr (iv 0)) tv))) (An (t56 (0) (2) (0)) (Ak 2 (fun (i2:Env)=>tv)))) (An (An (An (zr (iv 1)) (An (zr (iv 2)) (An (zr (iv 0)) tv))) (An (t56 (1) (2) (0)) (Ak 2 (fun (i3:Env)=>tv)))) (An (An (An (zr (iv 1)) (An (zr (iv 5)) (An (zr (iv 1)) tv))) (An (t56 (1) (5) (1)) (Ak 2 (fun (i4:Env)=>tv)))) (Ak 6 tv))))))) ?_
 refine swp_ret ?_
 exact zT [24,72,96] (An (Ak 1 tv) (An (An (An (zr 2) (An (by decide:2=exB.lines.length) (fun (i5:Nat)=>(fun (y6:i5 < exB.lines.length)=>(o0 i5 y6))))) (An (An (zr 3) (An (by decide:5=exB.shown.length) (fun (i7:Nat)=>(fun (y8:i7 < exB.shown.length)=>(o1 i7 y8))))) (An (An (ci (o2)) (zr nilN)) (An (An (ci (o3)) (zr nilN)) (An (An (zr 4) (An (by decide:2=exB.ctrs.length) (fun (i9:Nat)=>(fun (y10:i9 < exB.ctrs.length)=>(o4 i9 y10))))) tv))))) (An (zr true) (An (zr true) (zr true)))))
theorem t27:Triple Tryz.prog 27 s27:=by
 apply w27
 case o0 =>
  intro i hi
  have:i=0 ∨ i=1:=by simp [exB] at hi; omega
  rcases this with rfl | rfl <;> rfl
 case o1 =>
  intro i hi
  have:i=0 ∨ i=1 ∨ i=2 ∨ i=3 ∨ i=4:=by simp [exB] at hi; omega
  rcases this with rfl | rfl | rfl | rfl | rfl <;> rfl
 case o4 =>
  intro i hi
  have:i=0 ∨ i=1:=by simp [exB] at hi; omega
  rcases this with rfl | rfl <;> rfl
 all_goals rfl
theorem t27o (b:Book):Triple Tryz.prog 27 (s27o b):=⟨t27.1,fun h=>by cases h; exact t27.2 trivial⟩
abbrev q7t (b:Book) (P:Prop):Prop:=b=exB->(bif bif bif bif bif bif decide (costE b [2,4] [0,0,-1,-1]=0) then decide (givenE b [2,4] true=0) else false then decide (givenE b [2,4] (isCt b 1)=0) else false then decide (checkB b=0) else false then decide (openE b (isCt b 1)=0) else false then decide (twE b exD=0) else false then decide (costN b [2,4] [0,0,-1,-1]=39) else false)=true->P
abbrev q7u (b:Book) (P:Prop):Prop:=b=exB->(bif bif bif bif bif bif bif bif bif bif decide (costE b [2,4] [0,0,-1,-1]=0) then decide (givenE b [2,4] true=0) else false then decide (givenE b [2,4] (isCt b 1)=0) else false then decide (checkB b=0) else false then decide (openE b (isCt b 1)=0) else false then decide (twE b exD=0) else false then decide (costN b [2,4] [0,0,-1,-1]=39) else false then sameInts (billL b [2,4]) [-1,1,1,1] else false then decide (worthN b [2,4] 1=1) else false then decide ((owedN b).lo=26) && (decide ((owedN b).hi=29) && true) else false then decide (buyN b 1=1) else false)=true->P
theorem w6 (b:Book)
 (o0:b=exB -> ∀ (i1:Nat),i1 < List.length [2,4]->List.getD [[iv 2],[iv 4]] i1 (TI.za ti3) = [iv (List.getD [2,4] i1 0)])
 (o1:b=exB -> ∀ (i3:Nat),i3 < List.length [0,0,-1,-1]->List.getD [[iv 0],[iv 0],[iv (-1)],[iv (-1)]] i3 (TI.za ti3) = [iv (List.getD [0,0,-1,-1] i3 0)])
 (o2:b=exB->smallB b)
 (o3:b=exB -> ∀ (i6:Nat),i6 < List.length [2,4]->List.getD [[iv 2],[iv 4]] i6 (TI.za ti3) = [iv (List.getD [2,4] i6 0)])
 (o4:b=exB->smallB b)
 (o5:b=exB -> ∀ (i9:Nat),i9 < List.length [2,4]->List.getD [[iv 2],[iv 4]] i9 (TI.za ti3) = [iv (List.getD [2,4] i9 0)])
 (o6:b=exB->smallB b)
 (o7:b=exB->smallB b)
 (o8:b=exB->smallB b)
 (o9:b=exB -> ∀ (i18:Nat),i18 < exD.length->List.getD [[iv 0,iv 1],[iv 1,iv 5],[iv 0,iv 1],[iv 1,iv 1]] i18 (TI.za ti54)=cSday (exD.getD i18 default))
 (o10:b=exB->smallB b)
 (o11:q7t b (∀ (i58:Nat),i58 < List.length [-1,1,1,1]->List.getD [[iv (-1)],[iv 1],[iv 1],[iv 1]] i58 (TI.za ti3) = [iv (List.getD [-1,1,1,1] i58 0)]))
 (o12:q7t b ((billL b [2,4]).length<=big))
 (o13:q7u b (∀ (i87:Nat),i87 < List.length [2,3]->List.getD [[iv 2],[iv 3]] i87 (TI.za ti3) = [iv (List.getD [2,3] i87 0)]))
 (o14:q7u b ((twL b exD).length<=big))
 (o15:b=exB->(bif bif bif bif bif bif bif bif bif bif bif decide (costE b [2,4] [0,0,-1,-1]=0) then decide (givenE b [2,4] true=0) else false then decide (givenE b [2,4] (isCt b 1)=0) else false then decide (checkB b=0) else false then decide (openE b (isCt b 1)=0) else false then decide (twE b exD=0) else false then decide (costN b [2,4] [0,0,-1,-1]=39) else false then sameInts (billL b [2,4]) [-1,1,1,1] else false then decide (worthN b [2,4] 1=1) else false then decide ((owedN b).lo=26) && (decide ((owedN b).hi=29) && true) else false then decide (buyN b 1=1) else false then sameInts (twL b exD) [2,3] else false)=true) :
  Triple Tryz.prog 6 (sw6 b):=by
 refine triple_of Tryz.func6 rfl Tryz.call6 T0_ok _ rfl rfl rfl rfl (Nat.le_of_ble_eq_true (by kernel_rfl)) (fun _ _ _ _ h=>h) ?_
 intro hpre C hC _ hE
 obtain ⟨P,w0,E0,av,hA,ro,df⟩:=C
 obtain ⟨rfl,rfl,rfl⟩:=hC
 refine swp_seq ?_
 refine zR [] [] (Ak 1 tv) ?_
 refine swp_seq ?_
 refine zC ([(0,CallSpec.eq (c6e b) [])]) [1] [16] (An (Ak 1 (An (t27o (b)) (An hpre (Ak 1 (fun (i0:Env)=>tv))))) (Ak 2 tv)) ?_
 refine swp_seq ?_
 refine zC ([(3,CallSpec.eq (c6c b) [true,false,false])]) [1,2,3] [16] (Ak 3 (An (An (An (zr (AV.agg (cBk b))) (An (An (zr 1) (An (zr 2) (fun (i1:Nat)=>(fun (y2:i1 < List.length [2,4])=>(o0 hpre i1 y2))))) (An (An (zr 1) (An (zr 4) (fun (i3:Nat)=>(fun (y4:i3 < List.length [0,0,-1,-1])=>(o1 hpre i3 y4))))) tv))) (An (t28 (b) ([2,4]) ([0,0,-1,-1])) (An (An (o2 hpre) (An (by decide:List.length [2,4]<=60000) (by decide:List.length [0,0,-1,-1]<=60000))) (Ak 1 (fun (i5:Env)=>tv))))) (Ak 5 tv))) ?_
 refine swp_seq ?_
 refine zC ([(2,CallSpec.eq (c6b b) [true,false])]) [1,2,3,4,5] [16] (Ak 2 (An (An (An (zr (AV.agg (cBk b))) (An (An (zr 1) (An (zr 2) (fun (i6:Nat)=>(fun (y7:i6 < List.length [2,4])=>(o3 hpre i6 y7))))) tv)) (An (t10 (b) ([2,4])) (An (An (o4 hpre) (by decide:List.length [2,4]<=60000)) (Ak 1 (fun (i8:Env)=>tv))))) (Ak 5 tv))) ?_
 refine swp_seq ?_
 refine zC ([(2,CallSpec.eq (c6w b) [true,false,true])]) [1,2,3,4,5,6,7] [16] (Ak 2 (An (An (An (zr (AV.agg (cBk b))) (An (An (zr 1) (An (zr 2) (fun (i9:Nat)=>(fun (y10:i9 < List.length [2,4])=>(o5 hpre i9 y10))))) (An (zr (iv 1)) tv))) (An (t15 (b) ([2,4]) (1)) (An (An (o6 hpre) (by decide:List.length [2,4]<=60000)) (Ak 1 (fun (i11:Env)=>tv))))) (Ak 5 tv))) ?_
 refine swp_seq ?_
 refine zC ([(1,CallSpec.eq (s18 b) [true])]) [1,2,3,4,5,6,7,8,9] [16,272] (Ak 1 (An (An (An (zr (AV.agg (cBk b))) tv) (An (t18 (b)) (An (o7 hpre) (Ak 1 (fun (i12:Env)=>tv))))) (Ak 6 tv))) ?_
 refine swp_seq ?_
 refine zC ([(1,CallSpec.eq (s20 b 1) [true,true])]) [1,2,3,4,5,6,7,8,9,10,11] [16,272] (Ak 1 (An (An (An (zr (AV.agg (cBk b))) (An (zr (iv 1)) tv)) (An (t20 (b) (1)) (An (o8 hpre) (Ak 1 (fun (i13:Env)=>tv))))) (Ak 5 tv))) ?_
 refine swp_seq ?_
 refine zC ([(1,CallSpec.eq (s30 0 1) [true,true]),(2,CallSpec.eq (s30 1 5) [true,true]),(3,CallSpec.eq (s30 0 1) [true,true]),(4,CallSpec.eq (s30 1 1) [true,true]),(6,CallSpec.eq (c6t b) [true,false])]) [2,3,4,5,6,7,8,9,10,11,12,13] [272] (Ak 1 (An (An (An (zr (iv 0)) (An (zr (iv 1)) tv)) (An (t30 (0) (1)) (Ak 2 (fun (i14:Env)=>tv)))) (An (An (An (zr (iv 1)) (An (zr (iv 5)) tv)) (An (t30 (1) (5)) (Ak 2 (fun (i15:Env)=>tv)))) (An (An (An (zr (iv 0)) (An (zr (iv 1)) tv)) (An (t30 (0) (1)) (Ak 2 (fun (i16:Env)=>tv)))) (An (An (An (zr (iv 1)) (An (zr (iv 1)) tv)) (An (t30 (1) (1)) (Ak 2 (fun (i17:Env)=>tv)))) (Ak 1 (An (An (An (zr (AV.agg (cBk b))) (An (An (zr 2) (An (by decide:4=exD.length) (fun (i18:Nat)=>(fun (y19:i18 < exD.length)=>(o9 hpre i18 y19))))) tv)) (An (t29 (b) (exD)) (An (An (o10 hpre) (by decide:exD.length<=60000)) (Ak 1 (fun (i20:Env)=>tv))))) (Ak 5 tv)))))))) ?_
 refine swp_seq ?_
 refine zC ([(29,CallSpec.eq (c6x b) [false,false]),(47,CallSpec.eq (c6y b) [false,false])]) [0] [] (Ak 3 (An (fun (y21:decide (costE b [2,4] [0,0,-1,-1]=0)=true)=>(An (Ak 1 tv) tv)) (An (fun (y22:decide (costE b [2,4] [0,0,-1,-1]=0)=true)=>(An (An (fun (y23:decide (costE b [2,4] [0,0,-1,-1]=0)=true)=>y22) (Ak 1 tv)) tv)) (An (An (fun (y24:decide (costE b [2,4] [0,0,-1,-1]=0)=true)=>y24) (fun (y25:decide (costE b [2,4] [0,0,-1,-1]=0)=false)=>tv)) (Ak 1 (An (fun (y26:(bif decide (costE b [2,4] [0,0,-1,-1]=0) then decide (givenE b [2,4] true=0) else false)=true)=>(An (Ak 1 tv) tv)) (An (fun (y27:(bif decide (costE b [2,4] [0,0,-1,-1]=0) then decide (givenE b [2,4] true=0) else false)=true)=>(An (An (fun (y28:(bif decide (costE b [2,4] [0,0,-1,-1]=0) then decide (givenE b [2,4] true=0) else false)=true)=>y27) (Ak 1 tv)) tv)) (An (An (fun (y29:(bif decide (costE b [2,4] [0,0,-1,-1]=0) then decide (givenE b [2,4] true=0) else false)=true)=>y29) (fun (y30:(bif decide (costE b [2,4] [0,0,-1,-1]=0) then decide (givenE b [2,4] true=0) else false)=false)=>tv)) (Ak 1 (An (fun (y31:(bif bif decide (costE b [2,4] [0,0,-1,-1]=0) then decide (givenE b [2,4] true=0) else false then decide (givenE b [2,4] (isCt b 1)=0) else false)=true)=>(An (Ak 1 tv) tv)) (An (fun (y32:(bif bif decide (costE b [2,4] [0,0,-1,-1]=0) then decide (givenE b [2,4] true=0) else false then decide (givenE b [2,4] (isCt b 1)=0) else false)=true)=>(An (An (fun (y33:(bif bif decide (costE b [2,4] [0,0,-1,-1]=0) then decide (givenE b [2,4] true=0) else false then decide (givenE b [2,4] (isCt b 1)=0) else false)=true)=>y32) (Ak 1 tv)) tv)) (An (An (fun (y34:(bif bif decide (costE b [2,4] [0,0,-1,-1]=0) then decide (givenE b [2,4] true=0) else false then decide (givenE b [2,4] (isCt b 1)=0) else false)=true)=>y34) (fun (y35:(bif bif decide (costE b [2,4] [0,0,-1,-1]=0) then decide (givenE b [2,4] true=0) else false then decide (givenE b [2,4] (isCt b 1)=0) else false)=false)=>tv)) (Ak 1 (An (fun (y36:(bif bif bif decide (costE b [2,4] [0,0,-1,-1]=0) then decide (givenE b [2,4] true=0) else false then decide (givenE b [2,4] (isCt b 1)=0) else false then decide (checkB b=0) else false)=true)=>(An (Ak 1 tv) tv)) (An (fun (y37:(bif bif bif decide (costE b [2,4] [0,0,-1,-1]=0) then decide (givenE b [2,4] true=0) else false then decide (givenE b [2,4] (isCt b 1)=0) else false then decide (checkB b=0) else false)=true)=>(An (An (fun (y38:(bif bif bif decide (costE b [2,4] [0,0,-1,-1]=0) then decide (givenE b [2,4] true=0) else false then decide (givenE b [2,4] (isCt b 1)=0) else false then decide (checkB b=0) else false)=true)=>y37) (Ak 1 tv)) tv)) (An (An (fun (y39:(bif bif bif decide (costE b [2,4] [0,0,-1,-1]=0) then decide (givenE b [2,4] true=0) else false then decide (givenE b [2,4] (isCt b 1)=0) else false then decide (checkB b=0) else false)=true)=>y39) (fun (y40:(bif bif bif decide (costE b [2,4] [0,0,-1,-1]=0) then decide (givenE b [2,4] true=0) else false then decide (givenE b [2,4] (isCt b 1)=0) else false then decide (checkB b=0) else false)=false)=>tv)) (Ak 1 (An (fun (y41:(bif bif bif bif decide (costE b [2,4] [0,0,-1,-1]=0) then decide (givenE b [2,4] true=0) else false then decide (givenE b [2,4] (isCt b 1)=0) else false then decide (checkB b=0) else false then decide (openE b (isCt b 1)=0) else false)=true)=>(An (Ak 1 tv) tv)) (An (fun (y42:(bif bif bif bif decide (costE b [2,4] [0,0,-1,-1]=0) then decide (givenE b [2,4] true=0) else false then decide (givenE b [2,4] (isCt b 1)=0) else false then decide (checkB b=0) else false then decide (openE b (isCt b 1)=0) else false)=true)=>(An (An (fun (y43:(bif bif bif bif decide (costE b [2,4] [0,0,-1,-1]=0) then decide (givenE b [2,4] true=0) else false then decide (givenE b [2,4] (isCt b 1)=0) else false then decide (checkB b=0) else false then decide (openE b (isCt b 1)=0) else false)=true)=>y42) (Ak 1 tv)) tv)) (An (An (fun (y44:(bif bif bif bif decide (costE b [2,4] [0,0,-1,-1]=0) then decide (givenE b [2,4] true=0) else false then decide (givenE b [2,4] (isCt b 1)=0) else false then decide (checkB b=0) else false then decide (openE b (isCt b 1)=0) else false)=true)=>y44) (fun (y45:(bif bif bif bif decide (costE b [2,4] [0,0,-1,-1]=0) then decide (givenE b [2,4] true=0) else false then decide (givenE b [2,4] (isCt b 1)=0) else false then decide (checkB b=0) else false then decide (openE b (isCt b 1)=0) else false)=false)=>tv)) (Ak 1 (An (fun (y46:(bif bif bif bif bif decide (costE b [2,4] [0,0,-1,-1]=0) then decide (givenE b [2,4] true=0) else false then decide (givenE b [2,4] (isCt b 1)=0) else false then decide (checkB b=0) else false then decide (openE b (isCt b 1)=0) else false then decide (twE b exD=0) else false)=true)=>(An (Ak 1 tv) tv)) (An (fun (y47:(bif bif bif bif bif decide (costE b [2,4] [0,0,-1,-1]=0) then decide (givenE b [2,4] true=0) else false then decide (givenE b [2,4] (isCt b 1)=0) else false then decide (checkB b=0) else false then decide (openE b (isCt b 1)=0) else false then decide (twE b exD=0) else false)=true)=>(An (An (fun (y48:(bif bif bif bif bif decide (costE b [2,4] [0,0,-1,-1]=0) then decide (givenE b [2,4] true=0) else false then decide (givenE b [2,4] (isCt b 1)=0) else false then decide (checkB b=0) else false then decide (openE b (isCt b 1)=0) else false then decide (twE b exD=0) else false)=true)=>y47) (Ak 1 tv)) tv)) (An (An (fun (y49:(bif bif bif bif bif decide (costE b [2,4] [0,0,-1,-1]=0) then decide (givenE b [2,4] true=0) else false then decide (givenE b [2,4] (isCt b 1)=0) else false then decide (checkB b=0) else false then decide (openE b (isCt b 1)=0) else false then decide (twE b exD=0) else false)=true)=>y49) (fun (y50:(bif bif bif bif bif decide (costE b [2,4] [0,0,-1,-1]=0) then decide (givenE b [2,4] true=0) else false then decide (givenE b [2,4] (isCt b 1)=0) else false then decide (checkB b=0) else false then decide (openE b (isCt b 1)=0) else false then decide (twE b exD=0) else false)=false)=>tv)) (Ak 1 (An (fun (y51:(bif bif bif bif bif bif decide (costE b [2,4] [0,0,-1,-1]=0) then decide (givenE b [2,4] true=0) else false then decide (givenE b [2,4] (isCt b 1)=0) else false then decide (checkB b=0) else false then decide (openE b (isCt b 1)=0) else false then decide (twE b exD=0) else false then decide (costN b [2,4] [0,0,-1,-1]=39) else false)=true)=>(An (Ak 1 tv) tv)) (An (fun (y52:(bif bif bif bif bif bif decide (costE b [2,4] [0,0,-1,-1]=0) then decide (givenE b [2,4] true=0) else false then decide (givenE b [2,4] (isCt b 1)=0) else false then decide (checkB b=0) else false then decide (openE b (isCt b 1)=0) else false then decide (twE b exD=0) else false then decide (costN b [2,4] [0,0,-1,-1]=39) else false)=true)=>(An (Ak 4 tv) tv)) (An (fun (y53:(bif bif bif bif bif bif decide (costE b [2,4] [0,0,-1,-1]=0) then decide (givenE b [2,4] true=0) else false then decide (givenE b [2,4] (isCt b 1)=0) else false then decide (checkB b=0) else false then decide (openE b (isCt b 1)=0) else false then decide (twE b exD=0) else false then decide (costN b [2,4] [0,0,-1,-1]=39) else false)=true)=>(An (Ak 1 (An (fun (y54:(bif bif bif bif bif bif decide (costE b [2,4] [0,0,-1,-1]=0) then decide (givenE b [2,4] true=0) else false then decide (givenE b [2,4] (isCt b 1)=0) else false then decide (checkB b=0) else false then decide (openE b (isCt b 1)=0) else false then decide (twE b exD=0) else false then decide (costN b [2,4] [0,0,-1,-1]=39) else false)=true)=>y53) (An (fun (y55:(bif bif bif bif bif bif decide (costE b [2,4] [0,0,-1,-1]=0) then decide (givenE b [2,4] true=0) else false then decide (givenE b [2,4] (isCt b 1)=0) else false then decide (checkB b=0) else false then decide (openE b (isCt b 1)=0) else false then decide (twE b exD=0) else false then decide (costN b [2,4] [0,0,-1,-1]=39) else false)=true)=>y53) tv))) (An (An (An (zr 1) (An (zr (billL b [2,4]).length) (fun (i56:Nat)=>(fun (y57:i56 < (billL b [2,4]).length)=>(zr ([iv ((billL b [2,4]).getD i56 0)])))))) (An (An (zr 1) (An (zr 4) (fun (i58:Nat)=>(fun (y59:i58 < List.length [-1,1,1,1])=>(o11 hpre y53 i58 y59))))) tv)) (An (t12 (billL b [2,4]) ([-1,1,1,1])) (An (o12 hpre y53) (Ak 1 (fun (i60:Env)=>tv))))))) (An (An (fun (y61:(bif bif bif bif bif bif decide (costE b [2,4] [0,0,-1,-1]=0) then decide (givenE b [2,4] true=0) else false then decide (givenE b [2,4] (isCt b 1)=0) else false then decide (checkB b=0) else false then decide (openE b (isCt b 1)=0) else false then decide (twE b exD=0) else false then decide (costN b [2,4] [0,0,-1,-1]=39) else false)=true)=>y61) (fun (y62:(bif bif bif bif bif bif decide (costE b [2,4] [0,0,-1,-1]=0) then decide (givenE b [2,4] true=0) else false then decide (givenE b [2,4] (isCt b 1)=0) else false then decide (checkB b=0) else false then decide (openE b (isCt b 1)=0) else false then decide (twE b exD=0) else false then decide (costN b [2,4] [0,0,-1,-1]=39) else false)=false)=>tv)) (Ak 1 (An (fun (y63:(bif bif bif bif bif bif bif decide (costE b [2,4] [0,0,-1,-1]=0) then decide (givenE b [2,4] true=0) else false then decide (givenE b [2,4] (isCt b 1)=0) else false then decide (checkB b=0) else false then decide (openE b (isCt b 1)=0) else false then decide (twE b exD=0) else false then decide (costN b [2,4] [0,0,-1,-1]=39) else false then sameInts (billL b [2,4]) [-1,1,1,1] else false)=true)=>(An (Ak 1 tv) tv)) (An (fun (y64:(bif bif bif bif bif bif bif decide (costE b [2,4] [0,0,-1,-1]=0) then decide (givenE b [2,4] true=0) else false then decide (givenE b [2,4] (isCt b 1)=0) else false then decide (checkB b=0) else false then decide (openE b (isCt b 1)=0) else false then decide (twE b exD=0) else false then decide (costN b [2,4] [0,0,-1,-1]=39) else false then sameInts (billL b [2,4]) [-1,1,1,1] else false)=true)=>(An (An (fun (y65:(bif bif bif bif bif bif bif decide (costE b [2,4] [0,0,-1,-1]=0) then decide (givenE b [2,4] true=0) else false then decide (givenE b [2,4] (isCt b 1)=0) else false then decide (checkB b=0) else false then decide (openE b (isCt b 1)=0) else false then decide (twE b exD=0) else false then decide (costN b [2,4] [0,0,-1,-1]=39) else false then sameInts (billL b [2,4]) [-1,1,1,1] else false)=true)=>y64) (Ak 1 tv)) tv)) (An (An (fun (y66:(bif bif bif bif bif bif bif decide (costE b [2,4] [0,0,-1,-1]=0) then decide (givenE b [2,4] true=0) else false then decide (givenE b [2,4] (isCt b 1)=0) else false then decide (checkB b=0) else false then decide (openE b (isCt b 1)=0) else false then decide (twE b exD=0) else false then decide (costN b [2,4] [0,0,-1,-1]=39) else false then sameInts (billL b [2,4]) [-1,1,1,1] else false)=true)=>y66) (fun (y67:(bif bif bif bif bif bif bif decide (costE b [2,4] [0,0,-1,-1]=0) then decide (givenE b [2,4] true=0) else false then decide (givenE b [2,4] (isCt b 1)=0) else false then decide (checkB b=0) else false then decide (openE b (isCt b 1)=0) else false then decide (twE b exD=0) else false then decide (costN b [2,4] [0,0,-1,-1]=39) else false then sameInts (billL b [2,4]) [-1,1,1,1] else false)=false)=>tv)) (Ak 1 (An (fun (y68:(bif bif bif bif bif bif bif bif decide (costE b [2,4] [0,0,-1,-1]=0) then decide (givenE b [2,4] true=0) else false then decide (givenE b [2,4] (isCt b 1)=0) else false then decide (checkB b=0) else false then decide (openE b (isCt b 1)=0) else false then decide (twE b exD=0) else false then decide (costN b [2,4] [0,0,-1,-1]=39) else false then sameInts (billL b [2,4]) [-1,1,1,1] else false then decide (worthN b [2,4] 1=1) else false)=true)=>(An (Ak 1 tv) tv)) (An (fun (y69:(bif bif bif bif bif bif bif bif decide (costE b [2,4] [0,0,-1,-1]=0) then decide (givenE b [2,4] true=0) else false then decide (givenE b [2,4] (isCt b 1)=0) else false then decide (checkB b=0) else false then decide (openE b (isCt b 1)=0) else false then decide (twE b exD=0) else false then decide (costN b [2,4] [0,0,-1,-1]=39) else false then sameInts (billL b [2,4]) [-1,1,1,1] else false then decide (worthN b [2,4] 1=1) else false)=true)=>(An (Ak 2 tv) tv)) (An (fun (y70:(bif bif bif bif bif bif bif bif decide (costE b [2,4] [0,0,-1,-1]=0) then decide (givenE b [2,4] true=0) else false then decide (givenE b [2,4] (isCt b 1)=0) else false then decide (checkB b=0) else false then decide (openE b (isCt b 1)=0) else false then decide (twE b exD=0) else false then decide (costN b [2,4] [0,0,-1,-1]=39) else false then sameInts (billL b [2,4]) [-1,1,1,1] else false then decide (worthN b [2,4] 1=1) else false)=true)=>(An (An (fun (y71:(bif bif bif bif bif bif bif bif decide (costE b [2,4] [0,0,-1,-1]=0) then decide (givenE b [2,4] true=0) else false then decide (givenE b [2,4] (isCt b 1)=0) else false then decide (checkB b=0) else false then decide (openE b (isCt b 1)=0) else false then decide (twE b exD=0) else false then decide (costN b [2,4] [0,0,-1,-1]=39) else false then sameInts (billL b [2,4]) [-1,1,1,1] else false then decide (worthN b [2,4] 1=1) else false)=true)=>y70) (An (fun (y72:(bif bif bif bif bif bif bif bif decide (costE b [2,4] [0,0,-1,-1]=0) then decide (givenE b [2,4] true=0) else false then decide (givenE b [2,4] (isCt b 1)=0) else false then decide (checkB b=0) else false then decide (openE b (isCt b 1)=0) else false then decide (twE b exD=0) else false then decide (costN b [2,4] [0,0,-1,-1]=39) else false then sameInts (billL b [2,4]) [-1,1,1,1] else false then decide (worthN b [2,4] 1=1) else false)=true)=>y70) tv)) tv)) (An (An (fun (y73:(bif bif bif bif bif bif bif bif decide (costE b [2,4] [0,0,-1,-1]=0) then decide (givenE b [2,4] true=0) else false then decide (givenE b [2,4] (isCt b 1)=0) else false then decide (checkB b=0) else false then decide (openE b (isCt b 1)=0) else false then decide (twE b exD=0) else false then decide (costN b [2,4] [0,0,-1,-1]=39) else false then sameInts (billL b [2,4]) [-1,1,1,1] else false then decide (worthN b [2,4] 1=1) else false)=true)=>y73) (fun (y74:(bif bif bif bif bif bif bif bif decide (costE b [2,4] [0,0,-1,-1]=0) then decide (givenE b [2,4] true=0) else false then decide (givenE b [2,4] (isCt b 1)=0) else false then decide (checkB b=0) else false then decide (openE b (isCt b 1)=0) else false then decide (twE b exD=0) else false then decide (costN b [2,4] [0,0,-1,-1]=39) else false then sameInts (billL b [2,4]) [-1,1,1,1] else false then decide (worthN b [2,4] 1=1) else false)=false)=>tv)) (Ak 1 (An (fun (y75:(bif bif bif bif bif bif bif bif bif decide (costE b [2,4] [0,0,-1,-1]=0) then decide (givenE b [2,4] true=0) else false then decide (givenE b [2,4] (isCt b 1)=0) else false then decide (checkB b=0) else false then decide (openE b (isCt b 1)=0) else false then decide (twE b exD=0) else false then decide (costN b [2,4] [0,0,-1,-1]=39) else false then sameInts (billL b [2,4]) [-1,1,1,1] else false then decide (worthN b [2,4] 1=1) else false then decide ((owedN b).lo=26) && (decide ((owedN b).hi=29) && true) else false)=true)=>(An (Ak 1 tv) tv)) (An (fun (y76:(bif bif bif bif bif bif bif bif bif decide (costE b [2,4] [0,0,-1,-1]=0) then decide (givenE b [2,4] true=0) else false then decide (givenE b [2,4] (isCt b 1)=0) else false then decide (checkB b=0) else false then decide (openE b (isCt b 1)=0) else false then decide (twE b exD=0) else false then decide (costN b [2,4] [0,0,-1,-1]=39) else false then sameInts (billL b [2,4]) [-1,1,1,1] else false then decide (worthN b [2,4] 1=1) else false then decide ((owedN b).lo=26) && (decide ((owedN b).hi=29) && true) else false)=true)=>(An (An (fun (y77:(bif bif bif bif bif bif bif bif bif decide (costE b [2,4] [0,0,-1,-1]=0) then decide (givenE b [2,4] true=0) else false then decide (givenE b [2,4] (isCt b 1)=0) else false then decide (checkB b=0) else false then decide (openE b (isCt b 1)=0) else false then decide (twE b exD=0) else false then decide (costN b [2,4] [0,0,-1,-1]=39) else false then sameInts (billL b [2,4]) [-1,1,1,1] else false then decide (worthN b [2,4] 1=1) else false then decide ((owedN b).lo=26) && (decide ((owedN b).hi=29) && true) else false)=true)=>y76) (Ak 1 tv)) tv)) (An (An (fun (y78:(bif bif bif bif bif bif bif bif bif decide (costE b [2,4] [0,0,-1,-1]=0) then decide (givenE b [2,4] true=0) else false then decide (givenE b [2,4] (isCt b 1)=0) else false then decide (checkB b=0) else false then decide (openE b (isCt b 1)=0) else false then decide (twE b exD=0) else false then decide (costN b [2,4] [0,0,-1,-1]=39) else false then sameInts (billL b [2,4]) [-1,1,1,1] else false then decide (worthN b [2,4] 1=1) else false then decide ((owedN b).lo=26) && (decide ((owedN b).hi=29) && true) else false)=true)=>y78) (fun (y79:(bif bif bif bif bif bif bif bif bif decide (costE b [2,4] [0,0,-1,-1]=0) then decide (givenE b [2,4] true=0) else false then decide (givenE b [2,4] (isCt b 1)=0) else false then decide (checkB b=0) else false then decide (openE b (isCt b 1)=0) else false then decide (twE b exD=0) else false then decide (costN b [2,4] [0,0,-1,-1]=39) else false then sameInts (billL b [2,4]) [-1,1,1,1] else false then decide (worthN b [2,4] 1=1) else false then decide ((owedN b).lo=26) && (decide ((owedN b).hi=29) && true) else false)=false)=>tv)) (Ak 1 (An (fun (y80:(bif bif bif bif bif bif bif bif bif bif decide (costE b [2,4] [0,0,-1,-1]=0) then decide (givenE b [2,4] true=0) else false then decide (givenE b [2,4] (isCt b 1)=0) else false then decide (checkB b=0) else false then decide (openE b (isCt b 1)=0) else false then decide (twE b exD=0) else false then decide (costN b [2,4] [0,0,-1,-1]=39) else false then sameInts (billL b [2,4]) [-1,1,1,1] else false then decide (worthN b [2,4] 1=1) else false then decide ((owedN b).lo=26) && (decide ((owedN b).hi=29) && true) else false then decide (buyN b 1=1) else false)=true)=>(An (Ak 1 tv) tv)) (An (fun (y81:(bif bif bif bif bif bif bif bif bif bif decide (costE b [2,4] [0,0,-1,-1]=0) then decide (givenE b [2,4] true=0) else false then decide (givenE b [2,4] (isCt b 1)=0) else false then decide (checkB b=0) else false then decide (openE b (isCt b 1)=0) else false then decide (twE b exD=0) else false then decide (costN b [2,4] [0,0,-1,-1]=39) else false then sameInts (billL b [2,4]) [-1,1,1,1] else false then decide (worthN b [2,4] 1=1) else false then decide ((owedN b).lo=26) && (decide ((owedN b).hi=29) && true) else false then decide (buyN b 1=1) else false)=true)=>(An (Ak 2 tv) tv)) (An (fun (y82:(bif bif bif bif bif bif bif bif bif bif decide (costE b [2,4] [0,0,-1,-1]=0) then decide (givenE b [2,4] true=0) else false then decide (givenE b [2,4] (isCt b 1)=0) else false then decide (checkB b=0) else false then decide (openE b (isCt b 1)=0) else false then decide (twE b exD=0) else false then decide (costN b [2,4] [0,0,-1,-1]=39) else false then sameInts (billL b [2,4]) [-1,1,1,1] else false then decide (worthN b [2,4] 1=1) else false then decide ((owedN b).lo=26) && (decide ((owedN b).hi=29) && true) else false then decide (buyN b 1=1) else false)=true)=>(An (Ak 1 (An (fun (y83:(bif bif bif bif bif bif bif bif bif bif decide (costE b [2,4] [0,0,-1,-1]=0) then decide (givenE b [2,4] true=0) else false then decide (givenE b [2,4] (isCt b 1)=0) else false then decide (checkB b=0) else false then decide (openE b (isCt b 1)=0) else false then decide (twE b exD=0) else false then decide (costN b [2,4] [0,0,-1,-1]=39) else false then sameInts (billL b [2,4]) [-1,1,1,1] else false then decide (worthN b [2,4] 1=1) else false then decide ((owedN b).lo=26) && (decide ((owedN b).hi=29) && true) else false then decide (buyN b 1=1) else false)=true)=>y82) (An (fun (y84:(bif bif bif bif bif bif bif bif bif bif decide (costE b [2,4] [0,0,-1,-1]=0) then decide (givenE b [2,4] true=0) else false then decide (givenE b [2,4] (isCt b 1)=0) else false then decide (checkB b=0) else false then decide (openE b (isCt b 1)=0) else false then decide (twE b exD=0) else false then decide (costN b [2,4] [0,0,-1,-1]=39) else false then sameInts (billL b [2,4]) [-1,1,1,1] else false then decide (worthN b [2,4] 1=1) else false then decide ((owedN b).lo=26) && (decide ((owedN b).hi=29) && true) else false then decide (buyN b 1=1) else false)=true)=>y82) tv))) (An (An (An (zr 1) (An (zr (twL b exD).length) (fun (i85:Nat)=>(fun (y86:i85 < (twL b exD).length)=>(zr ([iv ((twL b exD).getD i85 0)])))))) (An (An (zr 1) (An (zr 2) (fun (i87:Nat)=>(fun (y88:i87 < List.length [2,3])=>(o13 hpre y82 i87 y88))))) tv)) (An (t12 (twL b exD) ([2,3])) (An (o14 hpre y82) (Ak 1 (fun (i89:Env)=>tv))))))) (An (An (fun (y90:(bif bif bif bif bif bif bif bif bif bif decide (costE b [2,4] [0,0,-1,-1]=0) then decide (givenE b [2,4] true=0) else false then decide (givenE b [2,4] (isCt b 1)=0) else false then decide (checkB b=0) else false then decide (openE b (isCt b 1)=0) else false then decide (twE b exD=0) else false then decide (costN b [2,4] [0,0,-1,-1]=39) else false then sameInts (billL b [2,4]) [-1,1,1,1] else false then decide (worthN b [2,4] 1=1) else false then decide ((owedN b).lo=26) && (decide ((owedN b).hi=29) && true) else false then decide (buyN b 1=1) else false)=true)=>y90) (fun (y91:(bif bif bif bif bif bif bif bif bif bif decide (costE b [2,4] [0,0,-1,-1]=0) then decide (givenE b [2,4] true=0) else false then decide (givenE b [2,4] (isCt b 1)=0) else false then decide (checkB b=0) else false then decide (openE b (isCt b 1)=0) else false then decide (twE b exD=0) else false then decide (costN b [2,4] [0,0,-1,-1]=39) else false then sameInts (billL b [2,4]) [-1,1,1,1] else false then decide (worthN b [2,4] 1=1) else false then decide ((owedN b).lo=26) && (decide ((owedN b).hi=29) && true) else false then decide (buyN b 1=1) else false)=false)=>tv)) (Ak 1 tv)))))))))))))))))))))))))))))))))))))))))))))))) ?_
 refine swp_ret ?_
 exact zT [] (An (Ak 1 tv) (An (An (cb (o15 hpre)) (zr nilN)) (An (zr true) (An (zr true) (zr true)))))
set_option maxRecDepth 4000
theorem x8_cost:costE exB [2,4] [0,0,-1,-1]=0/\costN exB [2,4] [0,0,-1,-1]=39:=by decide +kernel
theorem x8_bill:givenE exB [2,4] true=0/\billL exB [2,4] = [-1,1,1,1]:=by decide +kernel
theorem x8_worth:givenE exB [2,4] (isCt exB 1)=0/\worthN exB [2,4] 1=1:=by decide +kernel
theorem x8_owed:checkB exB=0/\(owedN exB).lo=26/\(owedN exB).hi=29:=by decide +kernel
theorem x8_buy:openE exB (isCt exB 1)=0/\buyN exB 1=1:=by decide +kernel
theorem x8_twice:twE exB exD=0/\twL exB exD = [2,3]:=by decide +kernel
theorem two_get (x y:Int):∀ i,i < [x,y].length->List.getD [[iv x],[iv y]] i (TI.za ti3) = [iv ([x,y].getD i 0)]:=by
 intro i hi
 have:i=0 ∨ i=1:=by simp at hi; omega
 rcases this with rfl | rfl <;> rfl
theorem four_get (x y z t:Int):∀ i,i < [x,y,z,t].length->List.getD [[iv x],[iv y],[iv z],[iv t]] i (TI.za ti3) = [iv ([x,y,z,t].getD i 0)]:=by
 intro i hi
 have:i=0 ∨ i=1 ∨ i=2 ∨ i=3:=by simp at hi; omega
 rcases this with rfl | rfl | rfl | rfl <;> rfl
theorem small_exB:smallB exB:=by unfold smallB; decide
theorem tw6 (b:Book):Triple Tryz.prog 6 (sw6 b):=by
 apply w6
 all_goals (try delta q7t q7u)
 all_goals (rintro rfl)
 case o0 | o3 | o5=>all_goals exact two_get 2 4
 case o1=>exact four_get 0 0 (-1) (-1)
 case o9 =>
  intro i hi
  have:i=0 ∨ i=1 ∨ i=2 ∨ i=3:=by simp [exD] at hi; omega
  rcases this with rfl | rfl | rfl | rfl <;> rfl
 case o11=>intro _; exact four_get (-1) 1 1 1
 case o13=>intro _; exact two_get 2 3
 all_goals (first | exact small_exB | skip)
 all_goals (
  obtain ⟨a1,a2⟩:=x8_cost
  obtain ⟨b1,b2⟩:=x8_bill
  obtain ⟨c1,c2⟩:=x8_worth
  obtain ⟨d1,d2,d3⟩:=x8_owed
  obtain ⟨e1,e2⟩:=x8_buy
  obtain ⟨g1,g2⟩:=x8_twice
  try simp only [a1,a2,b1,b2,c1,c2,d1,d2,d3,e1,e2,g1,g2]
  intros; first | rfl | decide)
theorem t6:Triple Tryz.prog 6 s6:=⟨(tw6 exB).1,fun _=>(tw6 exB).2 rfl⟩
abbrev q7v (b:Book) (P:Prop):Prop:=fitsB b->hugeB b=false->P
abbrev q7w (b:Book) (P:Prop):Prop:=q7v b ((!decide (checkB b=0))=false->P)
abbrev q7x (b:Book) (x4:Nat) (P:Prop):Prop:=x4<=b.lines.length->P
abbrev q7y (b:Book) (x4:Nat) (P:Prop):Prop:=q7x b x4 (decide ((x4:Int) < (↑(b.lines.length):Int))=true->P)
abbrev q7z (b:Book) (x4:Nat) (P:Prop):Prop:=q7x b x4 (decide ((x4:Int) < (↑(b.lines.length):Int))=false->P)
theorem w5 (b:Book)
 (o0:fitsB b->hugeB b=true->true=farB b)
 (o1:q7v b ((!decide (checkB b=0))=true->false=farB b))
 (o2:q7w b (1=prodTo b 0))
 (o3:q7w b (0=(↑0:Int)))
 (o4:q7w b (0<=b.lines.length))
 (o5:q7w b (∀ (x4:Nat),q7y b x4 (0<=(x4:Int))))
 (o6:q7w b (∀ (x4:Nat),q7y b x4 ((x4:Int) < (↑(b.lines.length):Int))))
 (o7:q7w b (∀ (x4:Nat),q7y b x4 (0<=(x4:Int))))
 (o8:q7w b (∀ (x4:Nat),q7y b x4 ((x4:Int) < (↑(b.lines.length):Int))))
 (o9:q7w b (∀ (x4:Nat),q7y b x4 (inI ((lnB b x4).hi - (lnB b x4).lo))))
 (o10:q7w b (∀ (x4:Nat),q7y b x4 (inI ((lnB b x4).hi - (lnB b x4).lo + 1))))
 (o11:q7w b (∀ (x4:Nat),q7y b x4 (inI (prodTo b x4 * ((lnB b x4).hi - (lnB b x4).lo + 1)))))
 (o12:q7w b (∀ (x4:Nat),q7y b x4 (inI ((x4:Int) + 1))))
 (o13:q7w b (∀ (x4:Nat),q7y b x4 (prodTo b x4 * ((lnB b x4).hi - (lnB b x4).lo + 1)=prodTo b (x4 + 1))))
 (o14:q7w b (∀ (x4:Nat),q7y b x4 ((x4:Int) + 1=(↑(x4 + 1):Int))))
 (o15:q7w b (∀ (x4:Nat),q7y b x4 (x4 + 1<=b.lines.length)))
 (o16:q7w b (∀ (x4:Nat),q7y b x4 (b.lines.length - (x4 + 1) < b.lines.length - x4)))
 (o17:q7w b (∀ (x4:Nat),q7z b x4 ((!decide (12 < prodTo b x4))=true->smallB b)))
 (o18:q7w b (∀ (x4:Nat),q7z b x4 (decide (12 < prodTo b x4)=false->(!decide (12 < prodTo b x4))=true)))
 (o19:q7w b (∀ (x4:Nat),q7z b x4 ((bif decide (12 < prodTo b x4) then true else decide (4 < (↑((stds b).length):Int)))=farB b))) :
  Triple Tryz.prog 5 (s5 b):=by
 refine triple_of Tryz.func5 rfl Tryz.call5 T0_ok _ rfl rfl rfl rfl (Nat.le_of_ble_eq_true (by kernel_rfl)) (fun _ _ _ _ h=>h) ?_
 intro hpre C hC _ hE
 obtain ⟨P,w0,E0,av,hA,ro,df⟩:=C
 obtain ⟨rfl,rfl,rfl⟩:=hC
 refine swp_seq ?_
 refine zR [1] [0] (Ak 2 tv) ?_
 refine swp_seq ?_
 refine swp_seq ?_
 refine zC ([(1,CallSpec.eq (s24 b) [true])]) [1,6] [0] (Ak 1 (An (An (An (zr (AV.agg (cBk b))) tv) (An (t24 (b)) (An hpre (Ak 1 (fun (i0:Env)=>tv))))) tv)) ?_
 refine zI (hugeB b) (fun y1 => ?_) (fun y1 => ?_)
 ·refine swp_seq ?_
  refine zR [2] [] (Ak 1 tv) ?_
  refine swp_ret ?_
  exact zT [] (An (Ak 1 tv) (An (An (cb (o0 hpre y1)) (zr nilN)) (An (zr true) (An (zr true) (zr true)))))
 ·refine swp_skip ?_
  refine swp_seq ?_
  refine swp_seq ?_
  refine zC ([(1,CallSpec.eq (s25 b) [true])]) [1,9] [0] (Ak 1 (An (An (An (zr (AV.agg (cBk b))) tv) (An (t25 (b)) (An hpre (Ak 1 (fun (i2:Env)=>tv))))) (Ak 1 tv))) ?_
  refine zI (!decide (checkB b=0)) (fun y3 => ?_) (fun y3 => ?_)
  ·refine swp_seq ?_
   refine zR [2] [] (Ak 1 tv) ?_
   refine swp_ret ?_
   exact zT [] (An (Ak 1 tv) (An (An (cb (o1 hpre y1 y3)) (zr nilN)) (An (zr true) (An (zr true) (zr true)))))
  ·refine swp_skip ?_
   refine swp_seq ?_
   refine zR [1,3] [0] (Ak 1 tv) ?_
   refine swp_seq ?_
   refine swp_seq ?_
   refine zR [1,3,4] [0] (Ak 1 tv) ?_
   refine swp_block ?_
   refine zL (Hint.ann (h5 b) [(1,AV.ptr 0 [])] [(0,OB.cells 26 (cBk b))] 10072) (zE hE [] [(0,.same 0)] [] [0] (An (An (An (zr (some (Src.same 0))) (zr nilP)) (An (An (ci (o2 hpre y1 y3)) (zr nilN)) (An (An (ci (o3 hpre y1 y3)) (zr nilN)) tv))) (An (An (An (zr (OB.cells 26 (cBk b))) (zr true)) tv) (An (zr true) (zr true))))) (o4 hpre y1 y3) (fun (x4:Nat) hx4 => ?_)
   refine swp_seq ?_
   refine swp_seq ?_
   refine zR [1,3,4,14] [0] (Ak 5 tv) ?_
   refine zI (decide ((x4:Int) < (↑(b.lines.length):Int))) (fun y5 => ?_) (fun y5 => ?_)
   ·refine swp_skip ?_
    refine swp_seq ?_
    refine swp_block ?_
    refine zR [1,3,4] [0] (Ak 4 (An (An (o5 hpre y1 y3 x4 hx4 y5) (o6 hpre y1 y3 x4 hx4 y5)) (Ak 5 (An (An (o7 hpre y1 y3 x4 hx4 y5) (o8 hpre y1 y3 x4 hx4 y5)) (Ak 2 (An (o9 hpre y1 y3 x4 hx4 y5) (An (o10 hpre y1 y3 x4 hx4 y5) (An (o11 hpre y1 y3 x4 hx4 y5) (Ak 1 tv))))))))) ?_
    refine zR [1,3,4] [0] (Ak 1 (An (o12 hpre y1 y3 x4 hx4 y5) (Ak 1 tv))) ?_
    exact zn (zE hE [] [(0,.same 0)] [] [0] (An (An (An (zr (some (Src.same 0))) (zr nilP)) (An (An (ci (o13 hpre y1 y3 x4 hx4 y5)) (zr nilN)) (An (An (ci (o14 hpre y1 y3 x4 hx4 y5)) (zr nilN)) tv))) (An (An (An (zr (OB.cells 26 (cBk b))) (zr true)) tv) (An (zr true) (zr true))))) (o15 hpre y1 y3 x4 hx4 y5) (o16 hpre y1 y3 x4 hx4 y5)
   ·refine swp_exit ?_
    refine swp_seq ?_
    refine zC ([(4,CallSpec.eq (s26 b) [true])]) [2] [] (Ak 3 (An (fun (y6:(!decide (12 < prodTo b x4))=true)=>(An (Ak 1 tv) tv)) (An (fun (y7:(!decide (12 < prodTo b x4))=true)=>(An (Ak 1 (An (fun (y8:(!decide (12 < prodTo b x4))=true)=>y7) tv)) (An (An (zr (AV.agg (cBk b))) tv) (An (t26 (b)) (An (o17 hpre y1 y3 x4 hx4 y5 y7) (Ak 1 (fun (i9:Env)=>tv))))))) (An (fun (y10:(!decide (12 < prodTo b x4))=true)=>(An (An (fun (y11:(!decide (12 < prodTo b x4))=true)=>y10) tv) tv)) (An (fun (y12:(!decide (12 < prodTo b x4))=true)=>(An (An (fun (y13:(!decide (12 < prodTo b x4))=true)=>y12) (Ak 1 tv)) tv)) (An (An (fun (y14:decide (12 < prodTo b x4)=true)=>tv) (fun (y15:decide (12 < prodTo b x4)=false)=>(o18 hpre y1 y3 x4 hx4 y5 y15))) (Ak 1 tv))))))) ?_
    refine swp_ret ?_
    exact zT [] (An (Ak 1 tv) (An (An (cb (o19 hpre y1 y3 x4 hx4 y5)) (zr nilN)) (An (zr true) (An (zr true) (zr true)))))
theorem not_huge {b:Book} (h:hugeB b=false):smallB b:=by
 unfold hugeB at h
 simp only [Bool.or_eq_false_iff,decide_eq_false_iff_not] at h
 exact ⟨by omega,by omega,by omega⟩
theorem prodW_snoc (l:List Span) (s:Span):prodW (l ++ [s])=prodW l * widS s:=by
 induction l with
 | nil=>show widS s * 1=1 * widS s; omega
 | cons x l ih=>show widS x * prodW (l ++ [s])=widS x * prodW l * widS s; rw [ih,Nat.mul_assoc]
theorem prodTo_succ {b:Book} (hs:SoundB b) {i:Nat} (h:i < b.lines.length):prodTo b (i + 1)=prodTo b i * ((lnB b i).hi - (lnB b i).lo + 1):=by
 have hl:=hs.line i h
 unfold prodTo
 rw [take_succ _ default h,prodW_snoc,Int.natCast_mul]
 congr 1
 show ((widS (lnB b i):Nat):Int)=_
 unfold widS; omega
theorem prodTo_in {b:Book} (hs:SoundB b):∀ i,i<=b.lines.length->0<=prodTo b i/\prodTo b i<=10 ^ i:=by
 intro i
 induction i with
 | zero=>intro _; show (0:Int)<=1/\(1:Int)<=1; omega
 | succ i ih =>
  intro h
  have h1:=ih (by omega)
  have hl:=hs.line i (by omega)
  rw [prodTo_succ hs (by omega),Int.pow_succ]
  have h3:(0:Int)<=10 ^ i:=Int.le_trans h1.1 h1.2
  exact ⟨Int.mul_nonneg h1.1 (by omega),Int.mul_le_mul h1.2 (by omega) (by omega) h3⟩
theorem t5 (b:Book):Triple Tryz.prog 5 (s5 b):=by
  apply w5
  all_goals (try delta q7v q7w q7x q7y q7z)
  case o0=>intro hp h; unfold farB; rw [h]; rfl
  all_goals (intro hp h h1; rw [chk_b] at h1)
  case o1=>simp only [Bool.not_eq_true'] at h1; unfold farB; rw [h,h1]; rfl
  all_goals (simp only [Bool.not_eq_false'] at h1; have hs:=ok_soundB h1; have hln:=hs.lines)
  case o2=>rfl
  case o4=>omega
  all_goals (intro x hx hl; simp only [decide_eq_true_eq,decide_eq_false_iff_not] at hl)
  case o17=>intro _; exact not_huge h
  case o18=>intro h2; rw [h2]; rfl
  case o19 => have : x = b.lines.length := by omega
              unfold farB; rw [h,h1,this,Bool.cond_true_left]; rfl
  case o13=>exact (prodTo_succ hs (by omega)).symm
  all_goals (have hlx:=hs.line x (by omega))
  case o11 =>
    have h2:=prodTo_in hs (x + 1) (by omega)
    rw [prodTo_succ hs (by omega)] at h2
    have h3:(10:Int) ^ (x + 1)<=1000:=by
      have:x=0 ∨ x=1 ∨ x=2:=by omega
      rcases this with rfl | rfl | rfl <;> decide
    simp only [inI]; omega
  all_goals (first | omega | (simp only [inI]; omega))
end Go.Ab
namespace Go.Ab
open Go Go.RowKit Go.Proofs Go.Sh Go.En
def s3 (b:Book) (ls:List Int) (c:Int):CallSpec:={ args:=[vBk b,aInts ls,iv c],res:=bv true,pre:=fitsB b/\ls.length<=big }
def e3 (b:Book) (ls:List Int) (c:Int):List (Nat × OB):=[(112,.cells 26 (cBk b))]
def s4 (b:Book) (c:Int):CallSpec:={ args:=[vBk b,iv c],res:=bv true,pre:=fitsB b }
def c4o (b:Book) (c:Int) (id:Nat):CallSpec:=s7o b id
def e4 (b:Book) (c:Int):List (Nat × OB):=[(48,.cells 26 (cBk b))]
end Go.Ab
namespace Go.Ab
open Go Go.RowKit Go.Proofs Go.Sh Go.En
theorem far_huge {b:Book} (h:farB b=false):hugeB b=false:=by
 unfold farB at h; revert h; cases hugeB b <;> simp
abbrev q80 (b:Book) (P:Prop):Prop:=fitsB b->farB b=false->P
theorem w4 (b:Book) (c:Int)
 (o0:q80 b (smallB b))
 (o1:q80 b (smallB b))
 (o2:q80 b (smallB b))
 (o3:q80 b (smallB b))
 (o4:q80 b ((bif bif bif bif bif bif bif decide ((owedN b).lo=(owedN b).lo) && (decide ((owedN b).hi=(owedN b).hi) && true) then decide (checkB b=checkB b) else false then decide (buyN b c=buyN b c) else false then decide (openE b (isCt b c)=openE b (isCt b c)) else false then decide (measN b=measN b) else false then decide (measE b=measE b) else false then decide (b=b) else false then true else false)=true)) :
  Triple Tryz.prog 4 (s4 b c):=by
 refine triple_of Tryz.func4 rfl Tryz.call4 T0_ok _ rfl rfl rfl rfl (Nat.le_of_ble_eq_true (by kernel_rfl)) (fun _ _ _ _ h=>h) ?_
 intro hpre C hC _ hE
 obtain ⟨P,w0,E0,av,hA,ro,df⟩:=C
 obtain ⟨rfl,rfl,rfl⟩:=hC
 refine swp_seq ?_
 refine zR [1,2] [0] (Ak 2 tv) ?_
 refine swp_seq ?_
 refine swp_seq ?_
 refine zC ([(1,CallSpec.eq (s5 b) [true])]) [1,2,19] [0] (Ak 1 (An (An (An (zr (AV.agg (cBk b))) tv) (An (t5 (b)) (An hpre (Ak 1 (fun (i0:Env)=>tv))))) tv)) ?_
 refine zI (farB b) (fun y1 => ?_) (fun y1 => ?_)
 ·refine swp_seq ?_
  refine zC ([(0,CallSpec.eq s6 [])]) [4] [] (An (Ak 1 (An (t6) (Ak 2 (fun (i2:Env)=>tv)))) (Ak 1 tv)) ?_
  refine swp_ret ?_
  exact zT [] (An (Ak 1 tv) (An (An (zr (bv true)) (zr nilN)) (An (zr true) (An (zr true) (zr true)))))
 ·refine swp_skip ?_
  refine swp_seq ?_
  refine zC ([(1,CallSpec.eq (c4o b c 40) [true])]) [1,2,5] [0,48,40,41,42] (Ak 1 (An (An (An (zr (AV.agg (cBk b))) tv) (An (t7o (b) (40)) (An (o0 hpre y1) (Ak 1 (fun (i3:Env)=>tv))))) (Ak 2 tv))) ?_
  refine swp_seq ?_
  refine swp_ent (zE (st2:=ASt.mk [(1,iv c),(2,AV.ptr 0 []),(5,AV.ptr 48 [])] [(48,OB.cells 26 (cBk b)),(0,OB.cells 26 (cBk b))] 64) hE [40,41,42] [(0,.same 0),(48,.same 48)] [1] [0] (An (An (An (zr (iv c)) (zr true)) (An (An (zr (some (Src.same 0))) (zr nilP)) (An (An (zr (some (Src.same 48))) (zr nilP)) tv))) (An (An (An (zr 26) (An (An (An (zr 2) (An (zr b.lines.length) (fun (i4:Nat)=>(fun (y5:i4 < b.lines.length)=>(zr (cSpan (lnB b i4))))))) (An (An (zr 3) (An (zr b.shown.length) (fun (i6:Nat)=>(fun (y7:i6 < b.shown.length)=>(zr (cShn (shB b i6))))))) (An (An (zr (iv b.rate)) (zr nilN)) (An (An (zr (iv b.rep)) (zr nilN)) (An (An (zr 4) (An (zr b.ctrs.length) (fun (i8:Nat)=>(fun (y9:i8 < b.ctrs.length)=>(zr (cCtr (ctB b i8))))))) tv))))) (zr true))) (An (An (zr (OB.cells 26 (cBk b))) (zr true)) tv)) (An (zr true) (zr true))))) ?_
  refine zC ([(1,CallSpec.eq (s18 b) [true])]) [1,2,5,6,7] [0,48,104] (Ak 1 (An (An (An (zr (AV.agg (cBk b))) tv) (An (t18 (b)) (An (o1 hpre y1) (Ak 1 (fun (i10:Env)=>tv))))) (Ak 6 tv))) ?_
  refine swp_seq ?_
  refine zC ([(1,CallSpec.eq (s19 b) [true])]) [1,2,5,6,7,8,9] [0,48,104,168] (Ak 1 (An (An (An (zr (AV.agg (cBk b))) tv) (An (t19 (b)) (An hpre (Ak 1 (fun (i11:Env)=>tv))))) (Ak 6 tv))) ?_
  refine swp_seq ?_
  refine zC ([(2,CallSpec.eq (s20 b c) [true,true])]) [1,2,5,6,7,8,9,10,11] [0,48,104,168] (Ak 2 (An (An (An (zr (AV.agg (cBk b))) (An (zr (iv c)) tv)) (An (t20 (b) (c)) (An (o2 hpre y1) (Ak 1 (fun (i12:Env)=>tv))))) (Ak 5 tv))) ?_
  refine swp_seq ?_
  refine zC ([(2,CallSpec.eq (s21 b c) [true,true])]) [2,5,6,7,8,9,10,11,12,13] [0,48,104,168] (Ak 2 (An (An (An (zr (AV.agg (cBk b))) (An (zr (iv c)) tv)) (An (t21 (b) (c)) (An hpre (Ak 1 (fun (i13:Env)=>tv))))) (Ak 5 tv))) ?_
  refine swp_seq ?_
  refine zC ([(1,CallSpec.eq (s22 b) [true])]) [2,5,6,7,8,9,10,11,12,13,14,15] [0,48,104,168] (Ak 1 (An (An (An (zr (AV.agg (cBk b))) tv) (An (t22 (b)) (An (o3 hpre y1) (Ak 1 (fun (i14:Env)=>tv))))) (Ak 5 tv))) ?_
  refine swp_seq ?_
  refine zC ([(1,CallSpec.eq (s23 b) [true])]) [2,5,6,7,8,9,10,11,12,13,14,15,16,17] [0,48,104,168] (Ak 1 (An (An (An (zr (AV.agg (cBk b))) tv) (An (t23 (b)) (An hpre (Ak 1 (fun (i15:Env)=>tv))))) (Ak 5 tv))) ?_
  refine swp_seq ?_
  refine zC ([(31,CallSpec.eq (s17 b b) [true,true]),(34,CallSpec.eq s6 [])]) [4] [] (Ak 4 (An (fun (y16:(decide ((owedN b).lo=(owedN b).lo) && (decide ((owedN b).hi=(owedN b).hi) && true))=true)=>(An (Ak 1 tv) tv)) (An (fun (y17:(decide ((owedN b).lo=(owedN b).lo) && (decide ((owedN b).hi=(owedN b).hi) && true))=true)=>(An (Ak 1 tv) tv)) (An (fun (y18:(decide ((owedN b).lo=(owedN b).lo) && (decide ((owedN b).hi=(owedN b).hi) && true))=true)=>(An (An (fun (y19:(decide ((owedN b).lo=(owedN b).lo) && (decide ((owedN b).hi=(owedN b).hi) && true))=true)=>y18) (An (fun (y20:(decide ((owedN b).lo=(owedN b).lo) && (decide ((owedN b).hi=(owedN b).hi) && true))=true)=>y18) tv)) tv)) (An (An (fun (y21:(decide ((owedN b).lo=(owedN b).lo) && (decide ((owedN b).hi=(owedN b).hi) && true))=true)=>y21) (fun (y22:(decide ((owedN b).lo=(owedN b).lo) && (decide ((owedN b).hi=(owedN b).hi) && true))=false)=>tv)) (Ak 1 (An (fun (y23:(bif decide ((owedN b).lo=(owedN b).lo) && (decide ((owedN b).hi=(owedN b).hi) && true) then decide (checkB b=checkB b) else false)=true)=>(An (Ak 1 tv) tv)) (An (fun (y24:(bif decide ((owedN b).lo=(owedN b).lo) && (decide ((owedN b).hi=(owedN b).hi) && true) then decide (checkB b=checkB b) else false)=true)=>(An (Ak 1 tv) tv)) (An (fun (y25:(bif decide ((owedN b).lo=(owedN b).lo) && (decide ((owedN b).hi=(owedN b).hi) && true) then decide (checkB b=checkB b) else false)=true)=>(An (An (fun (y26:(bif decide ((owedN b).lo=(owedN b).lo) && (decide ((owedN b).hi=(owedN b).hi) && true) then decide (checkB b=checkB b) else false)=true)=>y25) (An (fun (y27:(bif decide ((owedN b).lo=(owedN b).lo) && (decide ((owedN b).hi=(owedN b).hi) && true) then decide (checkB b=checkB b) else false)=true)=>y25) tv)) tv)) (An (An (fun (y28:(bif decide ((owedN b).lo=(owedN b).lo) && (decide ((owedN b).hi=(owedN b).hi) && true) then decide (checkB b=checkB b) else false)=true)=>y28) (fun (y29:(bif decide ((owedN b).lo=(owedN b).lo) && (decide ((owedN b).hi=(owedN b).hi) && true) then decide (checkB b=checkB b) else false)=false)=>tv)) (Ak 1 (An (fun (y30:(bif bif decide ((owedN b).lo=(owedN b).lo) && (decide ((owedN b).hi=(owedN b).hi) && true) then decide (checkB b=checkB b) else false then decide (buyN b c=buyN b c) else false)=true)=>(An (Ak 1 tv) tv)) (An (fun (y31:(bif bif decide ((owedN b).lo=(owedN b).lo) && (decide ((owedN b).hi=(owedN b).hi) && true) then decide (checkB b=checkB b) else false then decide (buyN b c=buyN b c) else false)=true)=>(An (Ak 1 tv) tv)) (An (fun (y32:(bif bif decide ((owedN b).lo=(owedN b).lo) && (decide ((owedN b).hi=(owedN b).hi) && true) then decide (checkB b=checkB b) else false then decide (buyN b c=buyN b c) else false)=true)=>(An (An (fun (y33:(bif bif decide ((owedN b).lo=(owedN b).lo) && (decide ((owedN b).hi=(owedN b).hi) && true) then decide (checkB b=checkB b) else false then decide (buyN b c=buyN b c) else false)=true)=>y32) (An (fun (y34:(bif bif decide ((owedN b).lo=(owedN b).lo) && (decide ((owedN b).hi=(owedN b).hi) && true) then decide (checkB b=checkB b) else false then decide (buyN b c=buyN b c) else false)=true)=>y32) tv)) tv)) (An (An (fun (y35:(bif bif decide ((owedN b).lo=(owedN b).lo) && (decide ((owedN b).hi=(owedN b).hi) && true) then decide (checkB b=checkB b) else false then decide (buyN b c=buyN b c) else false)=true)=>y35) (fun (y36:(bif bif decide ((owedN b).lo=(owedN b).lo) && (decide ((owedN b).hi=(owedN b).hi) && true) then decide (checkB b=checkB b) else false then decide (buyN b c=buyN b c) else false)=false)=>tv)) (Ak 1 (An (fun (y37:(bif bif bif decide ((owedN b).lo=(owedN b).lo) && (decide ((owedN b).hi=(owedN b).hi) && true) then decide (checkB b=checkB b) else false then decide (buyN b c=buyN b c) else false then decide (openE b (isCt b c)=openE b (isCt b c)) else false)=true)=>(An (Ak 1 tv) tv)) (An (fun (y38:(bif bif bif decide ((owedN b).lo=(owedN b).lo) && (decide ((owedN b).hi=(owedN b).hi) && true) then decide (checkB b=checkB b) else false then decide (buyN b c=buyN b c) else false then decide (openE b (isCt b c)=openE b (isCt b c)) else false)=true)=>(An (Ak 1 tv) tv)) (An (fun (y39:(bif bif bif decide ((owedN b).lo=(owedN b).lo) && (decide ((owedN b).hi=(owedN b).hi) && true) then decide (checkB b=checkB b) else false then decide (buyN b c=buyN b c) else false then decide (openE b (isCt b c)=openE b (isCt b c)) else false)=true)=>(An (An (fun (y40:(bif bif bif decide ((owedN b).lo=(owedN b).lo) && (decide ((owedN b).hi=(owedN b).hi) && true) then decide (checkB b=checkB b) else false then decide (buyN b c=buyN b c) else false then decide (openE b (isCt b c)=openE b (isCt b c)) else false)=true)=>y39) (An (fun (y41:(bif bif bif decide ((owedN b).lo=(owedN b).lo) && (decide ((owedN b).hi=(owedN b).hi) && true) then decide (checkB b=checkB b) else false then decide (buyN b c=buyN b c) else false then decide (openE b (isCt b c)=openE b (isCt b c)) else false)=true)=>y39) tv)) tv)) (An (An (fun (y42:(bif bif bif decide ((owedN b).lo=(owedN b).lo) && (decide ((owedN b).hi=(owedN b).hi) && true) then decide (checkB b=checkB b) else false then decide (buyN b c=buyN b c) else false then decide (openE b (isCt b c)=openE b (isCt b c)) else false)=true)=>y42) (fun (y43:(bif bif bif decide ((owedN b).lo=(owedN b).lo) && (decide ((owedN b).hi=(owedN b).hi) && true) then decide (checkB b=checkB b) else false then decide (buyN b c=buyN b c) else false then decide (openE b (isCt b c)=openE b (isCt b c)) else false)=false)=>tv)) (Ak 1 (An (fun (y44:(bif bif bif bif decide ((owedN b).lo=(owedN b).lo) && (decide ((owedN b).hi=(owedN b).hi) && true) then decide (checkB b=checkB b) else false then decide (buyN b c=buyN b c) else false then decide (openE b (isCt b c)=openE b (isCt b c)) else false then decide (measN b=measN b) else false)=true)=>(An (Ak 1 tv) tv)) (An (fun (y45:(bif bif bif bif decide ((owedN b).lo=(owedN b).lo) && (decide ((owedN b).hi=(owedN b).hi) && true) then decide (checkB b=checkB b) else false then decide (buyN b c=buyN b c) else false then decide (openE b (isCt b c)=openE b (isCt b c)) else false then decide (measN b=measN b) else false)=true)=>(An (Ak 1 tv) tv)) (An (fun (y46:(bif bif bif bif decide ((owedN b).lo=(owedN b).lo) && (decide ((owedN b).hi=(owedN b).hi) && true) then decide (checkB b=checkB b) else false then decide (buyN b c=buyN b c) else false then decide (openE b (isCt b c)=openE b (isCt b c)) else false then decide (measN b=measN b) else false)=true)=>(An (An (fun (y47:(bif bif bif bif decide ((owedN b).lo=(owedN b).lo) && (decide ((owedN b).hi=(owedN b).hi) && true) then decide (checkB b=checkB b) else false then decide (buyN b c=buyN b c) else false then decide (openE b (isCt b c)=openE b (isCt b c)) else false then decide (measN b=measN b) else false)=true)=>y46) (An (fun (y48:(bif bif bif bif decide ((owedN b).lo=(owedN b).lo) && (decide ((owedN b).hi=(owedN b).hi) && true) then decide (checkB b=checkB b) else false then decide (buyN b c=buyN b c) else false then decide (openE b (isCt b c)=openE b (isCt b c)) else false then decide (measN b=measN b) else false)=true)=>y46) tv)) tv)) (An (An (fun (y49:(bif bif bif bif decide ((owedN b).lo=(owedN b).lo) && (decide ((owedN b).hi=(owedN b).hi) && true) then decide (checkB b=checkB b) else false then decide (buyN b c=buyN b c) else false then decide (openE b (isCt b c)=openE b (isCt b c)) else false then decide (measN b=measN b) else false)=true)=>y49) (fun (y50:(bif bif bif bif decide ((owedN b).lo=(owedN b).lo) && (decide ((owedN b).hi=(owedN b).hi) && true) then decide (checkB b=checkB b) else false then decide (buyN b c=buyN b c) else false then decide (openE b (isCt b c)=openE b (isCt b c)) else false then decide (measN b=measN b) else false)=false)=>tv)) (Ak 1 (An (fun (y51:(bif bif bif bif bif decide ((owedN b).lo=(owedN b).lo) && (decide ((owedN b).hi=(owedN b).hi) && true) then decide (checkB b=checkB b) else false then decide (buyN b c=buyN b c) else false then decide (openE b (isCt b c)=openE b (isCt b c)) else false then decide (measN b=measN b) else false then decide (measE b=measE b) else false)=true)=>(An (Ak 1 tv) tv)) (An (fun (y52:(bif bif bif bif bif decide ((owedN b).lo=(owedN b).lo) && (decide ((owedN b).hi=(owedN b).hi) && true) then decide (checkB b=checkB b) else false then decide (buyN b c=buyN b c) else false then decide (openE b (isCt b c)=openE b (isCt b c)) else false then decide (measN b=measN b) else false then decide (measE b=measE b) else false)=true)=>(An (Ak 1 tv) tv)) (An (fun (y53:(bif bif bif bif bif decide ((owedN b).lo=(owedN b).lo) && (decide ((owedN b).hi=(owedN b).hi) && true) then decide (checkB b=checkB b) else false then decide (buyN b c=buyN b c) else false then decide (openE b (isCt b c)=openE b (isCt b c)) else false then decide (measN b=measN b) else false then decide (measE b=measE b) else false)=true)=>(An (Ak 1 (An (fun (y54:(bif bif bif bif bif decide ((owedN b).lo=(owedN b).lo) && (decide ((owedN b).hi=(owedN b).hi) && true) then decide (checkB b=checkB b) else false then decide (buyN b c=buyN b c) else false then decide (openE b (isCt b c)=openE b (isCt b c)) else false then decide (measN b=measN b) else false then decide (measE b=measE b) else false)=true)=>y53) (An (fun (y55:(bif bif bif bif bif decide ((owedN b).lo=(owedN b).lo) && (decide ((owedN b).hi=(owedN b).hi) && true) then decide (checkB b=checkB b) else false then decide (buyN b c=buyN b c) else false then decide (openE b (isCt b c)=openE b (isCt b c)) else false then decide (measN b=measN b) else false then decide (measE b=measE b) else false)=true)=>y53) tv))) (An (An (zr (AV.agg (cBk b))) (An (zr (AV.agg (cBk b))) tv)) (An (t17 (b) (b)) (An hpre (Ak 1 (fun (i56:Env)=>tv))))))) (An (An (fun (y57:(bif bif bif bif bif decide ((owedN b).lo=(owedN b).lo) && (decide ((owedN b).hi=(owedN b).hi) && true) then decide (checkB b=checkB b) else false then decide (buyN b c=buyN b c) else false then decide (openE b (isCt b c)=openE b (isCt b c)) else false then decide (measN b=measN b) else false then decide (measE b=measE b) else false)=true)=>y57) (fun (y58:(bif bif bif bif bif decide ((owedN b).lo=(owedN b).lo) && (decide ((owedN b).hi=(owedN b).hi) && true) then decide (checkB b=checkB b) else false then decide (buyN b c=buyN b c) else false then decide (openE b (isCt b c)=openE b (isCt b c)) else false then decide (measN b=measN b) else false then decide (measE b=measE b) else false)=false)=>tv)) (Ak 1 (An (fun (y59:(bif bif bif bif bif bif decide ((owedN b).lo=(owedN b).lo) && (decide ((owedN b).hi=(owedN b).hi) && true) then decide (checkB b=checkB b) else false then decide (buyN b c=buyN b c) else false then decide (openE b (isCt b c)=openE b (isCt b c)) else false then decide (measN b=measN b) else false then decide (measE b=measE b) else false then decide (b=b) else false)=true)=>(An (Ak 1 tv) (Ak 1 (An (t6) (Ak 2 (fun (i60:Env)=>tv)))))) (An (An (fun (y61:(bif bif bif bif bif bif decide ((owedN b).lo=(owedN b).lo) && (decide ((owedN b).hi=(owedN b).hi) && true) then decide (checkB b=checkB b) else false then decide (buyN b c=buyN b c) else false then decide (openE b (isCt b c)=openE b (isCt b c)) else false then decide (measN b=measN b) else false then decide (measE b=measE b) else false then decide (b=b) else false)=true)=>y61) (fun (y62:(bif bif bif bif bif bif decide ((owedN b).lo=(owedN b).lo) && (decide ((owedN b).hi=(owedN b).hi) && true) then decide (checkB b=checkB b) else false then decide (buyN b c=buyN b c) else false then decide (openE b (isCt b c)=openE b (isCt b c)) else false then decide (measN b=measN b) else false then decide (measE b=measE b) else false then decide (b=b) else false)=false)=>tv)) (Ak 1 tv)))))))))))))))))))))))))))))))))) ?_
  refine swp_ret ?_
  exact zT [] (An (Ak 1 tv) (An (An (cb (o4 hpre y1)) (zr nilN)) (An (zr true) (An (zr true) (zr true)))))
theorem t4 (b:Book) (c:Int):Triple Tryz.prog 4 (s4 b c):=by
 apply w4
 all_goals (try delta q80)
 all_goals (intro hp h1)
 all_goals (try (exact not_huge (far_huge h1)))
 all_goals (simp)
end Go.Ab
