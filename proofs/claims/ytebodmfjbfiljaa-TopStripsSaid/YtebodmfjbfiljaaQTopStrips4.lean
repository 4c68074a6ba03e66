/- Part 4 of the proof: own library, plain forms and walks. -/
import Derived.Test.YtebodmfjbfiljaaQTopStrips3
set_option linter.all false
set_option linter.deprecated false
namespace Go.Ab
open Go Go.RowKit Go.Proofs Go.Sh Go.En
abbrev qs (f:Frm) (Pq:Prop):Prop:=smallF f->Pq
abbrev qt (f:Frm) (x1:Nat) (Pq:Prop):Prop:=x1<=f.columns.length->Pq
abbrev qu (f:Frm) (x1:Nat) (Pq:Prop):Prop:=qt f x1 (decide ((x1:Int) < (↑(f.columns.length):Int))=true->Pq)
abbrev qv (f:Frm) (x1:Nat) (x3:Nat) (Pq:Prop):Prop:=x3<=(col f x1).length->Pq
abbrev qw (f:Frm) (x1:Nat) (x3:Nat) (Pq:Prop):Prop:=qv f x1 x3 (decide ((x3:Int) < (↑((col f x1).length):Int))=true->Pq)
abbrev qx (f:Frm) (x1:Nat) (x3:Nat) (Pq:Prop):Prop:=qv f x1 x3 (decide ((x3:Int) < (↑((col f x1).length):Int))=false->Pq)
abbrev qy (f:Frm) (j0:Nat × Nat) (Pq:Prop):Prop:=j0.1 < f.columns.length/\j0.2 < (col f j0.1).length->True->Pq
theorem wo141 (f:Frm)
 (o0:qs f (0=(↑0:Int)))
 (o1:qs f (List.length (pre95 f 0 0)=0))
 (o2:qs f (0<=List.length (Frm.columns f)))
 (o3:qs f (∀ (x1:Nat),qu f x1 (0<=(x1:Int))))
 (o4:qs f (∀ (x1:Nat),qu f x1 ((x1:Int) < (↑(f.columns.length):Int))))
 (o5:qs f (∀ (x1:Nat),qu f x1 (0=(↑0:Int))))
 (o6:qs f (∀ (x1:Nat),qu f x1 (0<=(col f x1).length)))
 (o7:qs f (∀ (x1:Nat),qu f x1 (∀ (x3:Nat),qw f x1 x3 (0<=(x3:Int)))))
 (o8:qs f (∀ (x1:Nat),qu f x1 (∀ (x3:Nat),qw f x1 x3 ((x3:Int) < (↑((col f x1).length):Int)))))
 (o9:qs f (∀ (x1:Nat),qu f x1 (∀ (x3:Nat),qw f x1 x3 ((x1,x3).1 < f.columns.length/\(x1,x3).2 < (col f (x1,x3).1).length))))
 (o10:qs f (∀ (x1:Nat),qu f x1 (∀ (x3:Nat),qw f x1 x3 (inI ((x3:Int) + 1)))))
 (o11:qs f (∀ (x1:Nat),qu f x1 (∀ (x3:Nat),qw f x1 x3 ((x3:Int) + 1=(↑(x3 + 1):Int)))))
 (o12:qs f (∀ (x1:Nat),qu f x1 (∀ (x3:Nat),qw f x1 x3 (x3 + 1<=(col f x1).length))))
 (o13:qs f (∀ (x1:Nat),qu f x1 (∀ (x3:Nat),qw f x1 x3 ((col f x1).length - (x3 + 1) < (col f x1).length - x3))))
 (o14:qs f (∀ (x1:Nat),qu f x1 (∀ (x3:Nat),qx f x1 x3 (inI ((x1:Int) + 1)))))
 (o15:qs f (∀ (x1:Nat),qu f x1 (∀ (x3:Nat),qx f x1 x3 ((x1:Int) + 1=(↑(x1 + 1):Int)))))
 (o16:qs f (∀ (x1:Nat),qu f x1 (∀ (x3:Nat),qx f x1 x3 ((pre95 f x1 x3).length=(pre95 f (x1 + 1) 0).length))))
 (o17:qs f (∀ (x1:Nat),qu f x1 (∀ (x3:Nat),qx f x1 x3 (∀ (i7:Nat),i7 < (pre95 f x1 x3).length -> [iv ((pre95 f x1 x3).getD i7 0)] = [iv ((pre95 f (x1 + 1) 0).getD i7 0)]))))
 (o18:qs f (∀ (x1:Nat),qu f x1 (∀ (x3:Nat),qx f x1 x3 (x1 + 1<=f.columns.length))))
 (o19:qs f (∀ (x1:Nat),qu f x1 (∀ (x3:Nat),qx f x1 x3 (f.columns.length - (x1 + 1) < f.columns.length - x1))))
 (o20:qs f (∀ (x1:Nat),qt f x1 (decide ((x1:Int) < (↑(f.columns.length):Int))=false->(pre95 f x1 0).length=(allC f).length)))
 (o21:qs f (∀ (x1:Nat),qt f x1 (decide ((x1:Int) < (↑(f.columns.length):Int))=false -> ∀ (i9:Nat),i9 < (pre95 f x1 0).length -> [iv ((pre95 f x1 0).getD i9 0)] = [iv ((allC f).getD i9 0)])))
 (o22:qs f (∀ (j0:Nat × Nat),qy f j0 ((pre95 f j0.1 j0.2).length + 1<=65536)))
 (o23:qs f (∀ (j0:Nat × Nat),qy f j0 ((pre95 f j0.1 j0.2).length + 1=(pre95 f j0.1 (j0.2 + 1)).length)))
 (o24:qs f (∀ (j0:Nat × Nat),qy f j0 (∀ (i11:Nat),i11 < (pre95 f j0.1 j0.2).length + 1->catF (pre95 f j0.1 j0.2).length (fun (i:Nat)=>[iv ((pre95 f j0.1 j0.2).getD i 0)]) (fun (j:Nat)=>List.getD [[iv ((col f j0.1).getD j0.2 0)]] j (TI.za ti3)) i11 = [iv ((pre95 f j0.1 (j0.2 + 1)).getD i11 0)])))
  (l:List (Nat × Nat)) (hl:l.map (·.1)=(OutSpec.hout (ou141 f)).map (·.1)) (hnd:(l.map (·.2)).Nodup) :
  Triple Try.prog 141 (OutSpec.at (ou141 f) l):=by
 refine triple_out Try.func141 rfl Try.call141 T0_ok _ _ _ _ l rfl (Nat.le_of_ble_eq_true (by kernel_rfl)) hl hnd (by kernel_rfl) (by kernel_rfl) (by kernel_rfl) ?_
 intro hpre C hC hE
 obtain ⟨P,w0,E0,av,hA,ro,df⟩:=C
 obtain ⟨rfl,rfl,rfl⟩:=hC
 refine swp_seq ?_
 refine zR [1,2] [0] (Ak 2 tv) ?_
 refine swp_seq ?_
 refine swp_seq ?_
 refine zR [2,6] [0] (Ak 1 tv) ?_
 refine swp_block ?_
 refine zG (r141 f) 24 2000024 0 [2] ([AV.rp (cFrm f)]) Try.func126 Try.call126 rfl (fun C hC hY0 hE => ?_) (fun (j0:Nat × Nat) hj0 hp0 C hC hE => ?_) ?_
 ·obtain ⟨P,w0,E0,av,hA,ro,df⟩:=C
  subst hC
  refine swp_seq ?_
  refine zR [0,8,9,10] [0] (Ak 4 tv) ?_
  refine swp_block ?_
  refine zL (Hint.ann (h95a f) [(0,AV.fn 0),(8,AV.sl 1 f.columns.length fun (i:Nat)=>[aInts (col f i)]),(9,iv (↑(f.columns.length):Int))] [] 10056) (zEn 24 hE [] [(0,.same 0),(5000,.nil)] [0,8,9] [] (An (An (An (zr (AV.fn 0)) (zr true)) (An (An (zr (AV.sl 1 f.columns.length fun (i:Nat)=>[aInts (col f i)])) (zr true)) (An (An (zr (iv (↑(f.columns.length):Int))) (zr true)) (An (An (ci (o0 hpre)) (zr nilN)) tv)))) (An (An (An (zr 26) (An (An (zr (some Src.nil)) tv) (zr true))) (An (o1 hpre) tv)) (An (zr true) (zr true))))) (o2 hpre) (fun (x1:Nat) hx1 => ?_)
  refine swp_seq ?_
  refine zR [0,8,9,10,11] [0,5000] (Ak 1 tv) ?_
  refine swp_seq ?_
  refine zI (decide ((x1:Int) < (↑(f.columns.length):Int))) (fun y2 => ?_) (fun y2 => ?_)
  ·refine swp_skip ?_
   refine swp_seq ?_
   refine swp_block ?_
   refine swp_seq ?_
   refine zR [0,8,9,10,4] [0,5000] (An (An (o3 hpre x1 hx1 y2) (o4 hpre x1 hx1 y2)) (Ak 2 tv)) ?_
   refine swp_seq ?_
   refine zR [0,8,9,10,14,15,16] [0,5000] (Ak 3 tv) ?_
   refine swp_block ?_
   refine zL (Hint.ann (h95b f x1) [(0,AV.fn 0),(8,AV.sl 1 f.columns.length fun (i:Nat)=>[aInts (col f i)]),(9,iv (↑(f.columns.length):Int)),(10,iv (x1:Int)),(14,aInts (col f x1)),(15,iv (↑((col f x1).length):Int))] [] 20112) (zEn 24 hE [] [(0,.same 0),(5000,.same 5000)] [0,8,9,10,14,15] [5000] (An (An (An (zr (AV.fn 0)) (zr true)) (An (An (zr (AV.sl 1 f.columns.length fun (i:Nat)=>[aInts (col f i)])) (zr true)) (An (An (zr (iv (↑(f.columns.length):Int))) (zr true)) (An (An (zr (iv (x1:Int))) (zr true)) (An (An (zr (aInts (col f x1))) (zr true)) (An (An (zr (iv (↑((col f x1).length):Int))) (zr true)) (An (An (ci (o5 hpre x1 hx1 y2)) (zr nilN)) tv))))))) (An (An (An (zr 26) (An (An (zr (some (Src.same 5000))) tv) (zr true))) (An (An (zr (OB.vec 3 1 (pre95 f x1 0).length fun (i:Nat)=>[iv ((pre95 f x1 0).getD i 0)])) (zr true)) tv)) (An (zr true) (zr true))))) (o6 hpre x1 hx1 y2) (fun (x3:Nat) hx3 => ?_)
   refine swp_seq ?_
   refine zR [0,8,9,10,14,15,16,17] [0,5000] (Ak 1 tv) ?_
   refine swp_seq ?_
   refine zI (decide ((x3:Int) < (↑((col f x1).length):Int))) (fun y4 => ?_) (fun y4 => ?_)
   ·refine swp_skip ?_
    refine swp_seq ?_
    refine swp_block ?_
    refine swp_seq ?_
    refine zR [0,8,9,10,14,15,16,6] [0,5000] (An (An (o7 hpre x1 hx1 y2 x3 hx3 y4) (o8 hpre x1 hx1 y2 x3 hx3 y4)) (Ak 2 tv)) ?_
    refine swp_seq ?_
    refine zC ([(2,CallSpec.eq (y141 f x1 x3) [true])]) [0,8,9,10,14,15,16,23] [0,20160] (Ak 2 (An (An (An (zr (iv ((col f x1).getD x3 0))) tv) (An (hY0 ((x1,x3)) (o9 hpre x1 hx1 y2 x3 hx3 y4)) (Ak 1 (An (zr (some (OB.cells 26 [AV.vec 5000]))) (An (zr (some (OB.vec 3 1 (pre95 f x1 x3).length fun (i:Nat)=>[iv ((pre95 f x1 x3).getD i 0)]))) tv))))) (Ak 1 tv))) ?_
    refine zf ?_
    refine swp_skip ?_
    refine zR [0,8,9,10,14,15,16] [0,20160] (An (o10 hpre x1 hx1 y2 x3 hx3 y4) (Ak 1 tv)) ?_
    exact zn (zEn 24 hE [] [(0,.same 0),(5000,.same 20160)] [0,8,9,10,14,15] [] (An (An (An (zr (AV.fn 0)) (zr true)) (An (An (zr (AV.sl 1 f.columns.length fun (i:Nat)=>[aInts (col f i)])) (zr true)) (An (An (zr (iv (↑(f.columns.length):Int))) (zr true)) (An (An (zr (iv (x1:Int))) (zr true)) (An (An (zr (aInts (col f x1))) (zr true)) (An (An (zr (iv (↑((col f x1).length):Int))) (zr true)) (An (An (ci (o11 hpre x1 hx1 y2 x3 hx3 y4)) (zr nilN)) tv))))))) (An (An (An (zr 26) (An (An (zr (some (Src.same 20160))) tv) (zr true))) (An (An (zr 3) (An (zr 1) (An (zr (pre95 f x1 (x3 + 1)).length) (fun (i5:Nat)=>(fun (y6:i5 < (pre95 f x1 (x3 + 1)).length)=>(zr ([iv ((pre95 f x1 (x3 + 1)).getD i5 0)]))))))) tv)) (An (zr true) (zr true))))) (o12 hpre x1 hx1 y2 x3 hx3 y4) (o13 hpre x1 hx1 y2 x3 hx3 y4)
   ·refine swp_exit ?_
    refine zR [0,8,9,10] [0,5000] (An (o14 hpre x1 hx1 y2 x3 hx3 y4) (Ak 1 tv)) ?_
    exact zn (zEn 24 hE [] [(0,.same 0),(5000,.same 5000)] [0,8,9] [] (An (An (An (zr (AV.fn 0)) (zr true)) (An (An (zr (AV.sl 1 f.columns.length fun (i:Nat)=>[aInts (col f i)])) (zr true)) (An (An (zr (iv (↑(f.columns.length):Int))) (zr true)) (An (An (ci (o15 hpre x1 hx1 y2 x3 hx3 y4)) (zr nilN)) tv)))) (An (An (An (zr 26) (An (An (zr (some (Src.same 5000))) tv) (zr true))) (An (An (zr 3) (An (zr 1) (An (o16 hpre x1 hx1 y2 x3 hx3 y4) (fun (i7:Nat)=>(fun (y8:i7 < (pre95 f x1 x3).length)=>(o17 hpre x1 hx1 y2 x3 hx3 y4 i7 y8)))))) tv)) (An (zr true) (zr true))))) (o18 hpre x1 hx1 y2 x3 hx3 y4) (o19 hpre x1 hx1 y2 x3 hx3 y4)
  ·refine swp_exit ?_
   exact zm (zEn 24 hE [] [(0,.same 0),(5000,.same 5000)] [] [] (Ak 1 (An (An (An (zr 26) (An (An (zr (some (Src.same 5000))) tv) (zr true))) (An (An (zr 3) (An (zr 1) (An (o20 hpre x1 hx1 y2) (fun (i9:Nat)=>(fun (y10:i9 < (pre95 f x1 0).length)=>(o21 hpre x1 hx1 y2 i9 y10)))))) tv)) (An (zr true) (zr true)))))
 ·obtain ⟨P,w0,E0,av,hA,ro,df⟩:=C
  subst hC
  refine zR [2,5] [0,5000] (Ak 1 tv) ?_
  intro C hC hE
  obtain ⟨P,w0,E0,av,hA,ro,df⟩:=C
  subst hC
  refine swp_block ?_
  refine zR [] [0,6032] (Ak 3 (An (o22 hpre j0 hj0 hp0) (Ak 1 tv))) ?_
  exact zN 1006000 (zEn 6000 hE [] [(0,.same 0),(20160,.same 6032)] [] [] (Ak 1 (An (An (An (zr 26) (An (An (zr (some (Src.same 6032))) tv) (zr true))) (An (An (zr 3) (An (zr 1) (An (o23 hpre j0 hj0 hp0) (fun (i11:Nat)=>(fun (y12:i11 < (pre95 f j0.1 j0.2).length + 1)=>(o24 hpre j0 hj0 hp0 i11 y12)))))) tv)) (An (zr true) (zr true)))))
 ·refine swp_seq ?_
  refine zR [4] [5000] (Ak 2 tv) ?_
  refine swp_ret ?_
  exact zO (ASt.mk [(4,AV.vec 0)] [(0,OB.vec 3 1 (allC f).length fun (i:Nat)=>[iv ((allC f).getD i 0)])] 100) (zE hE [] [(0,.same 5000)] [] [] (An (An (zr (some (Src.same 5000))) tv) (An (An (An (zr 3) (An (zr 1) (An (zr (allC f).length) (fun (i13:Nat)=>(fun (y14:i13 < (allC f).length)=>(zr ([iv ((allC f).getD i13 0)]))))))) tv) (An (zr true) (zr true))))) (An (Ak 1 tv) (An (zr (AV.vec 0)) (An (zr (some (OB.vec 3 1 (allC f).length fun (i:Nat)=>[iv ((allC f).getD i 0)]))) tv)))
theorem to141 (f:Frm) (l:List (Nat × Nat)) (hl:l.map (·.1) = [0]) (hnd:(l.map (·.2)).Nodup):Triple Try.prog 141 ((ou141 f).at l):=by
 apply wo141 (l:=l) (hl:=hl) (hnd:=hnd)
 all_goals (try delta qs qt qu qv qw qx qy)
 case o16=>intro hp x hx h k hk h2; simp only [decide_eq_true_eq] at h; simp only [decide_eq_false_iff_not] at h2; rw [pre_next f (by omega) (by omega)]
 case o17=>intro hp x hx h k hk h2 i hi; simp only [decide_eq_true_eq] at h; simp only [decide_eq_false_iff_not] at h2; rw [pre_next f (c:=x) (by omega) (by omega)]
 case o20=>intro hp x hx h; simp only [decide_eq_false_iff_not] at h; rw [pre_end f (by omega)]
 case o21=>intro hp x hx h i hi; simp only [decide_eq_false_iff_not] at h; rw [pre_end f (by omega)]
 case o22=>intro hp j hj _; have:=pre_len f j.1 j.2 64 64 hp.2.2.1 hp.2.2.2; omega
 case o23=>intro hp j hj _; rw [pre_succ f hj.2,List.length_append]; rfl
 case o24 =>
  intro hp j hj _ i hi
  rw [pre_succ f hj.2]
  exact catF_one (pre95 f j.1 j.2) _ 0 (fun x=>[iv x]) rfl (fun k _=>rfl) rfl hi
 case o10=>intro hp x hx h k hk h2; simp only [decide_eq_true_eq] at h2; have:=hp.2.2.2 x; exact ⟨by omega,by omega⟩
 case o14=>intro hp x hx h k hk h2; have:=hp.2.2.1; exact ⟨by omega,by omega⟩
 all_goals (first | ((repeat intro _) <;> (try simp only [Bool.cond_true_left,Bool.cond_false_right,Bool.not_not,Bool.not_eq_true',Bool.not_eq_false',Bool.or_eq_true,Bool.or_eq_false_iff,Bool.and_eq_true,decide_eq_true_eq,decide_eq_false_iff_not,inI,big,fitsF,smallF,goodL] at *) <;> first | (exact rfl) | omega | (exact ⟨Nat.zero_le _,fun j hj=>absurd hj (Nat.not_lt_zero j)⟩) | (simp_all; done) | (simp_all; omega)) | skip)
theorem t141o (f:Frm) (id:Nat):Triple Try.prog 141 (s141o f id):=to141 f _ rfl (by simp)
theorem wo138 (f:Frm)
  (l:List (Nat × Nat)) (hl:l.map (·.1)=(OutSpec.hout (ou138 f)).map (·.1)) (hnd:(l.map (·.2)).Nodup) :
  Triple Try.prog 138 (OutSpec.at (ou138 f) l):=by
 refine triple_out Try.func138 rfl Try.call138 T0_ok _ _ _ _ l rfl (Nat.le_of_ble_eq_true (by kernel_rfl)) hl hnd (by kernel_rfl) (by kernel_rfl) (by kernel_rfl) ?_
 intro hpre C hC hE
 obtain ⟨P,w0,E0,av,hA,ro,df⟩:=C
 obtain ⟨rfl,rfl,rfl⟩:=hC
 refine swp_seq ?_
 refine zR [0] [] (Ak 1 tv) ?_
 refine swp_seq ?_
 refine zC ([(1,CallSpec.eq (c138 f 16) [true,true])]) [2] [16] (Ak 1 (An (An (An (zr (nilv)) (An (zr (AV.clo 126 [AV.rp (cFrm f)])) tv)) (An (t141o (f) (16)) (An hpre (Ak 1 (fun (i0:Env)=>tv))))) (Ak 1 tv))) ?_
 refine swp_ret ?_
 exact zO (ASt.mk [(2,AV.vec 0)] [(0,OB.vec 3 1 (allC f).length fun (i:Nat)=>[iv ((allC f).getD i 0)])] 100) (zE hE [] [(0,.same 16)] [] [] (An (An (zr (some (Src.same 16))) tv) (An (An (An (zr 3) (An (zr 1) (An (zr (allC f).length) (fun (i1:Nat)=>(fun (y2:i1 < (allC f).length)=>(zr ([iv ((allC f).getD i1 0)]))))))) tv) (An (zr true) (zr true))))) (An (Ak 1 tv) (An (zr (AV.vec 0)) (An (zr (some (OB.vec 3 1 (allC f).length fun (i:Nat)=>[iv ((allC f).getD i 0)]))) tv)))
theorem to138 (f:Frm) (l:List (Nat × Nat)) (hl:l.map (·.1) = [0]) (hnd:(l.map (·.2)).Nodup):Triple Try.prog 138 ((ou138 f).at l):=by
 apply wo138 (l:=l) (hl:=hl) (hnd:=hnd)
 all_goals (first | ((repeat intro _) <;> (try simp only [Bool.cond_true_left,Bool.cond_false_right,Bool.not_not,Bool.not_eq_true',Bool.not_eq_false',Bool.or_eq_true,Bool.or_eq_false_iff,Bool.and_eq_true,decide_eq_true_eq,decide_eq_false_iff_not,inI,big,fitsF,smallF,goodL] at *) <;> first | (exact rfl) | omega | (exact ⟨Nat.zero_le _,fun j hj=>absurd hj (Nat.not_lt_zero j)⟩) | (simp_all; done) | (simp_all; omega)) | skip)
theorem t138o (f:Frm) (id:Nat):Triple Try.prog 138 (s138o f id):=to138 f _ rfl (by simp)
theorem w125 (f:Frm)
  (o0:smallF f->List.length (allC f)<=65536)
  (o1:smallF f->(sortI (allC f)).length=(srt f).length)
  (o2:smallF f -> ∀ (i2:Nat),i2 < (srt f).length -> [iv ((sortI (allC f)).getD i2 0)] = [iv ((srt f).getD i2 0)]) :
  Triple Try.prog 125 (s125 f):=by
 refine triple_of Try.func125 rfl Try.call125 T0_ok _ rfl rfl rfl rfl (Nat.le_of_ble_eq_true (by kernel_rfl)) (fun _ _ _ _ h=>h) ?_
 intro hpre C hC _ hE
 obtain ⟨P,w0,E0,av,hA,ro,df⟩:=C
 obtain ⟨rfl,rfl,rfl⟩:=hC
 refine swp_seq ?_
 refine zR [0] [] (Ak 1 tv) ?_
 refine swp_seq ?_
 refine zC ([(1,CallSpec.eq (c125 f 16) [true])]) [3] [16] (Ak 1 (An (An (An (zr (AV.clo 126 [AV.rp (cFrm f)])) tv) (An (t138o (f) (16)) (An hpre (Ak 1 (fun (i0:Env)=>tv))))) (Ak 1 tv))) ?_
 refine swp_seq ?_
 refine zC ([(1,CallSpec.eq (cs125 f) [true])]) [3] [16] (Ak 1 (An (An (An (zr (AV.vec 16)) tv) (An (t139 (16) (allC f)) (An (o0 hpre) (An (An (zr (some (OB.vec 3 1 (allC f).length fun (i:Nat)=>[iv ((allC f).getD i 0)]))) tv) (fun (i1:Env)=>tv))))) tv)) ?_
 refine swp_seq ?_
 refine zR [2] [16] (Ak 2 tv) ?_
 refine swp_ret ?_
 exact zT [16] (An (Ak 1 tv) (An (An (zr 1) (An (o1 hpre) (fun (i2:Nat)=>(fun (y3:i2 < (srt f).length)=>(o2 hpre i2 y3))))) (An (zr true) (An (zr true) (zr true)))))
theorem t125 (f:Frm):Triple Try.prog 125 (s125 f):=by
 apply w125
 case o0=>intro hp; have:=all_len3 f 64 64 hp.2.2.1 hp.2.2.2; omega
 all_goals (try ((repeat intro _) <;> (try simp only [Bool.cond_true_left,Bool.cond_false_right,Bool.not_not,Bool.not_eq_true',Bool.not_eq_false',Bool.or_eq_true,Bool.or_eq_false_iff,Bool.and_eq_true,decide_eq_true_eq,decide_eq_false_iff_not,inI,big,fitsF,smallF,goodL] at *) <;> first | (exact rfl) | omega | (exact ⟨Nat.zero_le _,fun j hj=>absurd hj (Nat.not_lt_zero j)⟩) | (simp_all; done) | (simp_all; omega)))
theorem w124 (n:Int) (lo:Int) (hi:Int)
  (o0:(bif decide (lo<=n) then decide (n<=hi) else false)=within n lo hi) :
  Triple Try.prog 124 (s124 n lo hi):=by
 refine triple_of Try.func124 rfl Try.call124 T0_ok _ rfl rfl rfl rfl (Nat.le_of_ble_eq_true (by kernel_rfl)) (fun _ _ _ _ h=>h) ?_
 intro _ C hC _ hE
 obtain ⟨P,w0,E0,av,hA,ro,df⟩:=C
 obtain ⟨rfl,rfl,rfl⟩:=hC
 refine swp_seq ?_
 refine zR [0,1,2] [] (Ak 1 tv) ?_
 refine swp_seq ?_
 refine zR [6] [] (Ak 4 (An (fun (y0:decide (lo<=n)=true)=>(An (Ak 1 tv) tv)) (An (fun (y1:decide (lo<=n)=true)=>(An (Ak 1 tv) tv)) (An (fun (y2:decide (lo<=n)=true)=>(An (An (fun (y3:decide (lo<=n)=true)=>y2) (An (fun (y4:decide (lo<=n)=true)=>y2) tv)) tv)) (An (An (fun (y5:decide (lo<=n)=true)=>y5) (fun (y6:decide (lo<=n)=false)=>tv)) (Ak 1 tv)))))) ?_
 refine swp_ret ?_
 exact zT [] (An (Ak 1 tv) (An (An (cb (o0)) (zr nilN)) (An (zr true) (An (zr true) (zr true)))))
theorem t124 (n lo hi:Int):Triple Try.prog 124 (s124 n lo hi):=by
 apply w124
 all_goals (try ((repeat intro _) <;> (try simp only [Bool.cond_true_left,Bool.cond_false_right,Bool.not_not,Bool.not_eq_true',Bool.not_eq_false',Bool.or_eq_true,Bool.or_eq_false_iff,Bool.and_eq_true,decide_eq_true_eq,decide_eq_false_iff_not,inI,big,fitsF,smallF,goodL] at *) <;> first | (exact rfl) | omega | (exact ⟨Nat.zero_le _,fun j hj=>absurd hj (Nat.not_lt_zero j)⟩) | (simp_all; done) | (simp_all; omega)))
theorem w57 (n:Int) (lo:Int) (hi:Int) :
  Triple Try.prog 57 (s57 n lo hi):=by
 refine triple_of Try.func57 rfl Try.call57 T0_ok _ rfl rfl rfl rfl (Nat.le_of_ble_eq_true (by kernel_rfl)) (fun _ _ _ _ h=>h) ?_
 intro _ C hC _ hE
 obtain ⟨P,w0,E0,av,hA,ro,df⟩:=C
 obtain ⟨rfl,rfl,rfl⟩:=hC
 refine swp_seq ?_
 refine zR [0,1,2] [] (Ak 1 tv) ?_
 refine swp_seq ?_
 refine zC ([(3,CallSpec.eq (s46 n lo hi) [true,true,true])]) [6] [] (Ak 3 (An (An (An (zr (iv n)) (An (zr (iv lo)) (An (zr (iv hi)) tv))) (An (t46 (n) (lo) (hi)) (Ak 2 (fun (i0:Env)=>tv)))) (Ak 1 tv))) ?_
 refine swp_ret ?_
 exact zT [] (An (Ak 1 tv) (An (An (zr (bv (within n lo hi))) (zr nilN)) (An (zr true) (An (zr true) (zr true)))))
theorem t57 (n lo hi:Int):Triple Try.prog 57 (s57 n lo hi):=by
 apply w57
 all_goals (try ((repeat intro _) <;> (try simp only [Bool.cond_true_left,Bool.cond_false_right,Bool.not_not,Bool.not_eq_true',Bool.not_eq_false',Bool.or_eq_true,Bool.or_eq_false_iff,Bool.and_eq_true,decide_eq_true_eq,decide_eq_false_iff_not,inI,big,fitsF,smallF,goodL] at *) <;> first | (exact rfl) | omega | (exact ⟨Nat.zero_le _,fun j hj=>absurd hj (Nat.not_lt_zero j)⟩) | (simp_all; done) | (simp_all; omega)))
theorem w59 (f:Frm) (n:Int)
  (o0:fitsF f->inI ((↑(f.pieces.length):Int) - 1))
  (o1:fitsF f->within n 0 ((↑(f.pieces.length):Int) - 1)=isPc f n) :
  Triple Try.prog 59 (s59 f n):=by
 refine triple_of Try.func59 rfl Try.call59 T0_ok _ rfl rfl rfl rfl (Nat.le_of_ble_eq_true (by kernel_rfl)) (fun _ _ _ _ h=>h) ?_
 intro hpre C hC _ hE
 obtain ⟨P,w0,E0,av,hA,ro,df⟩:=C
 obtain ⟨rfl,rfl,rfl⟩:=hC
 refine swp_seq ?_
 refine zR [1,2] [0] (Ak 2 tv) ?_
 refine swp_seq ?_
 refine zC ([(5,CallSpec.eq (s57 n 0 ((↑(f.pieces.length):Int) - 1)) [true,true,true])]) [4] [] (Ak 4 (An (o0 hpre) (An (An (An (zr (iv n)) (An (zr (iv 0)) (An (zr (iv ((↑(f.pieces.length):Int) - 1))) tv))) (An (t57 (n) (0) ((↑(f.pieces.length):Int) - 1)) (Ak 2 (fun (i0:Env)=>tv)))) (Ak 1 tv)))) ?_
 refine swp_ret ?_
 exact zT [] (An (Ak 1 tv) (An (An (cb (o1 hpre)) (zr nilN)) (An (zr true) (An (zr true) (zr true)))))
theorem t59 (f:Frm) (n:Int):Triple Try.prog 59 (s59 f n):=by
 apply w59
 all_goals (try ((repeat intro _) <;> (try simp only [Bool.cond_true_left,Bool.cond_false_right,Bool.not_not,Bool.not_eq_true',Bool.not_eq_false',Bool.or_eq_true,Bool.or_eq_false_iff,Bool.and_eq_true,decide_eq_true_eq,decide_eq_false_iff_not,inI,big,fitsF,smallF,goodL] at *) <;> first | (exact rfl) | omega | (exact ⟨Nat.zero_le _,fun j hj=>absurd hj (Nat.not_lt_zero j)⟩) | (simp_all; done) | (simp_all; omega)))
abbrev qz (f:Frm) (l:List Int) (Pq:Prop):Prop:=Sound f/\goodL f l->Pq
abbrev q10 (l:List Int) (x0:Nat) (Pq:Prop):Prop:=x0<=l.length->Pq
abbrev q11 (l:List Int) (x0:Nat) (Pq:Prop):Prop:=q10 l x0 (decide ((x0:Int) < (↑(l.length):Int))=true->Pq)
theorem w96 (f:Frm) (l:List Int)
 (o0:qz f l (0=(↑0:Int)))
 (o1:qz f l (0=(highP f (List.take 0 l)).lo))
 (o2:qz f l (0=(highP f (List.take 0 l)).hi))
 (o3:qz f l (0<=List.length l))
 (o4:qz f l (∀ (x0:Nat),q11 l x0 (0<=(x0:Int))))
 (o5:qz f l (∀ (x0:Nat),q11 l x0 ((x0:Int) < (↑(l.length):Int))))
 (o6:qz f l (∀ (x0:Nat),q11 l x0 (0<=l.getD x0 0)))
 (o7:qz f l (∀ (x0:Nat),q11 l x0 (l.getD x0 0 < (↑(f.pieces.length):Int))))
 (o8:qz f l (∀ (x0:Nat),q11 l x0 (inI ((highP f (List.take x0 l)).lo + (pc f (l.getD x0 0).toNat).lo))))
 (o9:qz f l (∀ (x0:Nat),q11 l x0 (0<=l.getD x0 0)))
 (o10:qz f l (∀ (x0:Nat),q11 l x0 (l.getD x0 0 < (↑(f.pieces.length):Int))))
 (o11:qz f l (∀ (x0:Nat),q11 l x0 (inI ((highP f (List.take x0 l)).hi + (pc f (l.getD x0 0).toNat).hi))))
 (o12:qz f l (∀ (x0:Nat),q11 l x0 (inI ((x0:Int) + 1))))
 (o13:qz f l (∀ (x0:Nat),q11 l x0 ((x0:Int) + 1=(↑(x0 + 1):Int))))
 (o14:qz f l (∀ (x0:Nat),q11 l x0 ((highP f (List.take x0 l)).lo + (pc f (l.getD x0 0).toNat).lo=(highP f (List.take (x0 + 1) l)).lo)))
 (o15:qz f l (∀ (x0:Nat),q11 l x0 ((highP f (List.take x0 l)).hi + (pc f (l.getD x0 0).toNat).hi=(highP f (List.take (x0 + 1) l)).hi)))
 (o16:qz f l (∀ (x0:Nat),q11 l x0 (x0 + 1<=l.length)))
 (o17:qz f l (∀ (x0:Nat),q11 l x0 (l.length - (x0 + 1) < l.length - x0)))
 (o18:qz f l (∀ (x0:Nat),q10 l x0 (decide ((x0:Int) < (↑(l.length):Int))=false->(highP f (List.take x0 l)).lo=(highP f l).lo)))
 (o19:qz f l (∀ (x0:Nat),q10 l x0 (decide ((x0:Int) < (↑(l.length):Int))=false->(highP f (List.take x0 l)).hi=(highP f l).hi))) :
  Triple Try.prog 96 (s96 f l):=by
 refine triple_of Try.func96 rfl Try.call96 T0_ok _ rfl rfl rfl rfl (Nat.le_of_ble_eq_true (by kernel_rfl)) (fun _ _ _ _ h=>h) ?_
 intro hpre C hC _ hE
 obtain ⟨P,w0,E0,av,hA,ro,df⟩:=C
 obtain ⟨rfl,rfl,rfl⟩:=hC
 refine swp_seq ?_
 refine zR [1,2,4] [0,8] (Ak 2 tv) ?_
 refine swp_seq ?_
 refine swp_seq ?_
 refine zR [2,4,7,8,9] [0,8] (Ak 3 tv) ?_
 refine swp_block ?_
 refine zL (Hint.ann (h96 f l) [(2,AV.ptr 0 []),(7,aInts l),(8,iv (↑(l.length):Int))] [(0,OB.cells 112 (cFrm f))] 10040) (zE hE [] [(0,.same 0),(5000,.same 8)] [7,8] [0] (An (An (An (zr (some (Src.same 0))) (zr nilP)) (An (An (zr (aInts l)) (zr true)) (An (An (zr (iv (↑(l.length):Int))) (zr true)) (An (An (ci (o0 hpre)) (zr nilN)) (An (An (zr (some (Src.same 8))) (zr nilP)) tv))))) (An (An (An (zr (OB.cells 112 (cFrm f))) (zr true)) (An (An (zr 51) (An (An (An (ci (o1 hpre)) (zr nilN)) (An (An (ci (o2 hpre)) (zr nilN)) tv)) (zr true))) tv)) (An (zr true) (zr true))))) (o3 hpre) (fun (x0:Nat) hx0 => ?_)
 refine swp_seq ?_
 refine zR [2,7,8,9,4,10] [0,5000] (Ak 1 tv) ?_
 refine swp_seq ?_
 refine zI (decide ((x0:Int) < (↑(l.length):Int))) (fun y1 => ?_) (fun y1 => ?_)
 ·refine swp_skip ?_
  refine swp_seq ?_
  refine swp_block ?_
  refine swp_seq ?_
  refine zR [2,7,8,9,4,6] [0,5000] (An (An (o4 hpre x0 hx0 y1) (o5 hpre x0 hx0 y1)) (Ak 2 tv)) ?_
  refine swp_seq ?_
  refine zR [2,7,8,9,4,6] [0,5000] (Ak 6 (An (An (o6 hpre x0 hx0 y1) (o7 hpre x0 hx0 y1)) (Ak 3 (An (o8 hpre x0 hx0 y1) (Ak 2 tv))))) ?_
  refine zR [2,7,8,9,4] [0,5000] (Ak 6 (An (An (o9 hpre x0 hx0 y1) (o10 hpre x0 hx0 y1)) (Ak 3 (An (o11 hpre x0 hx0 y1) (Ak 2 tv))))) ?_
  refine zR [2,7,8,9,4] [0,5000] (An (o12 hpre x0 hx0 y1) (Ak 1 tv)) ?_
  exact zn (zE hE [] [(0,.same 0),(5000,.same 5000)] [7,8] [0] (An (An (An (zr (some (Src.same 0))) (zr nilP)) (An (An (zr (aInts l)) (zr true)) (An (An (zr (iv (↑(l.length):Int))) (zr true)) (An (An (ci (o13 hpre x0 hx0 y1)) (zr nilN)) (An (An (zr (some (Src.same 5000))) (zr nilP)) tv))))) (An (An (An (zr (OB.cells 112 (cFrm f))) (zr true)) (An (An (zr 51) (An (An (An (ci (o14 hpre x0 hx0 y1)) (zr nilN)) (An (An (ci (o15 hpre x0 hx0 y1)) (zr nilN)) tv)) (zr true))) tv)) (An (zr true) (zr true))))) (o16 hpre x0 hx0 y1) (o17 hpre x0 hx0 y1)
 ·refine swp_exit ?_
  refine swp_seq ?_
  refine zR [4] [5000] (Ak 2 tv) ?_
  refine swp_ret ?_
  exact zT [] (An (Ak 1 tv) (An (An (An (ci (o18 hpre x0 hx0 y1)) (zr nilN)) (An (An (ci (o19 hpre x0 hx0 y1)) (zr nilN)) tv)) (An (zr true) (An (zr true) (zr true)))))
theorem t96 (f:Frm) (l:List Int):Triple Try.prog 96 (s96 f l):=by
 apply w96
 all_goals (try delta qz q10 q11)
 case o6=>intro hp x hx h; simp only [decide_eq_true_eq] at h; exact (hp.2.2 x (by omega)).1
 case o7=>intro hp x hx h; simp only [decide_eq_true_eq] at h; exact (hp.2.2 x (by omega)).2
 case o8=>intro hp x hx h; simp only [decide_eq_true_eq] at h; have h1:=high_bound hp.1 hp.2 (x + 1) (by omega); have h2:=high_bound hp.1 hp.2 x (by omega); have h3:=hp.2.1; rw [high_take f l (by omega)] at h1; simp only [hiStep] at h1; exact ⟨by omega,by omega⟩
 case o11=>intro hp x hx h; simp only [decide_eq_true_eq] at h; have h1:=high_bound hp.1 hp.2 (x + 1) (by omega); have h2:=high_bound hp.1 hp.2 x (by omega); have h3:=hp.2.1; rw [high_take f l (by omega)] at h1; simp only [hiStep] at h1; exact ⟨by omega,by omega⟩
 case o12=>intro hp x hx h; simp only [decide_eq_true_eq] at h; have h3:=hp.2.1; exact ⟨by omega,by omega⟩
 case o14=>intro hp x hx h; simp only [decide_eq_true_eq] at h; rw [high_take f l (by omega)]; rfl
 case o15=>intro hp x hx h; simp only [decide_eq_true_eq] at h; rw [high_take f l (by omega)]; rfl
 case o18=>intro hp x hx h; simp only [decide_eq_false_iff_not] at h; rw [List.take_of_length_le (by omega)]
 case o19=>intro hp x hx h; simp only [decide_eq_false_iff_not] at h; rw [List.take_of_length_le (by omega)]
 case o9=>intro hp x hx h; simp only [decide_eq_true_eq] at h; exact (hp.2.2 x (by omega)).1
 case o10=>intro hp x hx h; simp only [decide_eq_true_eq] at h; exact (hp.2.2 x (by omega)).2
 all_goals (try ((repeat intro _) <;> (try simp only [Bool.cond_true_left,Bool.cond_false_right,Bool.not_not,Bool.not_eq_true',Bool.not_eq_false',Bool.or_eq_true,Bool.or_eq_false_iff,Bool.and_eq_true,decide_eq_true_eq,decide_eq_false_iff_not,inI,big,fitsF,smallF,goodL] at *) <;> first | (exact rfl) | omega | (exact ⟨Nat.zero_le _,fun j hj=>absurd hj (Nat.not_lt_zero j)⟩) | (simp_all; done) | (simp_all; omega)))
abbrev q12 (f:Frm) (set:List Int) (Pq:Prop):Prop:=Sound f/\isSet f set=true->Pq
abbrev q13 (set:List Int) (x0:Nat) (Pq:Prop):Prop:=x0<=set.length->Pq
abbrev q14 (set:List Int) (x0:Nat) (Pq:Prop):Prop:=q13 set x0 (decide ((x0:Int) < (↑(set.length):Int))=true->Pq)
theorem w129 (f:Frm) (set:List Int)
 (o0:q12 f set (0=ptTo f set 0))
 (o1:q12 f set (0=(↑0:Int)))
 (o2:q12 f set (0<=set.length))
 (o3:q12 f set (∀ (x0:Nat),q14 set x0 (0<=(x0:Int))))
 (o4:q12 f set (∀ (x0:Nat),q14 set x0 ((x0:Int) < (↑(set.length):Int))))
 (o5:q12 f set (∀ (x0:Nat),q14 set x0 (0<=(x0:Int))))
 (o6:q12 f set (∀ (x0:Nat),q14 set x0 ((x0:Int) < (↑(f.strips.length):Int))))
 (o7:q12 f set (∀ (x0:Nat),q14 set x0 (inI (set.getD x0 0 * (stp f x0).thick))))
 (o8:q12 f set (∀ (x0:Nat),q14 set x0 (inI (ptTo f set x0 + set.getD x0 0 * (stp f x0).thick))))
 (o9:q12 f set (∀ (x0:Nat),q14 set x0 (inI ((x0:Int) + 1))))
 (o10:q12 f set (∀ (x0:Nat),q14 set x0 (ptTo f set x0 + set.getD x0 0 * (stp f x0).thick=ptTo f set (x0 + 1))))
 (o11:q12 f set (∀ (x0:Nat),q14 set x0 ((x0:Int) + 1=(↑(x0 + 1):Int))))
 (o12:q12 f set (∀ (x0:Nat),q14 set x0 (x0 + 1<=set.length)))
 (o13:q12 f set (∀ (x0:Nat),q14 set x0 (set.length - (x0 + 1) < set.length - x0)))
 (o14:q12 f set (∀ (x0:Nat),q13 set x0 (decide ((x0:Int) < (↑(set.length):Int))=false->ptTo f set x0=pointsP f set))) :
  Triple Try.prog 129 (s129 f set):=by
 refine triple_of Try.func129 rfl Try.call129 T0_ok _ rfl rfl rfl rfl (Nat.le_of_ble_eq_true (by kernel_rfl)) (fun _ _ _ _ h=>h) ?_
 intro hpre C hC _ hE
 obtain ⟨P,w0,E0,av,hA,ro,df⟩:=C
 obtain ⟨rfl,rfl,rfl⟩:=hC
 refine swp_seq ?_
 refine zR [1,2] [0] (Ak 2 tv) ?_
 refine swp_seq ?_
 refine zR [1,2,5] [0] (Ak 1 tv) ?_
 refine swp_seq ?_
 refine swp_seq ?_
 refine zR [2,5,8,9,10] [0] (Ak 3 tv) ?_
 refine swp_block ?_
 refine zL (Hint.ann (h129 f set) [(2,AV.ptr 0 []),(8,aInts set),(9,iv (↑(set.length):Int))] [(0,OB.cells 112 (cFrm f))] 10048) (zE hE [] [(0,.same 0)] [8,9] [0] (An (An (An (zr (some (Src.same 0))) (zr nilP)) (An (An (zr (aInts set)) (zr true)) (An (An (zr (iv (↑(set.length):Int))) (zr true)) (An (An (ci (o0 hpre)) (zr nilN)) (An (An (ci (o1 hpre)) (zr nilN)) tv))))) (An (An (An (zr (OB.cells 112 (cFrm f))) (zr true)) tv) (An (zr true) (zr true))))) (o2 hpre) (fun (x0:Nat) hx0 => ?_)
 refine swp_seq ?_
 refine zR [2,8,9,5,10,11] [0] (Ak 1 tv) ?_
 refine swp_seq ?_
 refine zI (decide ((x0:Int) < (↑(set.length):Int))) (fun y1 => ?_) (fun y1 => ?_)
 ·refine swp_skip ?_
  refine swp_seq ?_
  refine swp_block ?_
  refine swp_seq ?_
  refine zR [2,8,9,5,10,6,7] [0] (Ak 1 (An (An (o3 hpre x0 hx0 y1) (o4 hpre x0 hx0 y1)) (Ak 3 tv))) ?_
  refine zR [2,8,9,5,10] [0] (Ak 6 (An (An (o5 hpre x0 hx0 y1) (o6 hpre x0 hx0 y1)) (Ak 2 (An (o7 hpre x0 hx0 y1) (An (o8 hpre x0 hx0 y1) (Ak 1 tv)))))) ?_
  refine zR [2,8,9,5,10] [0] (An (o9 hpre x0 hx0 y1) (Ak 1 tv)) ?_
  exact zn (zE hE [] [(0,.same 0)] [8,9] [0] (An (An (An (zr (some (Src.same 0))) (zr nilP)) (An (An (zr (aInts set)) (zr true)) (An (An (zr (iv (↑(set.length):Int))) (zr true)) (An (An (ci (o10 hpre x0 hx0 y1)) (zr nilN)) (An (An (ci (o11 hpre x0 hx0 y1)) (zr nilN)) tv))))) (An (An (An (zr (OB.cells 112 (cFrm f))) (zr true)) tv) (An (zr true) (zr true))))) (o12 hpre x0 hx0 y1) (o13 hpre x0 hx0 y1)
 ·refine swp_exit ?_
  refine swp_seq ?_
  refine zR [4] [] (Ak 2 tv) ?_
  refine swp_ret ?_
  exact zT [] (An (Ak 1 tv) (An (An (ci (o14 hpre x0 hx0 y1)) (zr nilN)) (An (zr true) (An (zr true) (zr true)))))
theorem t129 (f:Frm) (set:List Int):Triple Try.prog 129 (s129 f set):=by
 apply w129
 all_goals (try delta q12 q13 q14)
 case o6=>intro hp x hx h; simp only [decide_eq_true_eq] at h; have:=(isSet_get hp.2).1; omega
 case o7=>intro hp x hx h; simp only [decide_eq_true_eq] at h; have:=pt_term hp.1 hp.2 (k:=x) (by omega); exact ⟨by omega,by omega⟩
 case o8=>intro hp x hx h; simp only [decide_eq_true_eq] at h; have h1:=pt_term hp.1 hp.2 (k:=x) (by omega); have h2:=pt_bound hp.1 hp.2 x (by omega); have h3:=(isSet_get hp.2).1; have h4:=hp.1.strips; exact ⟨by omega,by omega⟩
 case o9=>intro hp x hx h; simp only [decide_eq_true_eq] at h; have h3:=(isSet_get hp.2).1; have h4:=hp.1.strips; exact ⟨by omega,by omega⟩
 case o10=>intro hp x hx h; exact (pt_succ f set x).symm
 case o14=>intro hp x hx h; simp only [decide_eq_false_iff_not] at h; rw [show x=set.length by omega]; rfl
 all_goals (try ((repeat intro _) <;> (try simp only [Bool.cond_true_left,Bool.cond_false_right,Bool.not_not,Bool.not_eq_true',Bool.not_eq_false',Bool.or_eq_true,Bool.or_eq_false_iff,Bool.and_eq_true,decide_eq_true_eq,decide_eq_false_iff_not,inI,big,fitsF,smallF,goodL] at *) <;> first | (exact rfl) | omega | (exact ⟨Nat.zero_le _,fun j hj=>absurd hj (Nat.not_lt_zero j)⟩) | (simp_all; done) | (simp_all; omega)))
abbrev q15 (f:Frm) (s:Span) (Pq:Prop):Prop:=Sound f/\0<=s.lo/\s.lo<=s.hi/\s.hi<=1000->Pq
theorem w95 (f:Frm) (s:Span)
 (o0:q15 f s (inI (f.length - f.slack)))
 (o1:q15 f s (inI (f.length - f.slack - s.lo)))
 (o2:q15 f s (inI (f.length - s.hi)))
 (o3:q15 f s (max 0 (f.length - f.slack - s.lo)=(roomP f s).lo))
 (o4:q15 f s (f.length - s.hi=(roomP f s).hi)) :
  Triple Try.prog 95 (s95 f s):=by
 refine triple_of Try.func95 rfl Try.call95 T0_ok _ rfl rfl rfl rfl (Nat.le_of_ble_eq_true (by kernel_rfl)) (fun _ _ _ _ h=>h) ?_
 intro hpre C hC _ hE
 obtain ⟨P,w0,E0,av,hA,ro,df⟩:=C
 obtain ⟨rfl,rfl,rfl⟩:=hC
 refine swp_seq ?_
 refine zR [2,3,4] [0,8,16] (Ak 3 tv) ?_
 refine swp_seq ?_
 refine zR [4] [16] (Ak 6 (An (o0 hpre) (Ak 2 (An (o1 hpre) (Ak 6 (An (o2 hpre) (Ak 2 tv))))))) ?_
 refine swp_ret ?_
 exact zT [] (An (Ak 1 tv) (An (An (An (ci (o3 hpre)) (zr nilN)) (An (An (ci (o4 hpre)) (zr nilN)) tv)) (An (zr true) (An (zr true) (zr true)))))
theorem t95 (f:Frm) (s:Span):Triple Try.prog 95 (s95 f s):=by
 apply w95
 all_goals (try delta q15)
 all_goals (first | (intro hp; have h1:=hp.1.len; have h2:=hp.1.slack; exact ⟨by omega,by omega⟩) | skip)
 all_goals (try ((repeat intro _) <;> (try simp only [Bool.cond_true_left,Bool.cond_false_right,Bool.not_not,Bool.not_eq_true',Bool.not_eq_false',Bool.or_eq_true,Bool.or_eq_false_iff,Bool.and_eq_true,decide_eq_true_eq,decide_eq_false_iff_not,inI,big,fitsF,smallF,goodL] at *) <;> first | (exact rfl) | omega | (exact ⟨Nat.zero_le _,fun j hj=>absurd hj (Nat.not_lt_zero j)⟩) | (simp_all; done) | (simp_all; omega)))
abbrev q16 (f:Frm) (Pq:Prop):Prop:=fitsF f/\f.columns.length<=3->Pq
abbrev q17 (f:Frm) (x0:Nat) (Pq:Prop):Prop:=x0<=f.columns.length->Pq
abbrev q18 (f:Frm) (x0:Nat) (Pq:Prop):Prop:=q17 f x0 (decide ((x0:Int) < (↑(f.columns.length):Int))=true->Pq)
abbrev q19 (f:Frm) (x0:Nat) (x2:Nat) (Pq:Prop):Prop:=x2<=(col f x0).length->Pq
abbrev q1a (f:Frm) (x0:Nat) (x2:Nat) (Pq:Prop):Prop:=q19 f x0 x2 (decide ((x2:Int) < (↑((col f x0).length):Int))=true->Pq)
abbrev q1b (f:Frm) (p:Int) (x0:Nat) (x2:Nat) (Pq:Prop):Prop:=q1a f x0 x2 (decide ((col f x0).getD x2 0=p)=true->Pq)
abbrev q1c (f:Frm) (p:Int) (x0:Nat) (x2:Nat) (Pq:Prop):Prop:=q1a f x0 x2 (decide ((col f x0).getD x2 0=p)=false->Pq)
abbrev q1d (f:Frm) (x0:Nat) (x2:Nat) (Pq:Prop):Prop:=q19 f x0 x2 (decide ((x2:Int) < (↑((col f x0).length):Int))=false->Pq)
theorem w58 (f:Frm) (p:Int)
 (o0:q16 f (0=cntL (pre95 f 0 0) p))
 (o1:q16 f (0=(↑0:Int)))
 (o2:q16 f (0<=f.columns.length))
 (o3:q16 f (∀ (x0:Nat),q18 f x0 (0=(↑0:Int))))
 (o4:q16 f (∀ (x0:Nat),q18 f x0 (0<=(col f x0).length)))
 (o5:q16 f (∀ (x0:Nat),q18 f x0 (∀ (x2:Nat),q19 f x0 x2 (0<=(x0:Int)))))
 (o6:q16 f (∀ (x0:Nat),q18 f x0 (∀ (x2:Nat),q19 f x0 x2 ((x0:Int) < (↑(f.columns.length):Int)))))
 (o7:q16 f (∀ (x0:Nat),q18 f x0 (∀ (x2:Nat),q1a f x0 x2 (0<=(x0:Int)))))
 (o8:q16 f (∀ (x0:Nat),q18 f x0 (∀ (x2:Nat),q1a f x0 x2 ((x0:Int) < (↑(f.columns.length):Int)))))
 (o9:q16 f (∀ (x0:Nat),q18 f x0 (∀ (x2:Nat),q1a f x0 x2 (0<=(x2:Int)))))
 (o10:q16 f (∀ (x0:Nat),q18 f x0 (∀ (x2:Nat),q1a f x0 x2 ((x2:Int) < (↑((col f x0).length):Int)))))
 (o11:q16 f (∀ (x0:Nat),q18 f x0 (∀ (x2:Nat),q1b f p x0 x2 (inI (cntL (pre95 f x0 x2) p + 1)))))
 (o12:q16 f (∀ (x0:Nat),q18 f x0 (∀ (x2:Nat),q1b f p x0 x2 (inI ((x2:Int) + 1)))))
 (o13:q16 f (∀ (x0:Nat),q18 f x0 (∀ (x2:Nat),q1b f p x0 x2 (cntL (pre95 f x0 x2) p + 1=cntL (pre95 f x0 (x2 + 1)) p))))
 (o14:q16 f (∀ (x0:Nat),q18 f x0 (∀ (x2:Nat),q1b f p x0 x2 ((x2:Int) + 1=(↑(x2 + 1):Int)))))
 (o15:q16 f (∀ (x0:Nat),q18 f x0 (∀ (x2:Nat),q1b f p x0 x2 (x2 + 1<=(col f x0).length))))
 (o16:q16 f (∀ (x0:Nat),q18 f x0 (∀ (x2:Nat),q1b f p x0 x2 ((col f x0).length - (x2 + 1) < (col f x0).length - x2))))
 (o17:q16 f (∀ (x0:Nat),q18 f x0 (∀ (x2:Nat),q1c f p x0 x2 (inI ((x2:Int) + 1)))))
 (o18:q16 f (∀ (x0:Nat),q18 f x0 (∀ (x2:Nat),q1c f p x0 x2 (cntL (pre95 f x0 x2) p=cntL (pre95 f x0 (x2 + 1)) p))))
 (o19:q16 f (∀ (x0:Nat),q18 f x0 (∀ (x2:Nat),q1c f p x0 x2 ((x2:Int) + 1=(↑(x2 + 1):Int)))))
 (o20:q16 f (∀ (x0:Nat),q18 f x0 (∀ (x2:Nat),q1c f p x0 x2 (x2 + 1<=(col f x0).length))))
 (o21:q16 f (∀ (x0:Nat),q18 f x0 (∀ (x2:Nat),q1c f p x0 x2 ((col f x0).length - (x2 + 1) < (col f x0).length - x2))))
 (o22:q16 f (∀ (x0:Nat),q18 f x0 (∀ (x2:Nat),q1d f x0 x2 (inI ((x0:Int) + 1)))))
 (o23:q16 f (∀ (x0:Nat),q18 f x0 (∀ (x2:Nat),q1d f x0 x2 (cntL (pre95 f x0 x2) p=cntL (pre95 f (x0 + 1) 0) p))))
 (o24:q16 f (∀ (x0:Nat),q18 f x0 (∀ (x2:Nat),q1d f x0 x2 ((x0:Int) + 1=(↑(x0 + 1):Int)))))
 (o25:q16 f (∀ (x0:Nat),q18 f x0 (∀ (x2:Nat),q1d f x0 x2 (x0 + 1<=f.columns.length))))
 (o26:q16 f (∀ (x0:Nat),q18 f x0 (∀ (x2:Nat),q1d f x0 x2 (f.columns.length - (x0 + 1) < f.columns.length - x0))))
 (o27:q16 f (∀ (x0:Nat),q17 f x0 (decide ((x0:Int) < (↑(f.columns.length):Int))=false->cntL (pre95 f x0 0) p=cntL (allC f) p))) :
  Triple Try.prog 58 (s58 f p):=by
 refine triple_of Try.func58 rfl Try.call58 T0_ok _ rfl rfl rfl rfl (Nat.le_of_ble_eq_true (by kernel_rfl)) (fun _ _ _ _ h=>h) ?_
 intro hpre C hC _ hE
 obtain ⟨P,w0,E0,av,hA,ro,df⟩:=C
 obtain ⟨rfl,rfl,rfl⟩:=hC
 refine swp_seq ?_
 refine zR [1,2] [0] (Ak 2 tv) ?_
 refine swp_seq ?_
 refine zR [1,2,5] [0] (Ak 1 tv) ?_
 refine swp_seq ?_
 refine swp_seq ?_
 refine zR [1,2,5,6] [0] (Ak 1 tv) ?_
 refine swp_block ?_
 refine zL (Hint.ann (h58a f p) [(1,iv p),(2,AV.ptr 0 [])] [(0,OB.cells 61 (cFrm f))] 10032) (zE hE [] [(0,.same 0)] [1] [0] (An (An (An (zr (iv p)) (zr true)) (An (An (zr (some (Src.same 0))) (zr nilP)) (An (An (ci (o0 hpre)) (zr nilN)) (An (An (ci (o1 hpre)) (zr nilN)) tv)))) (An (An (An (zr (OB.cells 61 (cFrm f))) (zr true)) tv) (An (zr true) (zr true))))) (o2 hpre) (fun (x0:Nat) hx0 => ?_)
 refine swp_seq ?_
 refine swp_seq ?_
 refine zR [1,2,5,6,12] [0] (Ak 5 tv) ?_
 refine zI (decide ((x0:Int) < (↑(f.columns.length):Int))) (fun y1 => ?_) (fun y1 => ?_)
 ·refine swp_skip ?_
  refine swp_seq ?_
  refine swp_block ?_
  refine swp_seq ?_
  refine zR [1,2,5,6,7] [0] (Ak 1 tv) ?_
  refine swp_block ?_
  refine zL (Hint.ann (h58b f p x0) [(1,iv p),(2,AV.ptr 0 []),(6,iv (x0:Int))] [(0,OB.cells 61 (cFrm f))] 20080) (zE hE [] [(0,.same 0)] [1,6,5] [0] (An (An (An (zr (iv p)) (zr true)) (An (An (zr (some (Src.same 0))) (zr nilP)) (An (An (zr (iv (x0:Int))) (zr true)) (An (An (zr (iv (cntL (pre95 f x0 0) p))) (zr true)) (An (An (ci (o3 hpre x0 hx0 y1)) (zr nilN)) tv))))) (An (An (An (zr (OB.cells 61 (cFrm f))) (zr true)) tv) (An (zr true) (zr true))))) (o4 hpre x0 hx0 y1) (fun (x2:Nat) hx2 => ?_)
  refine swp_seq ?_
  refine swp_seq ?_
  refine zR [1,2,6,5,7,22] [0] (Ak 4 (An (An (o5 hpre x0 hx0 y1 x2 hx2) (o6 hpre x0 hx0 y1 x2 hx2)) (Ak 3 tv))) ?_
  refine zI (decide ((x2:Int) < (↑((col f x0).length):Int))) (fun y3 => ?_) (fun y3 => ?_)
  ·refine swp_skip ?_
   refine swp_seq ?_
   refine swp_block ?_
   refine swp_seq ?_
   refine zR [1,2,6,5,7,34] [0] (Ak 3 (An (An (o7 hpre x0 hx0 y1 x2 hx2 y3) (o8 hpre x0 hx0 y1 x2 hx2 y3)) (Ak 2 (An (An (o9 hpre x0 hx0 y1 x2 hx2 y3) (o10 hpre x0 hx0 y1 x2 hx2 y3)) (Ak 3 tv))))) ?_
   refine zI (decide ((col f x0).getD x2 0=p)) (fun y4 => ?_) (fun y4 => ?_)
   ·refine zR [1,2,6,5,7] [0] (Ak 1 (An (o11 hpre x0 hx0 y1 x2 hx2 y3 y4) (Ak 1 tv))) ?_
    refine zR [1,2,6,5,7] [0] (Ak 1 (An (o12 hpre x0 hx0 y1 x2 hx2 y3 y4) (Ak 1 tv))) ?_
    exact zn (zE hE [] [(0,.same 0)] [1,6] [0] (An (An (An (zr (iv p)) (zr true)) (An (An (zr (some (Src.same 0))) (zr nilP)) (An (An (zr (iv (x0:Int))) (zr true)) (An (An (ci (o13 hpre x0 hx0 y1 x2 hx2 y3 y4)) (zr nilN)) (An (An (ci (o14 hpre x0 hx0 y1 x2 hx2 y3 y4)) (zr nilN)) tv))))) (An (An (An (zr (OB.cells 61 (cFrm f))) (zr true)) tv) (An (zr true) (zr true))))) (o15 hpre x0 hx0 y1 x2 hx2 y3 y4) (o16 hpre x0 hx0 y1 x2 hx2 y3 y4)
   ·refine swp_skip ?_
    refine zR [1,2,6,5,7] [0] (Ak 1 (An (o17 hpre x0 hx0 y1 x2 hx2 y3 y4) (Ak 1 tv))) ?_
    exact zn (zE hE [] [(0,.same 0)] [1,6] [0] (An (An (An (zr (iv p)) (zr true)) (An (An (zr (some (Src.same 0))) (zr nilP)) (An (An (zr (iv (x0:Int))) (zr true)) (An (An (ci (o18 hpre x0 hx0 y1 x2 hx2 y3 y4)) (zr nilN)) (An (An (ci (o19 hpre x0 hx0 y1 x2 hx2 y3 y4)) (zr nilN)) tv))))) (An (An (An (zr (OB.cells 61 (cFrm f))) (zr true)) tv) (An (zr true) (zr true))))) (o20 hpre x0 hx0 y1 x2 hx2 y3 y4) (o21 hpre x0 hx0 y1 x2 hx2 y3 y4)
  ·refine swp_exit ?_
   refine zR [1,2,6,5] [0] (Ak 1 (An (o22 hpre x0 hx0 y1 x2 hx2 y3) (Ak 1 tv))) ?_
   exact zn (zE hE [] [(0,.same 0)] [1] [0] (An (An (An (zr (iv p)) (zr true)) (An (An (zr (some (Src.same 0))) (zr nilP)) (An (An (ci (o23 hpre x0 hx0 y1 x2 hx2 y3)) (zr nilN)) (An (An (ci (o24 hpre x0 hx0 y1 x2 hx2 y3)) (zr nilN)) tv)))) (An (An (An (zr (OB.cells 61 (cFrm f))) (zr true)) tv) (An (zr true) (zr true))))) (o25 hpre x0 hx0 y1 x2 hx2 y3) (o26 hpre x0 hx0 y1 x2 hx2 y3)
 ·refine swp_exit ?_
  refine swp_seq ?_
  refine zR [4] [] (Ak 2 tv) ?_
  refine swp_ret ?_
  exact zT [] (An (Ak 1 tv) (An (An (ci (o27 hpre x0 hx0 y1)) (zr nilN)) (An (zr true) (An (zr true) (zr true)))))
theorem t58 (f:Frm) (p:Int):Triple Try.prog 58 (s58 f p):=by
 apply w58
 all_goals (try delta q16 q17 q18 q19 q1a q1b q1c q1d)
 case o11=>intro hp x hx h k hk h2 h3; simp only [decide_eq_true_eq] at h2; have h5:=hp.1.2.2.2; have h4:=pre_len f x k 3 big hp.2 h5; have h6:=cnt_le3 (pre95 f x k) p; simp only [big] at *; exact ⟨by omega,by omega⟩
 case o12=>intro hp x hx h k hk h2 h3; simp only [decide_eq_true_eq] at h2; have h5:=hp.1.2.2.2 x; simp only [big] at *; exact ⟨by omega,by omega⟩
 case o13=>intro hp x hx h k hk h2 h3; simp only [decide_eq_true_eq] at h2 h3; rw [pre_succ f (by omega),cnt_snoc,if_pos h3]
 case o17=>intro hp x hx h k hk h2 h3; simp only [decide_eq_true_eq] at h2; have h5:=hp.1.2.2.2 x; simp only [big] at *; exact ⟨by omega,by omega⟩
 case o18=>intro hp x hx h k hk h2 h3; simp only [decide_eq_true_eq] at h2; simp only [decide_eq_false_iff_not] at h3; rw [pre_succ f (by omega),cnt_snoc,if_neg h3,Int.add_zero]
 case o23=>intro hp x hx h k hk h2; simp only [decide_eq_true_eq] at h; simp only [decide_eq_false_iff_not] at h2; rw [pre_next f (by omega) (by omega)]
 case o27=>intro hp x hx h; simp only [decide_eq_false_iff_not] at h; rw [pre_end f (by omega)]
 all_goals (try ((repeat intro _) <;> (try simp only [Bool.cond_true_left,Bool.cond_false_right,Bool.not_not,Bool.not_eq_true',Bool.not_eq_false',Bool.or_eq_true,Bool.or_eq_false_iff,Bool.and_eq_true,decide_eq_true_eq,decide_eq_false_iff_not,inI,big,fitsF,smallF,goodL] at *) <;> first | (exact rfl) | omega | (exact ⟨Nat.zero_le _,fun j hj=>absurd hj (Nat.not_lt_zero j)⟩) | (simp_all; done) | (simp_all; omega)))
abbrev q1e (f:Frm) (Pq:Prop):Prop:=smallF f->Pq
abbrev q1f (f:Frm) (x36:Nat) (Pq:Prop):Prop:=x36<=f.strips.length->Pq
abbrev q1g (f:Frm) (x36:Nat) (Pq:Prop):Prop:=q1f f x36 (decide ((x36:Int) < (↑(f.strips.length):Int))=true->Pq)
abbrev q1h (f:Frm) (x36:Nat) (Pq:Prop):Prop:=q1f f x36 (decide ((x36:Int) < (↑(f.strips.length):Int))=false->Pq)
abbrev q1i (f:Frm) (x54:Nat) (Pq:Prop):Prop:=x54<=f.pieces.length->Pq
abbrev q1j (f:Frm) (x54:Nat) (Pq:Prop):Prop:=q1i f x54 (decide ((x54:Int) < (↑(f.pieces.length):Int))=true->Pq)
abbrev q1k (f:Frm) (x54:Nat) (Pq:Prop):Prop:=q1i f x54 (decide ((x54:Int) < (↑(f.pieces.length):Int))=false->Pq)
abbrev q1l (f:Frm) (x54:Nat) (Pq:Prop):Prop:=q1k f x54 ((!okP f x54)=false->Pq)
abbrev q1m (f:Frm) (x54:Nat) (Pq:Prop):Prop:=q1l f x54 ((!decide ((↑((srt f).length):Int)=(↑(f.pieces.length):Int)))=false->Pq)
abbrev q1n (f:Frm) (x93:Nat) (Pq:Prop):Prop:=(x93<=(srt f).length /\ ∀ (j:Nat),j < x93->(srt f).getD j 0=(j:Int))->Pq
abbrev q1o (f:Frm) (x93:Nat) (Pq:Prop):Prop:=q1n f x93 (decide ((x93:Int) < (↑((srt f).length):Int))=true->Pq)
abbrev q1p (f:Frm) (x93:Nat) (Pq:Prop):Prop:=q1o f x93 ((!decide ((x93:Int)=(srt f).getD x93 0))=false->Pq)
theorem w91 (f:Frm)
 (o0:q1e f ((bif bif bif bif within f.length 0 300 then within f.slack 0 9 else false then decide ((↑(f.strips.length):Int)<=3) else false then decide ((↑(f.pieces.length):Int)<=6) else false then decide ((↑(f.columns.length):Int)<=3) else false)=okS f 0))
 (o1:q1e f (0=(↑0:Int)))
 (o2:q1e f (0<=List.length (Frm.strips f)))
 (o3:q1e f (∀ (x36:Nat),q1g f x36 (0<=(x36:Int))))
 (o4:q1e f (∀ (x36:Nat),q1g f x36 ((x36:Int) < (↑(f.strips.length):Int))))
 (o5:q1e f (∀ (x36:Nat),q1g f x36 (inI ((x36:Int) + 1))))
 (o6:q1e f (∀ (x36:Nat),q1g f x36 ((bif bif okS f x36 then within (stp f x36).thick 1 30 else false then within (stp f x36).many 0 4 else false)=okS f (x36 + 1))))
 (o7:q1e f (∀ (x36:Nat),q1g f x36 ((x36:Int) + 1=(↑(x36 + 1):Int))))
 (o8:q1e f (∀ (x36:Nat),q1g f x36 (x36 + 1<=f.strips.length)))
 (o9:q1e f (∀ (x36:Nat),q1g f x36 (f.strips.length - (x36 + 1) < f.strips.length - x36)))
 (o10:q1e f (∀ (x36:Nat),q1h f x36 (okS f x36=okP f 0)))
 (o11:q1e f (∀ (x36:Nat),q1h f x36 (0=(↑0:Int))))
 (o12:q1e f (∀ (x36:Nat),q1h f x36 (0<=f.pieces.length)))
 (o13:q1e f (∀ (x36:Nat),q1h f x36 (∀ (x54:Nat),q1j f x54 (0<=(x54:Int)))))
 (o14:q1e f (∀ (x36:Nat),q1h f x36 (∀ (x54:Nat),q1j f x54 ((x54:Int) < (↑(f.pieces.length):Int)))))
 (o15:q1e f (∀ (x36:Nat),q1h f x36 (∀ (x54:Nat),q1j f x54 (inI ((x54:Int) + 1)))))
 (o16:q1e f (∀ (x36:Nat),q1h f x36 (∀ (x54:Nat),q1j f x54 ((bif bif bif okP f x54 then within (pc f x54).hi 0 99 else false then within (pc f x54).lo 0 (pc f x54).hi else false then within (pc f x54).pence 0 99 else false)=okP f (x54 + 1)))))
 (o17:q1e f (∀ (x36:Nat),q1h f x36 (∀ (x54:Nat),q1j f x54 ((x54:Int) + 1=(↑(x54 + 1):Int)))))
 (o18:q1e f (∀ (x36:Nat),q1h f x36 (∀ (x54:Nat),q1j f x54 (x54 + 1<=f.pieces.length))))
 (o19:q1e f (∀ (x36:Nat),q1h f x36 (∀ (x54:Nat),q1j f x54 (f.pieces.length - (x54 + 1) < f.pieces.length - x54))))
 (o20:q1e f (∀ (x36:Nat),q1h f x36 (∀ (x54:Nat),q1k f x54 ((!okP f x54)=true->30=checkF f))))
 (o21:q1e f (∀ (x36:Nat),q1h f x36 (∀ (x54:Nat),q1l f x54 ((!decide ((↑((srt f).length):Int)=(↑(f.pieces.length):Int)))=true->30=checkF f))))
 (o22:q1e f (∀ (x36:Nat),q1h f x36 (∀ (x54:Nat),q1m f x54 (0=(↑0:Int)))))
 (o23:q1e f (∀ (x36:Nat),q1h f x36 (∀ (x54:Nat),q1m f x54 (0<=(srt f).length /\ ∀ (j:Nat),j < 0->(srt f).getD j 0=(j:Int)))))
 (o24:q1e f (∀ (x36:Nat),q1h f x36 (∀ (x54:Nat),q1m f x54 (∀ (x93:Nat),q1o f x93 (0<=(x93:Int))))))
 (o25:q1e f (∀ (x36:Nat),q1h f x36 (∀ (x54:Nat),q1m f x54 (∀ (x93:Nat),q1o f x93 ((x93:Int) < (↑((srt f).length):Int))))))
 (o26:q1e f (∀ (x36:Nat),q1h f x36 (∀ (x54:Nat),q1m f x54 (∀ (x93:Nat),q1o f x93 ((!decide ((x93:Int)=(srt f).getD x93 0))=true->30=checkF f)))))
 (o27:q1e f (∀ (x36:Nat),q1h f x36 (∀ (x54:Nat),q1m f x54 (∀ (x93:Nat),q1p f x93 (inI ((x93:Int) + 1))))))
 (o28:q1e f (∀ (x36:Nat),q1h f x36 (∀ (x54:Nat),q1m f x54 (∀ (x93:Nat),q1p f x93 ((x93:Int) + 1=(↑(x93 + 1):Int))))))
 (o29:q1e f (∀ (x36:Nat),q1h f x36 (∀ (x54:Nat),q1m f x54 (∀ (x93:Nat),q1p f x93 (x93 + 1<=(srt f).length /\ ∀ (j:Nat),j < x93 + 1->(srt f).getD j 0=(j:Int))))))
 (o30:q1e f (∀ (x36:Nat),q1h f x36 (∀ (x54:Nat),q1m f x54 (∀ (x93:Nat),q1p f x93 ((srt f).length - (x93 + 1) < (srt f).length - x93)))))
 (o31:q1e f (∀ (x36:Nat),q1h f x36 (∀ (x54:Nat),q1m f x54 (∀ (x93:Nat),q1n f x93 (decide ((x93:Int) < (↑((srt f).length):Int))=false->0=checkF f))))) :
  Triple Try.prog 91 (s91 f):=by
 refine triple_of Try.func91 rfl Try.call91 T0_ok _ rfl rfl rfl rfl (Nat.le_of_ble_eq_true (by kernel_rfl)) (fun _ _ _ _ h=>h) ?_
 intro hpre C hC _ hE
 obtain ⟨P,w0,E0,av,hA,ro,df⟩:=C
 obtain ⟨rfl,rfl,rfl⟩:=hC
 refine swp_seq ?_
 refine zR [1] [0] (Ak 2 tv) ?_
 refine swp_seq ?_
 refine zC ([(2,CallSpec.eq (s124 f.length 0 300) [true,true,true]),(6,CallSpec.eq (s124 f.slack 0 9) [true,true,true])]) [1,3] [0] (Ak 2 (An (An (An (zr (iv f.length)) (An (zr (iv 0)) (An (zr (iv 300)) tv))) (An (t124 f.length (0) (300)) (Ak 2 (fun (i0:Env)=>tv)))) (Ak 1 (An (fun (y1:within f.length 0 300=true)=>(An (Ak 1 tv) tv)) (An (fun (y2:within f.length 0 300=true)=>(An (An (fun (y3:within f.length 0 300=true)=>y2) tv) tv)) (An (fun (y4:within f.length 0 300=true)=>(An (Ak 1 (An (fun (y5:within f.length 0 300=true)=>y4) (Ak 2 tv))) (An (An (zr (iv f.slack)) (An (zr (iv 0)) (An (zr (iv 9)) tv))) (An (t124 f.slack (0) (9)) (Ak 2 (fun (i6:Env)=>tv)))))) (An (An (fun (y7:within f.length 0 300=true)=>y7) (fun (y8:within f.length 0 300=false)=>tv)) (Ak 1 (An (fun (y9:(bif within f.length 0 300 then within f.slack 0 9 else false)=true)=>(An (Ak 1 tv) tv)) (An (fun (y10:(bif within f.length 0 300 then within f.slack 0 9 else false)=true)=>(An (An (fun (y11:(bif within f.length 0 300 then within f.slack 0 9 else false)=true)=>y10) tv) tv)) (An (fun (y12:(bif within f.length 0 300 then within f.slack 0 9 else false)=true)=>(An (An (fun (y13:(bif within f.length 0 300 then within f.slack 0 9 else false)=true)=>y12) tv) tv)) (An (fun (y14:(bif within f.length 0 300 then within f.slack 0 9 else false)=true)=>(An (An (fun (y15:(bif within f.length 0 300 then within f.slack 0 9 else false)=true)=>y14) (Ak 1 tv)) tv)) (An (An (fun (y16:(bif within f.length 0 300 then within f.slack 0 9 else false)=true)=>y16) (fun (y17:(bif within f.length 0 300 then within f.slack 0 9 else false)=false)=>tv)) (Ak 1 (An (fun (y18:(bif bif within f.length 0 300 then within f.slack 0 9 else false then decide ((↑(f.strips.length):Int)<=3) else false)=true)=>(An (Ak 1 tv) tv)) (An (fun (y19:(bif bif within f.length 0 300 then within f.slack 0 9 else false then decide ((↑(f.strips.length):Int)<=3) else false)=true)=>(An (An (fun (y20:(bif bif within f.length 0 300 then within f.slack 0 9 else false then decide ((↑(f.strips.length):Int)<=3) else false)=true)=>y19) tv) tv)) (An (fun (y21:(bif bif within f.length 0 300 then within f.slack 0 9 else false then decide ((↑(f.strips.length):Int)<=3) else false)=true)=>(An (An (fun (y22:(bif bif within f.length 0 300 then within f.slack 0 9 else false then decide ((↑(f.strips.length):Int)<=3) else false)=true)=>y21) tv) tv)) (An (fun (y23:(bif bif within f.length 0 300 then within f.slack 0 9 else false then decide ((↑(f.strips.length):Int)<=3) else false)=true)=>(An (An (fun (y24:(bif bif within f.length 0 300 then within f.slack 0 9 else false then decide ((↑(f.strips.length):Int)<=3) else false)=true)=>y23) (Ak 1 tv)) tv)) (An (An (fun (y25:(bif bif within f.length 0 300 then within f.slack 0 9 else false then decide ((↑(f.strips.length):Int)<=3) else false)=true)=>y25) (fun (y26:(bif bif within f.length 0 300 then within f.slack 0 9 else false then decide ((↑(f.strips.length):Int)<=3) else false)=false)=>tv)) (Ak 1 (An (fun (y27:(bif bif bif within f.length 0 300 then within f.slack 0 9 else false then decide ((↑(f.strips.length):Int)<=3) else false then decide ((↑(f.pieces.length):Int)<=6) else false)=true)=>(An (Ak 1 tv) tv)) (An (fun (y28:(bif bif bif within f.length 0 300 then within f.slack 0 9 else false then decide ((↑(f.strips.length):Int)<=3) else false then decide ((↑(f.pieces.length):Int)<=6) else false)=true)=>(An (An (fun (y29:(bif bif bif within f.length 0 300 then within f.slack 0 9 else false then decide ((↑(f.strips.length):Int)<=3) else false then decide ((↑(f.pieces.length):Int)<=6) else false)=true)=>y28) tv) tv)) (An (fun (y30:(bif bif bif within f.length 0 300 then within f.slack 0 9 else false then decide ((↑(f.strips.length):Int)<=3) else false then decide ((↑(f.pieces.length):Int)<=6) else false)=true)=>(An (An (fun (y31:(bif bif bif within f.length 0 300 then within f.slack 0 9 else false then decide ((↑(f.strips.length):Int)<=3) else false then decide ((↑(f.pieces.length):Int)<=6) else false)=true)=>y30) tv) tv)) (An (fun (y32:(bif bif bif within f.length 0 300 then within f.slack 0 9 else false then decide ((↑(f.strips.length):Int)<=3) else false then decide ((↑(f.pieces.length):Int)<=6) else false)=true)=>(An (An (fun (y33:(bif bif bif within f.length 0 300 then within f.slack 0 9 else false then decide ((↑(f.strips.length):Int)<=3) else false then decide ((↑(f.pieces.length):Int)<=6) else false)=true)=>y32) (Ak 1 tv)) tv)) (An (An (fun (y34:(bif bif bif within f.length 0 300 then within f.slack 0 9 else false then decide ((↑(f.strips.length):Int)<=3) else false then decide ((↑(f.pieces.length):Int)<=6) else false)=true)=>y34) (fun (y35:(bif bif bif within f.length 0 300 then within f.slack 0 9 else false then decide ((↑(f.strips.length):Int)<=3) else false then decide ((↑(f.pieces.length):Int)<=6) else false)=false)=>tv)) (Ak 1 tv)))))))))))))))))))))))))) ?_
 refine swp_seq ?_
 refine swp_seq ?_
 refine zR [1,3,38,39,40] [0] (Ak 4 tv) ?_
 refine swp_block ?_
 refine zL (Hint.ann (h91a f) [(1,AV.ptr 0 []),(38,AV.sl 2 f.strips.length fun (i:Nat)=>cStrip (stp f i)),(39,iv (↑(f.strips.length):Int))] [(0,OB.cells 61 (cFrm f))] 10264) (zE hE [] [(0,.same 0)] [38,39] [0] (An (An (An (zr (some (Src.same 0))) (zr nilP)) (An (An (zr (AV.sl 2 f.strips.length fun (i:Nat)=>cStrip (stp f i))) (zr true)) (An (An (zr (iv (↑(f.strips.length):Int))) (zr true)) (An (An (cb (o0 hpre)) (zr nilN)) (An (An (ci (o1 hpre)) (zr nilN)) tv))))) (An (An (An (zr (OB.cells 61 (cFrm f))) (zr true)) tv) (An (zr true) (zr true))))) (o2 hpre) (fun (x36:Nat) hx36 => ?_)
 refine swp_seq ?_
 refine zR [1,38,39,3,40,41] [0] (Ak 1 tv) ?_
 refine swp_seq ?_
 refine zI (decide ((x36:Int) < (↑(f.strips.length):Int))) (fun y37 => ?_) (fun y37 => ?_)
 ·refine swp_skip ?_
  refine swp_seq ?_
  refine swp_block ?_
  refine swp_seq ?_
  refine zR [1,38,39,3,40,5] [0,10288] (An (An (o3 hpre x36 hx36 y37) (o4 hpre x36 hx36 y37)) (Ak 3 tv)) ?_
  refine zC ([(4,CallSpec.eq (s124 (stp f x36).thick 1 30) [true,true,true]),(9,CallSpec.eq (s124 (stp f x36).many 0 4) [true,true,true])]) [1,38,39,3,40] [0] (Ak 2 (An (fun (y38:okS f x36=true)=>(An (Ak 1 tv) tv)) (An (fun (y39:okS f x36=true)=>(An (An (fun (y40:okS f x36=true)=>y39) tv) tv)) (An (fun (y41:okS f x36=true)=>(An (Ak 1 (An (fun (y42:okS f x36=true)=>y41) (Ak 2 tv))) (An (An (zr (iv (stp f x36).thick)) (An (zr (iv 1)) (An (zr (iv 30)) tv))) (An (t124 (stp f x36).thick (1) (30)) (Ak 2 (fun (i43:Env)=>tv)))))) (An (An (fun (y44:okS f x36=true)=>y44) (fun (y45:okS f x36=false)=>tv)) (Ak 1 (An (fun (y46:(bif okS f x36 then within (stp f x36).thick 1 30 else false)=true)=>(An (Ak 1 tv) tv)) (An (fun (y47:(bif okS f x36 then within (stp f x36).thick 1 30 else false)=true)=>(An (An (fun (y48:(bif okS f x36 then within (stp f x36).thick 1 30 else false)=true)=>y47) tv) tv)) (An (fun (y49:(bif okS f x36 then within (stp f x36).thick 1 30 else false)=true)=>(An (Ak 1 (An (fun (y50:(bif okS f x36 then within (stp f x36).thick 1 30 else false)=true)=>y49) (Ak 2 tv))) (An (An (zr (iv (stp f x36).many)) (An (zr (iv 0)) (An (zr (iv 4)) tv))) (An (t124 (stp f x36).many (0) (4)) (Ak 2 (fun (i51:Env)=>tv)))))) (An (An (fun (y52:(bif okS f x36 then within (stp f x36).thick 1 30 else false)=true)=>y52) (fun (y53:(bif okS f x36 then within (stp f x36).thick 1 30 else false)=false)=>tv)) (Ak 1 tv))))))))))) ?_
  refine zR [1,38,39,3,40] [0] (An (o5 hpre x36 hx36 y37) (Ak 1 tv)) ?_
  exact zn (zE hE [] [(0,.same 0)] [38,39] [0] (An (An (An (zr (some (Src.same 0))) (zr nilP)) (An (An (zr (AV.sl 2 f.strips.length fun (i:Nat)=>cStrip (stp f i))) (zr true)) (An (An (zr (iv (↑(f.strips.length):Int))) (zr true)) (An (An (cb (o6 hpre x36 hx36 y37)) (zr nilN)) (An (An (ci (o7 hpre x36 hx36 y37)) (zr nilN)) tv))))) (An (An (An (zr (OB.cells 61 (cFrm f))) (zr true)) tv) (An (zr true) (zr true))))) (o8 hpre x36 hx36 y37) (o9 hpre x36 hx36 y37)
 ·refine swp_exit ?_
  refine swp_seq ?_
  refine swp_seq ?_
  refine zR [1,3,57,58,59] [0] (Ak 4 tv) ?_
  refine swp_block ?_
  refine zL (Hint.ann (h91b f) [(1,AV.ptr 0 []),(57,AV.sl 3 f.pieces.length fun (i:Nat)=>cPiece (pc f i)),(58,iv (↑(f.pieces.length):Int))] [(0,OB.cells 61 (cFrm f))] 20304) (zE hE [] [(0,.same 0)] [57,58] [0] (An (An (An (zr (some (Src.same 0))) (zr nilP)) (An (An (zr (AV.sl 3 f.pieces.length fun (i:Nat)=>cPiece (pc f i))) (zr true)) (An (An (zr (iv (↑(f.pieces.length):Int))) (zr true)) (An (An (cb (o10 hpre x36 hx36 y37)) (zr nilN)) (An (An (ci (o11 hpre x36 hx36 y37)) (zr nilN)) tv))))) (An (An (An (zr (OB.cells 61 (cFrm f))) (zr true)) tv) (An (zr true) (zr true))))) (o12 hpre x36 hx36 y37) (fun (x54:Nat) hx54 => ?_)
  refine swp_seq ?_
  refine zR [1,57,58,3,59,60] [0] (Ak 1 tv) ?_
  refine swp_seq ?_
  refine zI (decide ((x54:Int) < (↑(f.pieces.length):Int))) (fun y55 => ?_) (fun y55 => ?_)
  ·refine swp_skip ?_
   refine swp_seq ?_
   refine swp_block ?_
   refine swp_seq ?_
   refine zR [1,57,58,3,59,7] [0,20328] (An (An (o13 hpre x36 hx36 y37 x54 hx54 y55) (o14 hpre x36 hx36 y37 x54 hx54 y55)) (Ak 3 tv)) ?_
   refine zC ([(5,CallSpec.eq (s124 (pc f x54).hi 0 99) [true,true,true]),(14,CallSpec.eq (s124 (pc f x54).lo 0 (pc f x54).hi) [true,true,true]),(19,CallSpec.eq (s124 (pc f x54).pence 0 99) [true,true,true])]) [1,57,58,3,59] [0] (Ak 2 (An (fun (y56:okP f x54=true)=>(An (Ak 1 tv) tv)) (An (fun (y57:okP f x54=true)=>(An (An (fun (y58:okP f x54=true)=>y57) tv) tv)) (An (fun (y59:okP f x54=true)=>(An (An (fun (y60:okP f x54=true)=>y59) tv) tv)) (An (fun (y61:okP f x54=true)=>(An (Ak 1 (An (fun (y62:okP f x54=true)=>y61) (Ak 2 tv))) (An (An (zr (iv (pc f x54).hi)) (An (zr (iv 0)) (An (zr (iv 99)) tv))) (An (t124 (pc f x54).hi (0) (99)) (Ak 2 (fun (i63:Env)=>tv)))))) (An (An (fun (y64:okP f x54=true)=>y64) (fun (y65:okP f x54=false)=>tv)) (Ak 1 (An (fun (y66:(bif okP f x54 then within (pc f x54).hi 0 99 else false)=true)=>(An (Ak 1 tv) tv)) (An (fun (y67:(bif okP f x54 then within (pc f x54).hi 0 99 else false)=true)=>(An (An (fun (y68:(bif okP f x54 then within (pc f x54).hi 0 99 else false)=true)=>y67) tv) tv)) (An (fun (y69:(bif okP f x54 then within (pc f x54).hi 0 99 else false)=true)=>(An (An (fun (y70:(bif okP f x54 then within (pc f x54).hi 0 99 else false)=true)=>y69) tv) tv)) (An (fun (y71:(bif okP f x54 then within (pc f x54).hi 0 99 else false)=true)=>(An (Ak 1 tv) tv)) (An (fun (y72:(bif okP f x54 then within (pc f x54).hi 0 99 else false)=true)=>(An (An (fun (y73:(bif okP f x54 then within (pc f x54).hi 0 99 else false)=true)=>y72) tv) tv)) (An (fun (y74:(bif okP f x54 then within (pc f x54).hi 0 99 else false)=true)=>(An (An (fun (y75:(bif okP f x54 then within (pc f x54).hi 0 99 else false)=true)=>y74) tv) tv)) (An (fun (y76:(bif okP f x54 then within (pc f x54).hi 0 99 else false)=true)=>(An (Ak 1 (An (fun (y77:(bif okP f x54 then within (pc f x54).hi 0 99 else false)=true)=>y76) (Ak 1 (An (fun (y78:(bif okP f x54 then within (pc f x54).hi 0 99 else false)=true)=>y76) tv)))) (An (An (zr (iv (pc f x54).lo)) (An (zr (iv 0)) (An (zr (iv (pc f x54).hi)) tv))) (An (t124 (pc f x54).lo (0) (pc f x54).hi) (Ak 2 (fun (i79:Env)=>tv)))))) (An (An (fun (y80:(bif okP f x54 then within (pc f x54).hi 0 99 else false)=true)=>y80) (fun (y81:(bif okP f x54 then within (pc f x54).hi 0 99 else false)=false)=>tv)) (Ak 1 (An (fun (y82:(bif bif okP f x54 then within (pc f x54).hi 0 99 else false then within (pc f x54).lo 0 (pc f x54).hi else false)=true)=>(An (Ak 1 tv) tv)) (An (fun (y83:(bif bif okP f x54 then within (pc f x54).hi 0 99 else false then within (pc f x54).lo 0 (pc f x54).hi else false)=true)=>(An (An (fun (y84:(bif bif okP f x54 then within (pc f x54).hi 0 99 else false then within (pc f x54).lo 0 (pc f x54).hi else false)=true)=>y83) tv) tv)) (An (fun (y85:(bif bif okP f x54 then within (pc f x54).hi 0 99 else false then within (pc f x54).lo 0 (pc f x54).hi else false)=true)=>(An (Ak 1 (An (fun (y86:(bif bif okP f x54 then within (pc f x54).hi 0 99 else false then within (pc f x54).lo 0 (pc f x54).hi else false)=true)=>y85) (Ak 2 tv))) (An (An (zr (iv (pc f x54).pence)) (An (zr (iv 0)) (An (zr (iv 99)) tv))) (An (t124 (pc f x54).pence (0) (99)) (Ak 2 (fun (i87:Env)=>tv)))))) (An (An (fun (y88:(bif bif okP f x54 then within (pc f x54).hi 0 99 else false then within (pc f x54).lo 0 (pc f x54).hi else false)=true)=>y88) (fun (y89:(bif bif okP f x54 then within (pc f x54).hi 0 99 else false then within (pc f x54).lo 0 (pc f x54).hi else false)=false)=>tv)) (Ak 1 tv))))))))))))))))))))) ?_
   refine zR [1,57,58,3,59] [0] (An (o15 hpre x36 hx36 y37 x54 hx54 y55) (Ak 1 tv)) ?_
   exact zn (zE hE [] [(0,.same 0)] [57,58] [0] (An (An (An (zr (some (Src.same 0))) (zr nilP)) (An (An (zr (AV.sl 3 f.pieces.length fun (i:Nat)=>cPiece (pc f i))) (zr true)) (An (An (zr (iv (↑(f.pieces.length):Int))) (zr true)) (An (An (cb (o16 hpre x36 hx36 y37 x54 hx54 y55)) (zr nilN)) (An (An (ci (o17 hpre x36 hx36 y37 x54 hx54 y55)) (zr nilN)) tv))))) (An (An (An (zr (OB.cells 61 (cFrm f))) (zr true)) tv) (An (zr true) (zr true))))) (o18 hpre x36 hx36 y37 x54 hx54 y55) (o19 hpre x36 hx36 y37 x54 hx54 y55)
  ·refine swp_exit ?_
   refine swp_seq ?_
   refine swp_seq ?_
   refine zR [1,86] [0] (Ak 2 tv) ?_
   refine zI (!okP f x54) (fun y90 => ?_) (fun y90 => ?_)
   ·refine swp_seq ?_
    refine zR [2] [] (Ak 1 tv) ?_
    refine swp_ret ?_
    exact zT [] (An (Ak 1 tv) (An (An (ci (o20 hpre x36 hx36 y37 x54 hx54 y55 y90)) (zr nilN)) (An (zr true) (An (zr true) (zr true)))))
   ·refine swp_skip ?_
    refine swp_seq ?_
    refine swp_ent (zF 0) ?_
    refine zC ([(1,CallSpec.eq (s125 f) [true])]) [1,8] [] (Ak 1 (An (An (An (zr (AV.clo 126 [AV.rp (cFrm f)])) tv) (An (t125 (f)) (An hpre (Ak 1 (fun (i91:Env)=>tv))))) (Ak 1 tv))) ?_
    refine swp_seq ?_
    refine swp_seq ?_
    refine zR [8,94] [] (Ak 6 tv) ?_
    refine zI (!decide ((↑((srt f).length):Int)=(↑(f.pieces.length):Int))) (fun y92 => ?_) (fun y92 => ?_)
    ·refine swp_seq ?_
     refine zR [2] [] (Ak 1 tv) ?_
     refine swp_ret ?_
     exact zT [] (An (Ak 1 tv) (An (An (ci (o21 hpre x36 hx36 y37 x54 hx54 y55 y90 y92)) (zr nilN)) (An (zr true) (An (zr true) (zr true)))))
    ·refine swp_skip ?_
     refine swp_seq ?_
     refine swp_seq ?_
     refine zR [95,96,97] [] (Ak 3 tv) ?_
     refine swp_block ?_
     refine zL (Hint.ann (h91c f) [(95,aInts (srt f)),(96,iv (↑((srt f).length):Int))] [] 30424) (zE hE [] [] [95,96] [] (An (An (An (zr (aInts (srt f))) (zr true)) (An (An (zr (iv (↑((srt f).length):Int))) (zr true)) (An (An (ci (o22 hpre x36 hx36 y37 x54 hx54 y55 y90 y92)) (zr nilN)) tv))) (Ak 1 (An (zr true) (zr true))))) (o23 hpre x36 hx36 y37 x54 hx54 y55 y90 y92) (fun (x93:Nat) hx93 => ?_)
     refine swp_seq ?_
     refine zR [95,96,97,98] [] (Ak 1 tv) ?_
     refine swp_seq ?_
     refine zI (decide ((x93:Int) < (↑((srt f).length):Int))) (fun y94 => ?_) (fun y94 => ?_)
     ·refine swp_skip ?_
      refine swp_seq ?_
      refine swp_block ?_
      refine swp_seq ?_
      refine zR [95,96,97,9,10] [] (Ak 1 (An (An (o24 hpre x36 hx36 y37 x54 hx54 y55 y90 y92 x93 hx93 y94) (o25 hpre x36 hx36 y37 x54 hx54 y55 y90 y92 x93 hx93 y94)) (Ak 3 tv))) ?_
      refine swp_seq ?_
      refine zR [95,96,97,104] [] (Ak 3 tv) ?_
      refine zI (!decide ((x93:Int)=(srt f).getD x93 0)) (fun y95 => ?_) (fun y95 => ?_)
      ·refine swp_seq ?_
       refine zR [2] [] (Ak 1 tv) ?_
       refine swp_ret ?_
       exact zT [] (An (Ak 1 tv) (An (An (ci (o26 hpre x36 hx36 y37 x54 hx54 y55 y90 y92 x93 hx93 y94 y95)) (zr nilN)) (An (zr true) (An (zr true) (zr true)))))
      ·refine swp_skip ?_
       refine zR [95,96,97] [] (An (o27 hpre x36 hx36 y37 x54 hx54 y55 y90 y92 x93 hx93 y94 y95) (Ak 1 tv)) ?_
       exact zn (zE hE [] [] [95,96] [] (An (An (An (zr (aInts (srt f))) (zr true)) (An (An (zr (iv (↑((srt f).length):Int))) (zr true)) (An (An (ci (o28 hpre x36 hx36 y37 x54 hx54 y55 y90 y92 x93 hx93 y94 y95)) (zr nilN)) tv))) (Ak 1 (An (zr true) (zr true))))) (o29 hpre x36 hx36 y37 x54 hx54 y55 y90 y92 x93 hx93 y94 y95) (o30 hpre x36 hx36 y37 x54 hx54 y55 y90 y92 x93 hx93 y94 y95)
     ·refine swp_exit ?_
      refine swp_seq ?_
      refine zR [2] [] (Ak 1 tv) ?_
      refine swp_ret ?_
      exact zT [] (An (Ak 1 tv) (An (An (ci (o31 hpre x36 hx36 y37 x54 hx54 y55 y90 y92 x93 hx93 y94)) (zr nilN)) (An (zr true) (An (zr true) (zr true)))))
theorem t91 (f:Frm):Triple Try.prog 91 (s91 f):=by
 apply w91
 all_goals (try delta q1e q1f q1g q1h q1i q1j q1k q1l q1m q1n q1o q1p)
 case o0=>intro hp; rw [okS_zero]; simp only [okHeadF,Bool.cond_false_right]
 case o5=>intro hp x hx h; have:=hp.1; exact ⟨by omega,by omega⟩
 case o6=>intro hp x hx h; rw [okS_succ]; simp only [okStrip,Bool.cond_false_right,Bool.and_assoc]
 case o10=>intro hp x hx h; simp only [decide_eq_false_iff_not] at h; rw [okP_zero,show x=f.strips.length by omega]
 case o15=>intro hp x hx h y hy h2; have:=hp.2.1; exact ⟨by omega,by omega⟩
 case o16=>intro hp x hx h y hy h2; rw [okP_succ]; simp only [okPiece,Bool.cond_false_right,Bool.and_assoc]
 case o20=>intro hp x hx h y hy h2 h3; simp only [decide_eq_false_iff_not] at h2; simp only [Bool.not_eq_true'] at h3; exact (check_bad (okFrm_P (by rw [← show y=f.pieces.length by omega]; exact h3))).symm
 case o21=>intro hp x hx h y hy h2 h3 h4; simp only [Bool.not_eq_true',decide_eq_false_iff_not] at h4; exact (check_bad (okFrm_ord (ord_not (j:=0) (.inl (by omega))))).symm
 case o26 =>
  intro hp x hx h y hy h2 h3 h4 z hz h5 h6
  simp only [decide_eq_true_eq] at h5
  simp only [Bool.not_eq_true',decide_eq_false_iff_not] at h6
  exact (check_bad (okFrm_ord (ord_not (.inr ⟨by omega,fun e=>h6 e.symm⟩)))).symm
 case o27=>intro hp x hx h y hy h2 h3 h4 z hz h5 h6; have h7:=all_len3 f 64 64 hp.2.2.1 hp.2.2.2; have h8:=srt_len f; exact ⟨by omega,by omega⟩
 case o29 =>
  intro hp x hx h y hy h2 h3 h4 z hz h5 h6
  simp only [decide_eq_true_eq] at h5
  simp only [Bool.not_eq_false',decide_eq_true_eq] at h6
  exact ⟨by omega,lt_succ_cases hz.2 h6.symm⟩
 case o31 =>
  intro hp x hx h y hy h2 h3 h4 z hz h5
  simp only [decide_eq_false_iff_not] at h5 h2
  simp only [Bool.not_eq_false',decide_eq_true_eq] at h4 h3
  refine (check_good ?_).symm
  rw [okFrm_eq,← show y=f.pieces.length by omega,h3,ord_of_srt (by omega) (fun j hj=>hz.2 j (by omega))]; rfl
 all_goals (try ((repeat intro _) <;> (try simp only [Bool.cond_true_left,Bool.cond_false_right,Bool.not_not,Bool.not_eq_true',Bool.not_eq_false',Bool.or_eq_true,Bool.or_eq_false_iff,Bool.and_eq_true,decide_eq_true_eq,decide_eq_false_iff_not,inI,big,fitsF,smallF,goodL] at *) <;> first | (exact rfl) | omega | (exact ⟨Nat.zero_le _,fun j hj=>absurd hj (Nat.not_lt_zero j)⟩) | (simp_all; done) | (simp_all; omega)))
abbrev q1q (f:Frm) (Pq:Prop):Prop:=fitsF f->Pq
abbrev q1r (f:Frm) (Pq:Prop):Prop:=q1q f ((bif bif bif bif !within f.length 0 300 then true else !within f.slack 0 9 then true else decide (3 < (↑(f.strips.length):Int)) then true else decide (6 < (↑(f.pieces.length):Int)) then true else decide (3 < (↑(f.columns.length):Int)))=false->Pq)
abbrev q1s (f:Frm) (x39:Nat) (Pq:Prop):Prop:=(x39<=f.strips.length /\ ∀ (j:Nat),j < x39->okStrip (stp f j)=true)->Pq
abbrev q1t (f:Frm) (x39:Nat) (Pq:Prop):Prop:=q1s f x39 (decide ((x39:Int) < (↑(f.strips.length):Int))=true->Pq)
abbrev q1u (f:Frm) (x39:Nat) (Pq:Prop):Prop:=q1t f x39 ((bif !within (stp f x39).thick 1 30 then true else !within (stp f x39).many 0 4)=false->Pq)
abbrev q1v (f:Frm) (x39:Nat) (Pq:Prop):Prop:=q1s f x39 (decide ((x39:Int) < (↑(f.strips.length):Int))=false->Pq)
abbrev q1w (f:Frm) (x61:Nat) (Pq:Prop):Prop:=(x61<=f.pieces.length /\ ∀ (j:Nat),j < x61->okPiece (pc f j)=true/\cntL (allC f) (j:Int)=1)->Pq
abbrev q1x (f:Frm) (x61:Nat) (Pq:Prop):Prop:=q1w f x61 (decide ((x61:Int) < (↑(f.pieces.length):Int))=true->Pq)
abbrev q1y (f:Frm) (x61:Nat) (Pq:Prop):Prop:=q1x f x61 ((bif bif !isSpan (Span.mk (pc f x61).lo (pc f x61).hi) 99 then true else !within (pc f x61).pence 0 99 then true else !decide (cntL (allC f) (x61:Int)=1))=false->Pq)
abbrev q1z (f:Frm) (x61:Nat) (Pq:Prop):Prop:=q1w f x61 (decide ((x61:Int) < (↑(f.pieces.length):Int))=false->Pq)
abbrev q20 (f:Frm) (x93:Nat) (Pq:Prop):Prop:=(x93<=f.columns.length /\ ∀ (j:Nat),j < x93->List.all (col f j) (isPc f)=true)->Pq
abbrev q21 (f:Frm) (x93:Nat) (Pq:Prop):Prop:=q20 f x93 (decide ((x93:Int) < (↑(f.columns.length):Int))=true->Pq)
abbrev q22 (f:Frm) (x93:Nat) (x95:Nat) (Pq:Prop):Prop:=(x95<=(col f x93).length /\ ∀ (j:Nat),j < x95->isPc f ((col f x93).getD j 0)=true)->Pq
abbrev q23 (f:Frm) (x93:Nat) (x95:Nat) (Pq:Prop):Prop:=q22 f x93 x95 (decide ((x95:Int) < (↑((col f x93).length):Int))=true->Pq)
abbrev q24 (f:Frm) (x93:Nat) (x95:Nat) (Pq:Prop):Prop:=q22 f x93 x95 (decide ((x95:Int) < (↑((col f x93).length):Int))=false->Pq)
theorem w24 (f:Frm)
 (o0:q1q f ((!within f.length 0 300)=false->(!!within f.length 0 300)=true))
 (o1:q1q f ((bif !within f.length 0 300 then true else !within f.slack 0 9)=false->(!bif !within f.length 0 300 then true else !within f.slack 0 9)=true))
 (o2:q1q f ((bif bif !within f.length 0 300 then true else !within f.slack 0 9 then true else decide (3 < (↑(f.strips.length):Int)))=false->(!bif bif !within f.length 0 300 then true else !within f.slack 0 9 then true else decide (3 < (↑(f.strips.length):Int)))=true))
 (o3:q1q f ((bif bif bif !within f.length 0 300 then true else !within f.slack 0 9 then true else decide (3 < (↑(f.strips.length):Int)) then true else decide (6 < (↑(f.pieces.length):Int)))=false->(!bif bif bif !within f.length 0 300 then true else !within f.slack 0 9 then true else decide (3 < (↑(f.strips.length):Int)) then true else decide (6 < (↑(f.pieces.length):Int)))=true))
 (o4:q1q f ((bif bif bif bif !within f.length 0 300 then true else !within f.slack 0 9 then true else decide (3 < (↑(f.strips.length):Int)) then true else decide (6 < (↑(f.pieces.length):Int)) then true else decide (3 < (↑(f.columns.length):Int)))=true->30=checkF f))
 (o5:q1r f (0=(↑0:Int)))
 (o6:q1r f (0<=f.strips.length /\ ∀ (j:Nat),j < 0->okStrip (stp f j)=true))
 (o7:q1r f (∀ (x39:Nat),q1t f x39 (0<=(x39:Int))))
 (o8:q1r f (∀ (x39:Nat),q1t f x39 ((x39:Int) < (↑(f.strips.length):Int))))
 (o9:q1r f (∀ (x39:Nat),q1t f x39 ((!!within (stp f x39).thick 1 30)=true->0<=(x39:Int))))
 (o10:q1r f (∀ (x39:Nat),q1t f x39 ((!!within (stp f x39).thick 1 30)=true->(x39:Int) < (↑(f.strips.length):Int))))
 (o11:q1r f (∀ (x39:Nat),q1t f x39 ((!within (stp f x39).thick 1 30)=false->(!!within (stp f x39).thick 1 30)=true)))
 (o12:q1r f (∀ (x39:Nat),q1t f x39 ((bif !within (stp f x39).thick 1 30 then true else !within (stp f x39).many 0 4)=true->30=checkF f)))
 (o13:q1r f (∀ (x39:Nat),q1u f x39 (inI ((x39:Int) + 1))))
 (o14:q1r f (∀ (x39:Nat),q1u f x39 ((x39:Int) + 1=(↑(x39 + 1):Int))))
 (o15:q1r f (∀ (x39:Nat),q1u f x39 (x39 + 1<=f.strips.length /\ ∀ (j:Nat),j < x39 + 1->okStrip (stp f j)=true)))
 (o16:q1r f (∀ (x39:Nat),q1u f x39 (f.strips.length - (x39 + 1) < f.strips.length - x39)))
 (o17:q1r f (∀ (x39:Nat),q1v f x39 (0=(↑0:Int))))
 (o18:q1r f (∀ (x39:Nat),q1v f x39 (0<=f.pieces.length /\ ∀ (j:Nat),j < 0->okPiece (pc f j)=true/\cntL (allC f) (j:Int)=1)))
 (o19:q1r f (∀ (x39:Nat),q1v f x39 (∀ (x61:Nat),q1x f x61 (0<=(x61:Int)))))
 (o20:q1r f (∀ (x39:Nat),q1v f x39 (∀ (x61:Nat),q1x f x61 ((x61:Int) < (↑(f.pieces.length):Int)))))
 (o21:q1r f (∀ (x39:Nat),q1v f x39 (∀ (x61:Nat),q1x f x61 ((!!isSpan (Span.mk (pc f x61).lo (pc f x61).hi) 99)=true->0<=(x61:Int)))))
 (o22:q1r f (∀ (x39:Nat),q1v f x39 (∀ (x61:Nat),q1x f x61 ((!!isSpan (Span.mk (pc f x61).lo (pc f x61).hi) 99)=true->(x61:Int) < (↑(f.pieces.length):Int)))))
 (o23:q1r f (∀ (x39:Nat),q1v f x39 (∀ (x61:Nat),q1x f x61 ((!isSpan (Span.mk (pc f x61).lo (pc f x61).hi) 99)=false->(!!isSpan (Span.mk (pc f x61).lo (pc f x61).hi) 99)=true))))
 (o24:q1r f (∀ (x39:Nat),q1v f x39 (∀ (x61:Nat),q1x f x61 ((!bif !isSpan (Span.mk (pc f x61).lo (pc f x61).hi) 99 then true else !within (pc f x61).pence 0 99)=true->f.columns.length<=3))))
 (o25:q1r f (∀ (x39:Nat),q1v f x39 (∀ (x61:Nat),q1x f x61 ((bif !isSpan (Span.mk (pc f x61).lo (pc f x61).hi) 99 then true else !within (pc f x61).pence 0 99)=false->(!bif !isSpan (Span.mk (pc f x61).lo (pc f x61).hi) 99 then true else !within (pc f x61).pence 0 99)=true))))
 (o26:q1r f (∀ (x39:Nat),q1v f x39 (∀ (x61:Nat),q1x f x61 ((bif bif !isSpan (Span.mk (pc f x61).lo (pc f x61).hi) 99 then true else !within (pc f x61).pence 0 99 then true else !decide (cntL (allC f) (x61:Int)=1))=true->30=checkF f))))
 (o27:q1r f (∀ (x39:Nat),q1v f x39 (∀ (x61:Nat),q1y f x61 (inI ((x61:Int) + 1)))))
 (o28:q1r f (∀ (x39:Nat),q1v f x39 (∀ (x61:Nat),q1y f x61 ((x61:Int) + 1=(↑(x61 + 1):Int)))))
 (o29:q1r f (∀ (x39:Nat),q1v f x39 (∀ (x61:Nat),q1y f x61 (x61 + 1<=f.pieces.length /\ ∀ (j:Nat),j < x61 + 1->okPiece (pc f j)=true/\cntL (allC f) (j:Int)=1))))
 (o30:q1r f (∀ (x39:Nat),q1v f x39 (∀ (x61:Nat),q1y f x61 (f.pieces.length - (x61 + 1) < f.pieces.length - x61))))
 (o31:q1r f (∀ (x39:Nat),q1v f x39 (∀ (x61:Nat),q1z f x61 (0=(↑0:Int)))))
 (o32:q1r f (∀ (x39:Nat),q1v f x39 (∀ (x61:Nat),q1z f x61 (0<=f.columns.length /\ ∀ (j:Nat),j < 0->List.all (col f j) (isPc f)=true))))
 (o33:q1r f (∀ (x39:Nat),q1v f x39 (∀ (x61:Nat),q1z f x61 (∀ (x93:Nat),q21 f x93 (0=(↑0:Int))))))
 (o34:q1r f (∀ (x39:Nat),q1v f x39 (∀ (x61:Nat),q1z f x61 (∀ (x93:Nat),q21 f x93 (0<=(col f x93).length /\ ∀ (j:Nat),j < 0->isPc f ((col f x93).getD j 0)=true)))))
 (o35:q1r f (∀ (x39:Nat),q1v f x39 (∀ (x61:Nat),q1z f x61 (∀ (x93:Nat),q21 f x93 (∀ (x95:Nat),q22 f x93 x95 (0<=(x93:Int)))))))
 (o36:q1r f (∀ (x39:Nat),q1v f x39 (∀ (x61:Nat),q1z f x61 (∀ (x93:Nat),q21 f x93 (∀ (x95:Nat),q22 f x93 x95 ((x93:Int) < (↑(f.columns.length):Int)))))))
 (o37:q1r f (∀ (x39:Nat),q1v f x39 (∀ (x61:Nat),q1z f x61 (∀ (x93:Nat),q21 f x93 (∀ (x95:Nat),q23 f x93 x95 (0<=(x93:Int)))))))
 (o38:q1r f (∀ (x39:Nat),q1v f x39 (∀ (x61:Nat),q1z f x61 (∀ (x93:Nat),q21 f x93 (∀ (x95:Nat),q23 f x93 x95 ((x93:Int) < (↑(f.columns.length):Int)))))))
 (o39:q1r f (∀ (x39:Nat),q1v f x39 (∀ (x61:Nat),q1z f x61 (∀ (x93:Nat),q21 f x93 (∀ (x95:Nat),q23 f x93 x95 (0<=(x95:Int)))))))
 (o40:q1r f (∀ (x39:Nat),q1v f x39 (∀ (x61:Nat),q1z f x61 (∀ (x93:Nat),q21 f x93 (∀ (x95:Nat),q23 f x93 x95 ((x95:Int) < (↑((col f x93).length):Int)))))))
 (o41:q1r f (∀ (x39:Nat),q1v f x39 (∀ (x61:Nat),q1z f x61 (∀ (x93:Nat),q21 f x93 (∀ (x95:Nat),q23 f x93 x95 ((!isPc f ((col f x93).getD x95 0))=true->30=checkF f))))))
 (o42:q1r f (∀ (x39:Nat),q1v f x39 (∀ (x61:Nat),q1z f x61 (∀ (x93:Nat),q21 f x93 (∀ (x95:Nat),q23 f x93 x95 ((!isPc f ((col f x93).getD x95 0))=false->inI ((x95:Int) + 1)))))))
 (o43:q1r f (∀ (x39:Nat),q1v f x39 (∀ (x61:Nat),q1z f x61 (∀ (x93:Nat),q21 f x93 (∀ (x95:Nat),q23 f x93 x95 ((!isPc f ((col f x93).getD x95 0))=false->(x95:Int) + 1=(↑(x95 + 1):Int)))))))
 (o44:q1r f (∀ (x39:Nat),q1v f x39 (∀ (x61:Nat),q1z f x61 (∀ (x93:Nat),q21 f x93 (∀ (x95:Nat),q23 f x93 x95 ((!isPc f ((col f x93).getD x95 0))=false->x95 + 1<=(col f x93).length /\ ∀ (j:Nat),j < x95 + 1->isPc f ((col f x93).getD j 0)=true))))))
 (o45:q1r f (∀ (x39:Nat),q1v f x39 (∀ (x61:Nat),q1z f x61 (∀ (x93:Nat),q21 f x93 (∀ (x95:Nat),q23 f x93 x95 ((!isPc f ((col f x93).getD x95 0))=false->(col f x93).length - (x95 + 1) < (col f x93).length - x95))))))
 (o46:q1r f (∀ (x39:Nat),q1v f x39 (∀ (x61:Nat),q1z f x61 (∀ (x93:Nat),q21 f x93 (∀ (x95:Nat),q24 f x93 x95 (inI ((x93:Int) + 1)))))))
 (o47:q1r f (∀ (x39:Nat),q1v f x39 (∀ (x61:Nat),q1z f x61 (∀ (x93:Nat),q21 f x93 (∀ (x95:Nat),q24 f x93 x95 ((x93:Int) + 1=(↑(x93 + 1):Int)))))))
 (o48:q1r f (∀ (x39:Nat),q1v f x39 (∀ (x61:Nat),q1z f x61 (∀ (x93:Nat),q21 f x93 (∀ (x95:Nat),q24 f x93 x95 (x93 + 1<=f.columns.length /\ ∀ (j:Nat),j < x93 + 1->List.all (col f j) (isPc f)=true))))))
 (o49:q1r f (∀ (x39:Nat),q1v f x39 (∀ (x61:Nat),q1z f x61 (∀ (x93:Nat),q21 f x93 (∀ (x95:Nat),q24 f x93 x95 (f.columns.length - (x93 + 1) < f.columns.length - x93))))))
 (o50:q1r f (∀ (x39:Nat),q1v f x39 (∀ (x61:Nat),q1z f x61 (∀ (x93:Nat),q20 f x93 (decide ((x93:Int) < (↑(f.columns.length):Int))=false->0=checkF f))))) :
  Triple Try.prog 24 (s24 f):=by
 refine triple_of Try.func24 rfl Try.call24 T0_ok _ rfl rfl rfl rfl (Nat.le_of_ble_eq_true (by kernel_rfl)) (fun _ _ _ _ h=>h) ?_
 intro hpre C hC _ hE
 obtain ⟨P,w0,E0,av,hA,ro,df⟩:=C
 obtain ⟨rfl,rfl,rfl⟩:=hC
 refine swp_seq ?_
 refine zR [1] [0] (Ak 2 tv) ?_
 refine swp_seq ?_
 refine swp_seq ?_
 refine zC ([(2,CallSpec.eq (s57 f.length 0 300) [true,true,true]),(7,CallSpec.eq (s57 f.slack 0 9) [true,true,true])]) [1,34] [0] (Ak 2 (An (An (An (zr (iv f.length)) (An (zr (iv 0)) (An (zr (iv 300)) tv))) (An (t57 f.length (0) (300)) (Ak 2 (fun (i0:Env)=>tv)))) (Ak 2 (An (fun (y1:(!!within f.length 0 300)=true)=>(An (Ak 1 tv) tv)) (An (fun (y2:(!!within f.length 0 300)=true)=>(An (An (fun (y3:(!!within f.length 0 300)=true)=>y2) tv) tv)) (An (fun (y4:(!!within f.length 0 300)=true)=>(An (Ak 1 (An (fun (y5:(!!within f.length 0 300)=true)=>y4) (Ak 2 tv))) (An (An (zr (iv f.slack)) (An (zr (iv 0)) (An (zr (iv 9)) tv))) (An (t57 f.slack (0) (9)) (Ak 2 (fun (i6:Env)=>tv)))))) (An (fun (y7:(!!within f.length 0 300)=true)=>(An (An (fun (y8:(!!within f.length 0 300)=true)=>y7) tv) tv)) (An (An (fun (y9:(!within f.length 0 300)=true)=>tv) (fun (y10:(!within f.length 0 300)=false)=>(o0 hpre y10))) (Ak 1 (An (fun (y11:(!bif !within f.length 0 300 then true else !within f.slack 0 9)=true)=>(An (Ak 1 tv) tv)) (An (fun (y12:(!bif !within f.length 0 300 then true else !within f.slack 0 9)=true)=>(An (An (fun (y13:(!bif !within f.length 0 300 then true else !within f.slack 0 9)=true)=>y12) tv) tv)) (An (fun (y14:(!bif !within f.length 0 300 then true else !within f.slack 0 9)=true)=>(An (An (fun (y15:(!bif !within f.length 0 300 then true else !within f.slack 0 9)=true)=>y14) tv) tv)) (An (fun (y16:(!bif !within f.length 0 300 then true else !within f.slack 0 9)=true)=>(An (An (fun (y17:(!bif !within f.length 0 300 then true else !within f.slack 0 9)=true)=>y16) (Ak 1 tv)) tv)) (An (An (fun (y18:(bif !within f.length 0 300 then true else !within f.slack 0 9)=true)=>tv) (fun (y19:(bif !within f.length 0 300 then true else !within f.slack 0 9)=false)=>(o1 hpre y19))) (Ak 1 (An (fun (y20:(!bif bif !within f.length 0 300 then true else !within f.slack 0 9 then true else decide (3 < (↑(f.strips.length):Int)))=true)=>(An (Ak 1 tv) tv)) (An (fun (y21:(!bif bif !within f.length 0 300 then true else !within f.slack 0 9 then true else decide (3 < (↑(f.strips.length):Int)))=true)=>(An (An (fun (y22:(!bif bif !within f.length 0 300 then true else !within f.slack 0 9 then true else decide (3 < (↑(f.strips.length):Int)))=true)=>y21) tv) tv)) (An (fun (y23:(!bif bif !within f.length 0 300 then true else !within f.slack 0 9 then true else decide (3 < (↑(f.strips.length):Int)))=true)=>(An (An (fun (y24:(!bif bif !within f.length 0 300 then true else !within f.slack 0 9 then true else decide (3 < (↑(f.strips.length):Int)))=true)=>y23) tv) tv)) (An (fun (y25:(!bif bif !within f.length 0 300 then true else !within f.slack 0 9 then true else decide (3 < (↑(f.strips.length):Int)))=true)=>(An (An (fun (y26:(!bif bif !within f.length 0 300 then true else !within f.slack 0 9 then true else decide (3 < (↑(f.strips.length):Int)))=true)=>y25) (Ak 1 tv)) tv)) (An (An (fun (y27:(bif bif !within f.length 0 300 then true else !within f.slack 0 9 then true else decide (3 < (↑(f.strips.length):Int)))=true)=>tv) (fun (y28:(bif bif !within f.length 0 300 then true else !within f.slack 0 9 then true else decide (3 < (↑(f.strips.length):Int)))=false)=>(o2 hpre y28))) (Ak 1 (An (fun (y29:(!bif bif bif !within f.length 0 300 then true else !within f.slack 0 9 then true else decide (3 < (↑(f.strips.length):Int)) then true else decide (6 < (↑(f.pieces.length):Int)))=true)=>(An (Ak 1 tv) tv)) (An (fun (y30:(!bif bif bif !within f.length 0 300 then true else !within f.slack 0 9 then true else decide (3 < (↑(f.strips.length):Int)) then true else decide (6 < (↑(f.pieces.length):Int)))=true)=>(An (An (fun (y31:(!bif bif bif !within f.length 0 300 then true else !within f.slack 0 9 then true else decide (3 < (↑(f.strips.length):Int)) then true else decide (6 < (↑(f.pieces.length):Int)))=true)=>y30) tv) tv)) (An (fun (y32:(!bif bif bif !within f.length 0 300 then true else !within f.slack 0 9 then true else decide (3 < (↑(f.strips.length):Int)) then true else decide (6 < (↑(f.pieces.length):Int)))=true)=>(An (An (fun (y33:(!bif bif bif !within f.length 0 300 then true else !within f.slack 0 9 then true else decide (3 < (↑(f.strips.length):Int)) then true else decide (6 < (↑(f.pieces.length):Int)))=true)=>y32) tv) tv)) (An (fun (y34:(!bif bif bif !within f.length 0 300 then true else !within f.slack 0 9 then true else decide (3 < (↑(f.strips.length):Int)) then true else decide (6 < (↑(f.pieces.length):Int)))=true)=>(An (An (fun (y35:(!bif bif bif !within f.length 0 300 then true else !within f.slack 0 9 then true else decide (3 < (↑(f.strips.length):Int)) then true else decide (6 < (↑(f.pieces.length):Int)))=true)=>y34) (Ak 1 tv)) tv)) (An (An (fun (y36:(bif bif bif !within f.length 0 300 then true else !within f.slack 0 9 then true else decide (3 < (↑(f.strips.length):Int)) then true else decide (6 < (↑(f.pieces.length):Int)))=true)=>tv) (fun (y37:(bif bif bif !within f.length 0 300 then true else !within f.slack 0 9 then true else decide (3 < (↑(f.strips.length):Int)) then true else decide (6 < (↑(f.pieces.length):Int)))=false)=>(o3 hpre y37))) tv)))))))))))))))))))))))))) ?_
 refine zI (bif bif bif bif !within f.length 0 300 then true else !within f.slack 0 9 then true else decide (3 < (↑(f.strips.length):Int)) then true else decide (6 < (↑(f.pieces.length):Int)) then true else decide (3 < (↑(f.columns.length):Int))) (fun y38 => ?_) (fun y38 => ?_)
 ·refine swp_seq ?_
  refine zR [2] [] (Ak 1 tv) ?_
  refine swp_ret ?_
  exact zT [] (An (Ak 1 tv) (An (An (ci (o4 hpre y38)) (zr nilN)) (An (zr true) (An (zr true) (zr true)))))
 ·refine swp_skip ?_
  refine swp_seq ?_
  refine swp_seq ?_
  refine zR [1,3] [0] (Ak 1 tv) ?_
  refine swp_block ?_
  refine zL (Hint.ann (h24a f) [(1,AV.ptr 0 [])] [(0,OB.cells 61 (cFrm f))] 10248) (zE hE [] [(0,.same 0)] [] [0] (An (An (An (zr (some (Src.same 0))) (zr nilP)) (An (An (ci (o5 hpre y38)) (zr nilN)) tv)) (An (An (An (zr (OB.cells 61 (cFrm f))) (zr true)) tv) (An (zr true) (zr true))))) (o6 hpre y38) (fun (x39:Nat) hx39 => ?_)
  refine swp_seq ?_
  refine swp_seq ?_
  refine zR [1,3,39] [0] (Ak 5 tv) ?_
  refine zI (decide ((x39:Int) < (↑(f.strips.length):Int))) (fun y40 => ?_) (fun y40 => ?_)
  ·refine swp_skip ?_
   refine swp_seq ?_
   refine swp_block ?_
   refine swp_seq ?_
   refine zC ([(6,CallSpec.eq (s57 (stp f x39).thick 1 30) [true,true,true]),(15,CallSpec.eq (s57 (stp f x39).many 0 4) [true,true,true])]) [1,3,59] [0] (Ak 3 (An (An (o7 hpre y38 x39 hx39 y40) (o8 hpre y38 x39 hx39 y40)) (Ak 2 (An (An (An (zr (iv (stp f x39).thick)) (An (zr (iv 1)) (An (zr (iv 30)) tv))) (An (t57 (stp f x39).thick (1) (30)) (Ak 2 (fun (i41:Env)=>tv)))) (Ak 2 (An (fun (y42:(!!within (stp f x39).thick 1 30)=true)=>(An (Ak 1 tv) tv)) (An (fun (y43:(!!within (stp f x39).thick 1 30)=true)=>(An (An (fun (y44:(!!within (stp f x39).thick 1 30)=true)=>y43) tv) tv)) (An (fun (y45:(!!within (stp f x39).thick 1 30)=true)=>(An (Ak 1 tv) tv)) (An (fun (y46:(!!within (stp f x39).thick 1 30)=true)=>(An (An (fun (y47:(!!within (stp f x39).thick 1 30)=true)=>y46) (An (fun (y48:(!!within (stp f x39).thick 1 30)=true)=>y46) tv)) (An (o9 hpre y38 x39 hx39 y40 y46) (o10 hpre y38 x39 hx39 y40 y46)))) (An (fun (y49:(!!within (stp f x39).thick 1 30)=true)=>(An (An (fun (y50:(!!within (stp f x39).thick 1 30)=true)=>y49) tv) tv)) (An (fun (y51:(!!within (stp f x39).thick 1 30)=true)=>(An (An (fun (y52:(!!within (stp f x39).thick 1 30)=true)=>y51) tv) tv)) (An (fun (y53:(!!within (stp f x39).thick 1 30)=true)=>(An (Ak 1 (An (fun (y54:(!!within (stp f x39).thick 1 30)=true)=>y53) (Ak 2 tv))) (An (An (zr (iv (stp f x39).many)) (An (zr (iv 0)) (An (zr (iv 4)) tv))) (An (t57 (stp f x39).many (0) (4)) (Ak 2 (fun (i55:Env)=>tv)))))) (An (fun (y56:(!!within (stp f x39).thick 1 30)=true)=>(An (An (fun (y57:(!!within (stp f x39).thick 1 30)=true)=>y56) tv) tv)) (An (An (fun (y58:(!within (stp f x39).thick 1 30)=true)=>tv) (fun (y59:(!within (stp f x39).thick 1 30)=false)=>(o11 hpre y38 x39 hx39 y40 y59))) tv)))))))))))))) ?_
   refine zI (bif !within (stp f x39).thick 1 30 then true else !within (stp f x39).many 0 4) (fun y60 => ?_) (fun y60 => ?_)
   ·refine swp_seq ?_
    refine zR [2] [] (Ak 1 tv) ?_
    refine swp_ret ?_
    exact zT [] (An (Ak 1 tv) (An (An (ci (o12 hpre y38 x39 hx39 y40 y60)) (zr nilN)) (An (zr true) (An (zr true) (zr true)))))
   ·refine swp_skip ?_
    refine zR [1,3] [0] (Ak 1 (An (o13 hpre y38 x39 hx39 y40 y60) (Ak 1 tv))) ?_
    exact zn (zE hE [] [(0,.same 0)] [] [0] (An (An (An (zr (some (Src.same 0))) (zr nilP)) (An (An (ci (o14 hpre y38 x39 hx39 y40 y60)) (zr nilN)) tv)) (An (An (An (zr (OB.cells 61 (cFrm f))) (zr true)) tv) (An (zr true) (zr true))))) (o15 hpre y38 x39 hx39 y40 y60) (o16 hpre y38 x39 hx39 y40 y60)
  ·refine swp_exit ?_
   refine swp_seq ?_
   refine swp_seq ?_
   refine zR [1,4] [0] (Ak 1 tv) ?_
   refine swp_block ?_
   refine zL (Hint.ann (h24b f) [(1,AV.ptr 0 [])] [(0,OB.cells 61 (cFrm f))] 20296) (zE hE [] [(0,.same 0)] [] [0] (An (An (An (zr (some (Src.same 0))) (zr nilP)) (An (An (ci (o17 hpre y38 x39 hx39 y40)) (zr nilN)) tv)) (An (An (An (zr (OB.cells 61 (cFrm f))) (zr true)) tv) (An (zr true) (zr true))))) (o18 hpre y38 x39 hx39 y40) (fun (x61:Nat) hx61 => ?_)
   refine swp_seq ?_
   refine swp_seq ?_
   refine zR [1,4,64] [0] (Ak 5 tv) ?_
   refine zI (decide ((x61:Int) < (↑(f.pieces.length):Int))) (fun y62 => ?_) (fun y62 => ?_)
   ·refine swp_skip ?_
    refine swp_seq ?_
    refine swp_block ?_
    refine swp_seq ?_
    refine zC ([(6,CallSpec.eq (c24 f x61) [false,true]),(15,CallSpec.eq (s57 (pc f x61).pence 0 99) [true,true,true]),(21,CallSpec.eq (s58 f (x61:Int)) [true,true])]) [1,4,90] [0] (Ak 3 (An (An (o19 hpre y38 x39 hx39 y40 x61 hx61 y62) (o20 hpre y38 x39 hx39 y40 x61 hx61 y62)) (Ak 2 (An (An (An (An (zr (iv (pc f x61).lo)) (An (zr (iv (pc f x61).hi)) tv)) (An (zr (iv 99)) tv)) (An (t53 (Span.mk (pc f x61).lo (pc f x61).hi) (99)) (Ak 2 (fun (i63:Env)=>tv)))) (Ak 2 (An (fun (y64:(!!isSpan (Span.mk (pc f x61).lo (pc f x61).hi) 99)=true)=>(An (Ak 1 tv) tv)) (An (fun (y65:(!!isSpan (Span.mk (pc f x61).lo (pc f x61).hi) 99)=true)=>(An (An (fun (y66:(!!isSpan (Span.mk (pc f x61).lo (pc f x61).hi) 99)=true)=>y65) tv) tv)) (An (fun (y67:(!!isSpan (Span.mk (pc f x61).lo (pc f x61).hi) 99)=true)=>(An (Ak 1 tv) tv)) (An (fun (y68:(!!isSpan (Span.mk (pc f x61).lo (pc f x61).hi) 99)=true)=>(An (An (fun (y69:(!!isSpan (Span.mk (pc f x61).lo (pc f x61).hi) 99)=true)=>y68) (An (fun (y70:(!!isSpan (Span.mk (pc f x61).lo (pc f x61).hi) 99)=true)=>y68) tv)) (An (o21 hpre y38 x39 hx39 y40 x61 hx61 y62 y68) (o22 hpre y38 x39 hx39 y40 x61 hx61 y62 y68)))) (An (fun (y71:(!!isSpan (Span.mk (pc f x61).lo (pc f x61).hi) 99)=true)=>(An (An (fun (y72:(!!isSpan (Span.mk (pc f x61).lo (pc f x61).hi) 99)=true)=>y71) tv) tv)) (An (fun (y73:(!!isSpan (Span.mk (pc f x61).lo (pc f x61).hi) 99)=true)=>(An (An (fun (y74:(!!isSpan (Span.mk (pc f x61).lo (pc f x61).hi) 99)=true)=>y73) tv) tv)) (An (fun (y75:(!!isSpan (Span.mk (pc f x61).lo (pc f x61).hi) 99)=true)=>(An (Ak 1 (An (fun (y76:(!!isSpan (Span.mk (pc f x61).lo (pc f x61).hi) 99)=true)=>y75) (Ak 2 tv))) (An (An (zr (iv (pc f x61).pence)) (An (zr (iv 0)) (An (zr (iv 99)) tv))) (An (t57 (pc f x61).pence (0) (99)) (Ak 2 (fun (i77:Env)=>tv)))))) (An (fun (y78:(!!isSpan (Span.mk (pc f x61).lo (pc f x61).hi) 99)=true)=>(An (An (fun (y79:(!!isSpan (Span.mk (pc f x61).lo (pc f x61).hi) 99)=true)=>y78) tv) tv)) (An (An (fun (y80:(!isSpan (Span.mk (pc f x61).lo (pc f x61).hi) 99)=true)=>tv) (fun (y81:(!isSpan (Span.mk (pc f x61).lo (pc f x61).hi) 99)=false)=>(o23 hpre y38 x39 hx39 y40 x61 hx61 y62 y81))) (Ak 1 (An (fun (y82:(!bif !isSpan (Span.mk (pc f x61).lo (pc f x61).hi) 99 then true else !within (pc f x61).pence 0 99)=true)=>(An (Ak 1 tv) tv)) (An (fun (y83:(!bif !isSpan (Span.mk (pc f x61).lo (pc f x61).hi) 99 then true else !within (pc f x61).pence 0 99)=true)=>(An (Ak 1 tv) tv)) (An (fun (y84:(!bif !isSpan (Span.mk (pc f x61).lo (pc f x61).hi) 99 then true else !within (pc f x61).pence 0 99)=true)=>(An (Ak 1 (An (fun (y85:(!bif !isSpan (Span.mk (pc f x61).lo (pc f x61).hi) 99 then true else !within (pc f x61).pence 0 99)=true)=>y84) (An (fun (y86:(!bif !isSpan (Span.mk (pc f x61).lo (pc f x61).hi) 99 then true else !within (pc f x61).pence 0 99)=true)=>y84) tv))) (An (An (zr (AV.agg (cFrm f))) (An (zr (iv (x61:Int))) tv)) (An (t58 (f) ((x61:Int))) (An (An hpre (o24 hpre y38 x39 hx39 y40 x61 hx61 y62 y84)) (Ak 1 (fun (i87:Env)=>tv))))))) (An (fun (y88:(!bif !isSpan (Span.mk (pc f x61).lo (pc f x61).hi) 99 then true else !within (pc f x61).pence 0 99)=true)=>(An (An (fun (y89:(!bif !isSpan (Span.mk (pc f x61).lo (pc f x61).hi) 99 then true else !within (pc f x61).pence 0 99)=true)=>y88) (Ak 1 tv)) tv)) (An (An (fun (y90:(bif !isSpan (Span.mk (pc f x61).lo (pc f x61).hi) 99 then true else !within (pc f x61).pence 0 99)=true)=>tv) (fun (y91:(bif !isSpan (Span.mk (pc f x61).lo (pc f x61).hi) 99 then true else !within (pc f x61).pence 0 99)=false)=>(o25 hpre y38 x39 hx39 y40 x61 hx61 y62 y91))) tv)))))))))))))))))))) ?_
    refine zI (bif bif !isSpan (Span.mk (pc f x61).lo (pc f x61).hi) 99 then true else !within (pc f x61).pence 0 99 then true else !decide (cntL (allC f) (x61:Int)=1)) (fun y92 => ?_) (fun y92 => ?_)
    ·refine swp_seq ?_
     refine zR [2] [] (Ak 1 tv) ?_
     refine swp_ret ?_
     exact zT [] (An (Ak 1 tv) (An (An (ci (o26 hpre y38 x39 hx39 y40 x61 hx61 y62 y92)) (zr nilN)) (An (zr true) (An (zr true) (zr true)))))
    ·refine swp_skip ?_
     refine zR [1,4] [0] (Ak 1 (An (o27 hpre y38 x39 hx39 y40 x61 hx61 y62 y92) (Ak 1 tv))) ?_
     exact zn (zE hE [] [(0,.same 0)] [] [0] (An (An (An (zr (some (Src.same 0))) (zr nilP)) (An (An (ci (o28 hpre y38 x39 hx39 y40 x61 hx61 y62 y92)) (zr nilN)) tv)) (An (An (An (zr (OB.cells 61 (cFrm f))) (zr true)) tv) (An (zr true) (zr true))))) (o29 hpre y38 x39 hx39 y40 x61 hx61 y62 y92) (o30 hpre y38 x39 hx39 y40 x61 hx61 y62 y92)
   ·refine swp_exit ?_
    refine swp_seq ?_
    refine swp_seq ?_
    refine zR [1,5] [0] (Ak 1 tv) ?_
    refine swp_block ?_
    refine zL (Hint.ann (h24c f) [(1,AV.ptr 0 [])] [(0,OB.cells 61 (cFrm f))] 30344) (zE hE [] [(0,.same 0)] [] [0] (An (An (An (zr (some (Src.same 0))) (zr nilP)) (An (An (ci (o31 hpre y38 x39 hx39 y40 x61 hx61 y62)) (zr nilN)) tv)) (An (An (An (zr (OB.cells 61 (cFrm f))) (zr true)) tv) (An (zr true) (zr true))))) (o32 hpre y38 x39 hx39 y40 x61 hx61 y62) (fun (x93:Nat) hx93 => ?_)
    refine swp_seq ?_
    refine swp_seq ?_
    refine zR [1,5,95] [0] (Ak 5 tv) ?_
    refine zI (decide ((x93:Int) < (↑(f.columns.length):Int))) (fun y94 => ?_) (fun y94 => ?_)
    ·refine swp_skip ?_
     refine swp_seq ?_
     refine swp_block ?_
     refine swp_seq ?_
     refine zR [1,5,6] [0] (Ak 1 tv) ?_
     refine swp_block ?_
     refine zL (Hint.ann (h24d f x93) [(1,AV.ptr 0 []),(5,iv (x93:Int))] [(0,OB.cells 61 (cFrm f))] 40392) (zE hE [] [(0,.same 0)] [5] [0] (An (An (An (zr (some (Src.same 0))) (zr nilP)) (An (An (zr (iv (x93:Int))) (zr true)) (An (An (ci (o33 hpre y38 x39 hx39 y40 x61 hx61 y62 x93 hx93 y94)) (zr nilN)) tv))) (An (An (An (zr (OB.cells 61 (cFrm f))) (zr true)) tv) (An (zr true) (zr true))))) (o34 hpre y38 x39 hx39 y40 x61 hx61 y62 x93 hx93 y94) (fun (x95:Nat) hx95 => ?_)
     refine swp_seq ?_
     refine swp_seq ?_
     refine zR [1,5,6,105] [0] (Ak 4 (An (An (o35 hpre y38 x39 hx39 y40 x61 hx61 y62 x93 hx93 y94 x95 hx95) (o36 hpre y38 x39 hx39 y40 x61 hx61 y62 x93 hx93 y94 x95 hx95)) (Ak 3 tv))) ?_
     refine zI (decide ((x95:Int) < (↑((col f x93).length):Int))) (fun y96 => ?_) (fun y96 => ?_)
     ·refine swp_skip ?_
      refine swp_seq ?_
      refine swp_block ?_
      refine swp_seq ?_
      refine zC ([(9,CallSpec.eq (s59 f ((col f x93).getD x95 0)) [true,true])]) [1,5,6,118] [0] (Ak 4 (An (An (o37 hpre y38 x39 hx39 y40 x61 hx61 y62 x93 hx93 y94 x95 hx95 y96) (o38 hpre y38 x39 hx39 y40 x61 hx61 y62 x93 hx93 y94 x95 hx95 y96)) (Ak 2 (An (An (o39 hpre y38 x39 hx39 y40 x61 hx61 y62 x93 hx93 y94 x95 hx95 y96) (o40 hpre y38 x39 hx39 y40 x61 hx61 y62 x93 hx93 y94 x95 hx95 y96)) (Ak 1 (An (An (An (zr (AV.agg (cFrm f))) (An (zr (iv ((col f x93).getD x95 0))) tv)) (An (t59 (f) ((col f x93).getD x95 0)) (An hpre (Ak 1 (fun (i97:Env)=>tv))))) (Ak 1 tv))))))) ?_
      refine zI (!isPc f ((col f x93).getD x95 0)) (fun y98 => ?_) (fun y98 => ?_)
      ·refine swp_seq ?_
       refine zR [2] [] (Ak 1 tv) ?_
       refine swp_ret ?_
       exact zT [] (An (Ak 1 tv) (An (An (ci (o41 hpre y38 x39 hx39 y40 x61 hx61 y62 x93 hx93 y94 x95 hx95 y96 y98)) (zr nilN)) (An (zr true) (An (zr true) (zr true)))))
      ·refine swp_skip ?_
       refine zR [1,5,6] [0] (Ak 1 (An (o42 hpre y38 x39 hx39 y40 x61 hx61 y62 x93 hx93 y94 x95 hx95 y96 y98) (Ak 1 tv))) ?_
       exact zn (zE hE [] [(0,.same 0)] [5] [0] (An (An (An (zr (some (Src.same 0))) (zr nilP)) (An (An (zr (iv (x93:Int))) (zr true)) (An (An (ci (o43 hpre y38 x39 hx39 y40 x61 hx61 y62 x93 hx93 y94 x95 hx95 y96 y98)) (zr nilN)) tv))) (An (An (An (zr (OB.cells 61 (cFrm f))) (zr true)) tv) (An (zr true) (zr true))))) (o44 hpre y38 x39 hx39 y40 x61 hx61 y62 x93 hx93 y94 x95 hx95 y96 y98) (o45 hpre y38 x39 hx39 y40 x61 hx61 y62 x93 hx93 y94 x95 hx95 y96 y98)
     ·refine swp_exit ?_
      refine zR [1,5] [0] (Ak 1 (An (o46 hpre y38 x39 hx39 y40 x61 hx61 y62 x93 hx93 y94 x95 hx95 y96) (Ak 1 tv))) ?_
      exact zn (zE hE [] [(0,.same 0)] [] [0] (An (An (An (zr (some (Src.same 0))) (zr nilP)) (An (An (ci (o47 hpre y38 x39 hx39 y40 x61 hx61 y62 x93 hx93 y94 x95 hx95 y96)) (zr nilN)) tv)) (An (An (An (zr (OB.cells 61 (cFrm f))) (zr true)) tv) (An (zr true) (zr true))))) (o48 hpre y38 x39 hx39 y40 x61 hx61 y62 x93 hx93 y94 x95 hx95 y96) (o49 hpre y38 x39 hx39 y40 x61 hx61 y62 x93 hx93 y94 x95 hx95 y96)
    ·refine swp_exit ?_
     refine swp_seq ?_
     refine zR [2] [] (Ak 1 tv) ?_
     refine swp_ret ?_
     exact zT [] (An (Ak 1 tv) (An (An (ci (o50 hpre y38 x39 hx39 y40 x61 hx61 y62 x93 hx93 y94)) (zr nilN)) (An (zr true) (An (zr true) (zr true)))))
theorem t24 (f:Frm):Triple Try.prog 24 (s24 f):=by
 apply w24
 all_goals (try delta q1q q1r q1s q1t q1u q1v q1w q1x q1y q1z q20 q21 q22 q23 q24)
 case o4 =>
  intro hp h
  refine (check_bad (okFrm_head ?_)).symm
  cases e:okHeadF f with
  | false=>rfl
  | true =>
   simp only [okHeadF,Bool.and_eq_true,decide_eq_true_eq] at e
   obtain ⟨⟨⟨⟨e1,e2⟩,e3⟩,e4⟩,e5⟩:=e
   rw [e1,e2] at h
   simp only [Bool.not_true,Bool.cond_true_left,Bool.false_or,Bool.or_eq_true,decide_eq_true_eq] at h
   omega
 case o12 =>
  intro hp h x hx h2 h3
  simp only [decide_eq_true_eq] at h2
  refine (check_bad (okFrm_strip (x:=x) (by omega) ?_)).symm
  rw [nbor2,Bool.not_eq_true'] at h3
  exact h3
 case o15 =>
  intro hp h x hx h2 h3
  simp only [decide_eq_true_eq] at h2
  rw [nbor2] at h3
  exact ⟨by omega,lt_succ_cases hx.2 (by simpa [okStrip] using h3)⟩
 case o26 =>
  intro hp h x hx h2 y hy h3 h4
  simp only [decide_eq_true_eq] at h3
  rw [nbor3] at h4
  by_cases h5:cntL (allC f) (y:Int)=1
  ·refine (check_bad (okFrm_piece (x:=y) (by omega) ?_)).symm
   rw [decide_eq_true h5,Bool.and_true,Bool.not_eq_true'] at h4
   exact h4
  ·exact (check_bad (okFrm_cnt (x:=y) (by omega) h5)).symm
 case o29 =>
  intro hp h x hx h2 y hy h3 h4
  simp only [decide_eq_true_eq] at h3
  rw [nbor3] at h4
  simp only [Bool.not_eq_false',Bool.and_eq_true,decide_eq_true_eq] at h4
  refine ⟨by omega,lt_succ_cases hy.2 ⟨?_,h4.2⟩⟩
  have h5:=h4.1
  simp only [isSpan,Bool.and_eq_true] at h5
  simp [okPiece,h5.1.1,h5.1.2,h5.2]
 case o41 =>
  intro hp h x hx h2 y hy h3 c hc h4 k hk h5 h6
  simp only [decide_eq_true_eq] at h4 h5
  simp only [Bool.not_eq_true'] at h6
  exact (check_bad (okFrm_in (c:=c) (by omega) (not_all _ 0 _ (by omega) h6))).symm
 case o42=>intro hp h x hx h2 y hy h3 c hc h4 k hk h5 h6; have:=hp.2.2.2 c; simp only [big] at *; exact ⟨by omega,by omega⟩
 case o44 =>
  intro hp h x hx h2 y hy h3 c hc h4 k hk h5 h6
  simp only [decide_eq_true_eq] at h5
  simp only [Bool.not_eq_false'] at h6
  exact ⟨by omega,lt_succ_cases hk.2 h6⟩
 case o48 =>
  intro hp h x hx h2 y hy h3 c hc h4 k hk h5
  simp only [decide_eq_true_eq] at h4
  simp only [decide_eq_false_iff_not] at h5
  exact ⟨by omega,lt_succ_cases hc.2 (all_idx _ 0 _ (fun j hj=>hk.2 j (by omega)))⟩
 case o50 =>
  intro hp h x hx h2 y hy h3 c hc h4
  simp only [decide_eq_false_iff_not] at h2 h3 h4
  refine (check_good (okFrm_of ?_ (fun j hj=>hx.2 j (by omega)) (fun j hj=>hy.2 j (by omega)) (fun j hj=>hc.2 j (by omega)))).symm
  simp only [Bool.cond_true_left,Bool.or_eq_false_iff,Bool.not_eq_false',decide_eq_false_iff_not] at h
  simp only [okHeadF,Bool.and_eq_true,decide_eq_true_eq]
  exact ⟨⟨⟨⟨h.1.1.1.1,h.1.1.1.2⟩,by omega⟩,by omega⟩,by omega⟩
 all_goals (try ((repeat intro _) <;> (try simp only [Bool.cond_true_left,Bool.cond_false_right,Bool.not_not,Bool.not_eq_true',Bool.not_eq_false',Bool.or_eq_true,Bool.or_eq_false_iff,Bool.and_eq_true,decide_eq_true_eq,decide_eq_false_iff_not,inI,big,fitsF,smallF,goodL] at *) <;> first | (exact rfl) | omega | (exact ⟨Nat.zero_le _,fun j hj=>absurd hj (Nat.not_lt_zero j)⟩) | (simp_all; done) | (simp_all; omega)))
abbrev q25 (f:Frm) (Pq:Prop):Prop:=smallF f->Pq
abbrev q26 (f:Frm) (Pq:Prop):Prop:=q25 f ((!decide (checkF f=0))=true->Pq)
abbrev q27 (f:Frm) (Pq:Prop):Prop:=q25 f ((!decide (checkF f=0))=false->Pq)
theorem w63 (f:Frm) (is:Bool)
 (o0:q26 f (0=(openFr f is).length))
 (o1:q26 f (0=(openFr f is).slack))
 (o2:q26 f ((openFr f is).strips.length=0))
 (o3:q26 f ((openFr f is).pieces.length=0))
 (o4:q26 f ((openFr f is).columns.length=0))
 (o5:q26 f (checkF f=openF f is))
 (o6:q27 f ((!is)=true->0=(openFr f is).length))
 (o7:q27 f ((!is)=true->0=(openFr f is).slack))
 (o8:q27 f ((!is)=true->(openFr f is).strips.length=0))
 (o9:q27 f ((!is)=true->(openFr f is).pieces.length=0))
 (o10:q27 f ((!is)=true->(openFr f is).columns.length=0))
 (o11:q27 f ((!is)=true->1=openF f is))
 (o12:q27 f ((!is)=false->f.length=(openFr f is).length))
 (o13:q27 f ((!is)=false->f.slack=(openFr f is).slack))
 (o14:q27 f ((!is)=false->f.strips.length=(openFr f is).strips.length))
 (o15:q27 f ((!is)=false -> ∀ (i3:Nat),i3 < (openFr f is).strips.length->cStrip (stp f i3)=cStrip (stp (openFr f is) i3)))
 (o16:q27 f ((!is)=false->f.pieces.length=(openFr f is).pieces.length))
 (o17:q27 f ((!is)=false -> ∀ (i5:Nat),i5 < (openFr f is).pieces.length->cPiece (pc f i5)=cPiece (pc (openFr f is) i5)))
 (o18:q27 f ((!is)=false->f.columns.length=(openFr f is).columns.length))
 (o19:q27 f ((!is)=false -> ∀ (i7:Nat),i7 < (openFr f is).columns.length -> [aInts (col f i7)] = [aInts (col (openFr f is) i7)]))
 (o20:q27 f ((!is)=false->0=openF f is)) :
  Triple Try.prog 63 (s63 f is):=by
 refine triple_of Try.func63 rfl Try.call63 T0_ok _ rfl rfl rfl rfl (Nat.le_of_ble_eq_true (by kernel_rfl)) (fun _ _ _ _ h=>h) ?_
 intro hpre C hC _ hE
 obtain ⟨P,w0,E0,av,hA,ro,df⟩:=C
 obtain ⟨rfl,rfl,rfl⟩:=hC
 refine swp_seq ?_
 refine zR [1,2,4] [0,8] (Ak 3 tv) ?_
 refine swp_seq ?_
 refine swp_seq ?_
 refine zC ([(1,CallSpec.eq (s91 f) [true])]) [1,2,4,6] [0,8] (Ak 1 (An (An (An (zr (AV.agg (cFrm f))) tv) (An (t91 (f)) (An hpre (Ak 1 (fun (i0:Env)=>tv))))) (Ak 1 tv))) ?_
 refine swp_seq ?_
 refine zR [1,2,4,6,10] [0,8] (Ak 2 tv) ?_
 refine zI (!decide (checkF f=0)) (fun y1 => ?_) (fun y1 => ?_)
 ·refine swp_seq ?_
  refine zR [4,5] [8] (Ak 4 tv) ?_
  refine swp_ret ?_
  exact zT [] (An (Ak 2 tv) (An (An (An (An (ci (o0 hpre y1)) (zr nilN)) (An (An (ci (o1 hpre y1)) (zr nilN)) (An (o2 hpre y1) (An (o3 hpre y1) (An (o4 hpre y1) tv))))) (An (An (ci (o5 hpre y1)) (zr nilN)) tv)) (An (zr true) (An (zr true) (zr true)))))
 ·refine swp_skip ?_
  refine swp_seq ?_
  refine swp_seq ?_
  refine zR [2,4,14] [0,8] (Ak 2 tv) ?_
  refine zI (!is) (fun y2 => ?_) (fun y2 => ?_)
  ·refine swp_seq ?_
   refine zR [4,5] [8] (Ak 3 tv) ?_
   refine swp_ret ?_
   exact zT [] (An (Ak 2 tv) (An (An (An (An (ci (o6 hpre y1 y2)) (zr nilN)) (An (An (ci (o7 hpre y1 y2)) (zr nilN)) (An (o8 hpre y1 y2) (An (o9 hpre y1 y2) (An (o10 hpre y1 y2) tv))))) (An (An (ci (o11 hpre y1 y2)) (zr nilN)) tv)) (An (zr true) (An (zr true) (zr true)))))
  ·refine swp_skip ?_
   refine swp_seq ?_
   refine zR [4,5] [8] (Ak 4 tv) ?_
   refine swp_ret ?_
   exact zT [] (An (Ak 2 tv) (An (An (An (An (ci (o12 hpre y1 y2)) (zr nilN)) (An (An (ci (o13 hpre y1 y2)) (zr nilN)) (An (An (zr 2) (An (o14 hpre y1 y2) (fun (i3:Nat)=>(fun (y4:i3 < (openFr f is).strips.length)=>(o15 hpre y1 y2 i3 y4))))) (An (An (zr 3) (An (o16 hpre y1 y2) (fun (i5:Nat)=>(fun (y6:i5 < (openFr f is).pieces.length)=>(o17 hpre y1 y2 i5 y6))))) (An (An (zr 1) (An (o18 hpre y1 y2) (fun (i7:Nat)=>(fun (y8:i7 < (openFr f is).columns.length)=>(o19 hpre y1 y2 i7 y8))))) tv))))) (An (An (ci (o20 hpre y1 y2)) (zr nilN)) tv)) (An (zr true) (An (zr true) (zr true)))))
theorem t63 (f:Frm) (is:Bool):Triple Try.prog 63 (s63 f is):=by
 apply w63
 all_goals (try delta q25 q26 q27)
 all_goals (intro hp h; simp only [Bool.not_eq_true',Bool.not_eq_false',decide_eq_false_iff_not,decide_eq_true_eq] at h)
 all_goals (have h0 := @check_zero f; cases e:okFrm f <;> simp only [e,check_bad,check_good,Bool.false_eq_true,iff_false,iff_true] at h h0)
 all_goals (first | (exact absurd h0 h) | (exact absurd h h0) | skip)
 all_goals (try (cases is))
 all_goals (simp [openFr,openF,e,nilF,check_bad,check_good])
 all_goals (try ((repeat intro _) <;> (try simp only [Bool.cond_true_left,Bool.cond_false_right,Bool.not_not,Bool.not_eq_true',Bool.not_eq_false',Bool.or_eq_true,Bool.or_eq_false_iff,Bool.and_eq_true,decide_eq_true_eq,decide_eq_false_iff_not,inI,big,fitsF,smallF,goodL] at *) <;> first | (exact rfl) | omega | (exact ⟨Nat.zero_le _,fun j hj=>absurd hj (Nat.not_lt_zero j)⟩) | (simp_all; done) | (simp_all; omega)))
abbrev q28 (f:Frm) (Pq:Prop):Prop:=fitsF f->(bif bif decide (40 < (↑(f.strips.length):Int)) then true else decide (40 < (↑(f.pieces.length):Int)) then true else decide (40 < (↑(f.columns.length):Int)))=false->Pq
abbrev q29 (f:Frm) (x19:Nat) (Pq:Prop):Prop:=(x19<=f.columns.length /\ ∀ (j:Nat),j < x19->decide ((↑((col f j).length):Int) > 40)=false)->Pq
abbrev q2a (f:Frm) (x19:Nat) (Pq:Prop):Prop:=q29 f x19 (decide ((x19:Int) < (↑(f.columns.length):Int))=true->Pq)
abbrev q2b (f:Frm) (x19:Nat) (Pq:Prop):Prop:=q2a f x19 (decide (40 < (↑((col f x19).length):Int))=false->Pq)
theorem w56 (f:Frm)
 (o0:fitsF f->decide (40 < (↑(f.strips.length):Int))=false->(!decide (40 < (↑(f.strips.length):Int)))=true)
 (o1:fitsF f->(bif decide (40 < (↑(f.strips.length):Int)) then true else decide (40 < (↑(f.pieces.length):Int)))=false->(!bif decide (40 < (↑(f.strips.length):Int)) then true else decide (40 < (↑(f.pieces.length):Int)))=true)
 (o2:fitsF f->(bif bif decide (40 < (↑(f.strips.length):Int)) then true else decide (40 < (↑(f.pieces.length):Int)) then true else decide (40 < (↑(f.columns.length):Int)))=true->true=hugeF f)
 (o3:q28 f (0=(↑0:Int)))
 (o4:q28 f (0<=f.columns.length /\ ∀ (j:Nat),j < 0->decide ((↑((col f j).length):Int) > 40)=false))
 (o5:q28 f (∀ (x19:Nat),q2a f x19 (0<=(x19:Int))))
 (o6:q28 f (∀ (x19:Nat),q2a f x19 ((x19:Int) < (↑(f.columns.length):Int))))
 (o7:q28 f (∀ (x19:Nat),q2a f x19 (decide (40 < (↑((col f x19).length):Int))=true->true=hugeF f)))
 (o8:q28 f (∀ (x19:Nat),q2b f x19 (inI ((x19:Int) + 1))))
 (o9:q28 f (∀ (x19:Nat),q2b f x19 ((x19:Int) + 1=(↑(x19 + 1):Int))))
 (o10:q28 f (∀ (x19:Nat),q2b f x19 (x19 + 1<=f.columns.length /\ ∀ (j:Nat),j < x19 + 1->decide ((↑((col f j).length):Int) > 40)=false)))
 (o11:q28 f (∀ (x19:Nat),q2b f x19 (f.columns.length - (x19 + 1) < f.columns.length - x19)))
 (o12:q28 f (∀ (x19:Nat),q29 f x19 (decide ((x19:Int) < (↑(f.columns.length):Int))=false->false=hugeF f))) :
  Triple Try.prog 56 (s56 f):=by
 refine triple_of Try.func56 rfl Try.call56 T0_ok _ rfl rfl rfl rfl (Nat.le_of_ble_eq_true (by kernel_rfl)) (fun _ _ _ _ h=>h) ?_
 intro hpre C hC _ hE
 obtain ⟨P,w0,E0,av,hA,ro,df⟩:=C
 obtain ⟨rfl,rfl,rfl⟩:=hC
 refine swp_seq ?_
 refine zR [1] [0] (Ak 2 tv) ?_
 refine swp_seq ?_
 refine swp_seq ?_
 refine zR [1,19] [0] (Ak 5 (An (fun (y0:(!decide (40 < (↑(f.strips.length):Int)))=true)=>(An (Ak 1 tv) tv)) (An (fun (y1:(!decide (40 < (↑(f.strips.length):Int)))=true)=>(An (An (fun (y2:(!decide (40 < (↑(f.strips.length):Int)))=true)=>y1) tv) tv)) (An (fun (y3:(!decide (40 < (↑(f.strips.length):Int)))=true)=>(An (An (fun (y4:(!decide (40 < (↑(f.strips.length):Int)))=true)=>y3) tv) tv)) (An (fun (y5:(!decide (40 < (↑(f.strips.length):Int)))=true)=>(An (An (fun (y6:(!decide (40 < (↑(f.strips.length):Int)))=true)=>y5) (Ak 1 tv)) tv)) (An (An (fun (y7:decide (40 < (↑(f.strips.length):Int))=true)=>tv) (fun (y8:decide (40 < (↑(f.strips.length):Int))=false)=>(o0 hpre y8))) (Ak 1 (An (fun (y9:(!bif decide (40 < (↑(f.strips.length):Int)) then true else decide (40 < (↑(f.pieces.length):Int)))=true)=>(An (Ak 1 tv) tv)) (An (fun (y10:(!bif decide (40 < (↑(f.strips.length):Int)) then true else decide (40 < (↑(f.pieces.length):Int)))=true)=>(An (An (fun (y11:(!bif decide (40 < (↑(f.strips.length):Int)) then true else decide (40 < (↑(f.pieces.length):Int)))=true)=>y10) tv) tv)) (An (fun (y12:(!bif decide (40 < (↑(f.strips.length):Int)) then true else decide (40 < (↑(f.pieces.length):Int)))=true)=>(An (An (fun (y13:(!bif decide (40 < (↑(f.strips.length):Int)) then true else decide (40 < (↑(f.pieces.length):Int)))=true)=>y12) tv) tv)) (An (fun (y14:(!bif decide (40 < (↑(f.strips.length):Int)) then true else decide (40 < (↑(f.pieces.length):Int)))=true)=>(An (An (fun (y15:(!bif decide (40 < (↑(f.strips.length):Int)) then true else decide (40 < (↑(f.pieces.length):Int)))=true)=>y14) (Ak 1 tv)) tv)) (An (An (fun (y16:(bif decide (40 < (↑(f.strips.length):Int)) then true else decide (40 < (↑(f.pieces.length):Int)))=true)=>tv) (fun (y17:(bif decide (40 < (↑(f.strips.length):Int)) then true else decide (40 < (↑(f.pieces.length):Int)))=false)=>(o1 hpre y17))) tv)))))))))))) ?_
 refine zI (bif bif decide (40 < (↑(f.strips.length):Int)) then true else decide (40 < (↑(f.pieces.length):Int)) then true else decide (40 < (↑(f.columns.length):Int))) (fun y18 => ?_) (fun y18 => ?_)
 ·refine swp_seq ?_
  refine zR [2] [] (Ak 1 tv) ?_
  refine swp_ret ?_
  exact zT [] (An (Ak 1 tv) (An (An (cb (o2 hpre y18)) (zr nilN)) (An (zr true) (An (zr true) (zr true)))))
 ·refine swp_skip ?_
  refine swp_seq ?_
  refine swp_seq ?_
  refine zR [1,3] [0] (Ak 1 tv) ?_
  refine swp_block ?_
  refine zL (Hint.ann (h56 f) [(1,AV.ptr 0 [])] [(0,OB.cells 61 (cFrm f))] 10152) (zE hE [] [(0,.same 0)] [] [0] (An (An (An (zr (some (Src.same 0))) (zr nilP)) (An (An (ci (o3 hpre y18)) (zr nilN)) tv)) (An (An (An (zr (OB.cells 61 (cFrm f))) (zr true)) tv) (An (zr true) (zr true))))) (o4 hpre y18) (fun (x19:Nat) hx19 => ?_)
  refine swp_seq ?_
  refine swp_seq ?_
  refine zR [1,3,24] [0] (Ak 5 tv) ?_
  refine zI (decide ((x19:Int) < (↑(f.columns.length):Int))) (fun y20 => ?_) (fun y20 => ?_)
  ·refine swp_skip ?_
   refine swp_seq ?_
   refine swp_block ?_
   refine swp_seq ?_
   refine zR [1,3,33] [0] (Ak 3 (An (An (o5 hpre y18 x19 hx19 y20) (o6 hpre y18 x19 hx19 y20)) (Ak 3 tv))) ?_
   refine zI (decide (40 < (↑((col f x19).length):Int))) (fun y21 => ?_) (fun y21 => ?_)
   ·refine swp_seq ?_
    refine zR [2] [] (Ak 1 tv) ?_
    refine swp_ret ?_
    exact zT [] (An (Ak 1 tv) (An (An (cb (o7 hpre y18 x19 hx19 y20 y21)) (zr nilN)) (An (zr true) (An (zr true) (zr true)))))
   ·refine swp_skip ?_
    refine zR [1,3] [0] (Ak 1 (An (o8 hpre y18 x19 hx19 y20 y21) (Ak 1 tv))) ?_
    exact zn (zE hE [] [(0,.same 0)] [] [0] (An (An (An (zr (some (Src.same 0))) (zr nilP)) (An (An (ci (o9 hpre y18 x19 hx19 y20 y21)) (zr nilN)) tv)) (An (An (An (zr (OB.cells 61 (cFrm f))) (zr true)) tv) (An (zr true) (zr true))))) (o10 hpre y18 x19 hx19 y20 y21) (o11 hpre y18 x19 hx19 y20 y21)
  ·refine swp_exit ?_
   refine swp_seq ?_
   refine zR [2] [] (Ak 1 tv) ?_
   refine swp_ret ?_
   exact zT [] (An (Ak 1 tv) (An (An (cb (o12 hpre y18 x19 hx19 y20)) (zr nilN)) (An (zr true) (An (zr true) (zr true)))))
theorem t56 (f:Frm):Triple Try.prog 56 (s56 f):=by
 apply w56
 all_goals (try delta q28 q29 q2a q2b)
 case o2=>intro hp h; simp only [Bool.cond_true_left] at h; simp [hugeF,h]
 case o7 =>
  intro hp h x hx h2 h3
  simp only [decide_eq_true_eq] at h2
  have:=some_any f.columns [] (fun l=>decide ((l.length:Int) > 40)) (by omega) h3
  simp [hugeF,this]
 case o10 =>
  intro hp h x hx h2 h3
  simp only [decide_eq_true_eq] at h2
  exact ⟨by omega,lt_succ_cases hx.2 h3⟩
 case o12 =>
  intro hp h x hx h2
  simp only [decide_eq_false_iff_not] at h2
  simp only [Bool.cond_true_left] at h
  have:=any_idx f.columns [] (fun l=>decide ((l.length:Int) > 40)) (fun j hj=>hx.2 j (by omega))
  unfold hugeF
  rw [this,Bool.or_false]
  exact h.symm
 all_goals (try ((repeat intro _) <;> (try simp only [Bool.cond_true_left,Bool.cond_false_right,Bool.not_not,Bool.not_eq_true',Bool.not_eq_false',Bool.or_eq_true,Bool.or_eq_false_iff,Bool.and_eq_true,decide_eq_true_eq,decide_eq_false_iff_not,inI,big,fitsF,smallF,goodL] at *) <;> first | (exact rfl) | omega | (exact ⟨Nat.zero_le _,fun j hj=>absurd hj (Nat.not_lt_zero j)⟩) | (simp_all; done) | (simp_all; omega)))
abbrev q2c (f:Frm) (Pq:Prop):Prop:=fitsF f->hugeF f=false->Pq
abbrev q2d (f:Frm) (Pq:Prop):Prop:=q2c f ((!decide (checkF f=0))=false->Pq)
abbrev q2e (f:Frm) (x4:Nat) (Pq:Prop):Prop:=x4<=f.strips.length->Pq
abbrev q2f (f:Frm) (x4:Nat) (Pq:Prop):Prop:=q2e f x4 (decide ((x4:Int) < (↑(f.strips.length):Int))=true->Pq)
theorem w23 (f:Frm)
 (o0:fitsF f->hugeF f=true->true=farF f)
 (o1:q2c f ((!decide (checkF f=0))=true->false=farF f))
 (o2:q2d f (1=prodF f 0))
 (o3:q2d f (0=(↑0:Int)))
 (o4:q2d f (0<=f.strips.length))
 (o5:q2d f (∀ (x4:Nat),q2f f x4 (0<=(x4:Int))))
 (o6:q2d f (∀ (x4:Nat),q2f f x4 ((x4:Int) < (↑(f.strips.length):Int))))
 (o7:q2d f (∀ (x4:Nat),q2f f x4 (inI ((stp f x4).many + 1))))
 (o8:q2d f (∀ (x4:Nat),q2f f x4 (inI (prodF f x4 * ((stp f x4).many + 1)))))
 (o9:q2d f (∀ (x4:Nat),q2f f x4 (inI ((x4:Int) + 1))))
 (o10:q2d f (∀ (x4:Nat),q2f f x4 (prodF f x4 * ((stp f x4).many + 1)=prodF f (x4 + 1))))
 (o11:q2d f (∀ (x4:Nat),q2f f x4 ((x4:Int) + 1=(↑(x4 + 1):Int))))
 (o12:q2d f (∀ (x4:Nat),q2f f x4 (x4 + 1<=f.strips.length)))
 (o13:q2d f (∀ (x4:Nat),q2f f x4 (f.strips.length - (x4 + 1) < f.strips.length - x4)))
 (o14:q2d f (∀ (x4:Nat),q2e f x4 (decide ((x4:Int) < (↑(f.strips.length):Int))=false->decide (30 < prodF f x4)=farF f))) :
  Triple Try.prog 23 (s23 f):=by
 refine triple_of Try.func23 rfl Try.call23 T0_ok _ rfl rfl rfl rfl (Nat.le_of_ble_eq_true (by kernel_rfl)) (fun _ _ _ _ h=>h) ?_
 intro hpre C hC _ hE
 obtain ⟨P,w0,E0,av,hA,ro,df⟩:=C
 obtain ⟨rfl,rfl,rfl⟩:=hC
 refine swp_seq ?_
 refine zR [1] [0] (Ak 2 tv) ?_
 refine swp_seq ?_
 refine swp_seq ?_
 refine zC ([(1,CallSpec.eq (s56 f) [true])]) [1,6] [0] (Ak 1 (An (An (An (zr (AV.agg (cFrm f))) tv) (An (t56 (f)) (An hpre (Ak 1 (fun (i0:Env)=>tv))))) tv)) ?_
 refine zI (hugeF f) (fun y1 => ?_) (fun y1 => ?_)
 ·refine swp_seq ?_
  refine zR [2] [] (Ak 1 tv) ?_
  refine swp_ret ?_
  exact zT [] (An (Ak 1 tv) (An (An (cb (o0 hpre y1)) (zr nilN)) (An (zr true) (An (zr true) (zr true)))))
 ·refine swp_skip ?_
  refine swp_seq ?_
  refine swp_seq ?_
  refine zC ([(1,CallSpec.eq (s24 f) [true])]) [1,9] [0] (Ak 1 (An (An (An (zr (AV.agg (cFrm f))) tv) (An (t24 (f)) (An hpre (Ak 1 (fun (i2:Env)=>tv))))) (Ak 1 tv))) ?_
  refine zI (!decide (checkF f=0)) (fun y3 => ?_) (fun y3 => ?_)
  ·refine swp_seq ?_
   refine zR [2] [] (Ak 1 tv) ?_
   refine swp_ret ?_
   exact zT [] (An (Ak 1 tv) (An (An (cb (o1 hpre y1 y3)) (zr nilN)) (An (zr true) (An (zr true) (zr true)))))
  ·refine swp_skip ?_
   refine swp_seq ?_
   refine zR [1,3] [0] (Ak 1 tv) ?_
   refine swp_seq ?_
   refine swp_seq ?_
   refine zR [1,3,4] [0] (Ak 1 tv) ?_
   refine swp_block ?_
   refine zL (Hint.ann (h23 f) [(1,AV.ptr 0 [])] [(0,OB.cells 61 (cFrm f))] 10072) (zE hE [] [(0,.same 0)] [] [0] (An (An (An (zr (some (Src.same 0))) (zr nilP)) (An (An (ci (o2 hpre y1 y3)) (zr nilN)) (An (An (ci (o3 hpre y1 y3)) (zr nilN)) tv))) (An (An (An (zr (OB.cells 61 (cFrm f))) (zr true)) tv) (An (zr true) (zr true))))) (o4 hpre y1 y3) (fun (x4:Nat) hx4 => ?_)
   refine swp_seq ?_
   refine swp_seq ?_
   refine zR [1,3,4,14] [0] (Ak 5 tv) ?_
   refine zI (decide ((x4:Int) < (↑(f.strips.length):Int))) (fun y5 => ?_) (fun y5 => ?_)
   ·refine swp_skip ?_
    refine swp_seq ?_
    refine swp_block ?_
    refine zR [1,3,4] [0] (Ak 4 (An (An (o5 hpre y1 y3 x4 hx4 y5) (o6 hpre y1 y3 x4 hx4 y5)) (Ak 2 (An (o7 hpre y1 y3 x4 hx4 y5) (An (o8 hpre y1 y3 x4 hx4 y5) (Ak 1 tv)))))) ?_
    refine zR [1,3,4] [0] (Ak 1 (An (o9 hpre y1 y3 x4 hx4 y5) (Ak 1 tv))) ?_
    exact zn (zE hE [] [(0,.same 0)] [] [0] (An (An (An (zr (some (Src.same 0))) (zr nilP)) (An (An (ci (o10 hpre y1 y3 x4 hx4 y5)) (zr nilN)) (An (An (ci (o11 hpre y1 y3 x4 hx4 y5)) (zr nilN)) tv))) (An (An (An (zr (OB.cells 61 (cFrm f))) (zr true)) tv) (An (zr true) (zr true))))) (o12 hpre y1 y3 x4 hx4 y5) (o13 hpre y1 y3 x4 hx4 y5)
   ·refine swp_exit ?_
    refine swp_seq ?_
    refine zR [2] [] (Ak 3 tv) ?_
    refine swp_ret ?_
    exact zT [] (An (Ak 1 tv) (An (An (cb (o14 hpre y1 y3 x4 hx4 y5)) (zr nilN)) (An (zr true) (An (zr true) (zr true)))))
theorem t23 (f:Frm):Triple Try.prog 23 (s23 f):=by
 apply w23
 all_goals (try delta q2c q2d q2e q2f)
 case o0=>intro hp h; simp [farF,h]
 case o1=>intro hp h h2; simp only [Bool.not_eq_true',decide_eq_false_iff_not] at h2; cases e:okFrm f <;> simp_all [farF,checkF]
 case o7=>intro hp h h2 x hx h3; simp only [Bool.not_eq_false',decide_eq_true_eq] at h2 h3; have:=(sound_of (check_zero.1 h2)).strip x (by omega); exact ⟨by omega,by omega⟩
 case o8=>intro hp h h2 x hx h3; simp only [Bool.not_eq_false',decide_eq_true_eq] at h2 h3; exact prod_in (sound_of (check_zero.1 h2)) (by omega)
 case o9=>intro hp h h2 x hx h3; have:=hp.1; simp only [big] at *; exact ⟨by omega,by omega⟩
 case o10=>intro hp h h2 x hx h3; exact (prod_succ f x).symm
 case o14=>intro hp h h2 x hx h3; simp only [Bool.not_eq_false',decide_eq_true_eq] at h2; simp only [decide_eq_false_iff_not] at h3; rw [show x=f.strips.length by omega]; simp [farF,h,check_zero.1 h2]
 all_goals (try ((repeat intro _) <;> (try simp only [Bool.cond_true_left,Bool.cond_false_right,Bool.not_not,Bool.not_eq_true',Bool.not_eq_false',Bool.or_eq_true,Bool.or_eq_false_iff,Bool.and_eq_true,decide_eq_true_eq,decide_eq_false_iff_not,inI,big,fitsF,smallF,goodL] at *) <;> first | (exact rfl) | omega | (exact ⟨Nat.zero_le _,fun j hj=>absurd hj (Nat.not_lt_zero j)⟩) | (simp_all; done) | (simp_all; omega)))
end Go.Ab
namespace Go.Sh
def idxW (l:List Int) (P:Int->Bool):Int:=match l.findIdx? P with | some i=>i | none => -1
theorem idxW_found {l:List Int} {P:Int->Bool} {x:Nat} (hx:x < l.length) (h:∀ j,j < x->P (l.getD j 0)=false) (hp:P (l.getD x 0)=true):idxW l P=x:=by
 have:l.findIdx? P=some x:=by
  rw [List.findIdx?_eq_some_iff_getElem]
  refine ⟨hx,by rw [← Go.Ab.getD_lt l 0 hx]; exact hp,fun j hj => ?_⟩
  rw [← Go.Ab.getD_lt l 0 (by omega),h j hj]; simp
 simp [idxW,this]
theorem idxW_none {l:List Int} {P:Int->Bool} (h:∀ j,j < l.length->P (l.getD j 0)=false):idxW l P = -1:=by
 have:l.findIdx? P=none:=by
  rw [List.findIdx?_eq_none_iff]
  intro x hx
  have h1:=Go.Ab.any_idx l 0 P h
  rw [List.any_eq_false] at h1
  simpa using h1 x hx
 simp [idxW,this]
theorem idxW_spec (l:List Int) (P:Int->Bool):(idxW l P = -1 /\ ∀ w,w ∈ l->P w=false) ∨ ∃ i:Nat,idxW l P=i/\i < l.length/\P (l.getD i 0)=true /\ ∀ j,j < i->P (l.getD j 0)=false:=by
 unfold idxW
 cases e:l.findIdx? P with
 | none =>
  left
  rw [List.findIdx?_eq_none_iff] at e
  exact ⟨rfl,e⟩
 | some i =>
  right
  rw [List.findIdx?_eq_some_iff_getElem] at e
  obtain ⟨h,h1,h2⟩:=e
  refine ⟨i,rfl,h,by rw [Go.Ab.getD_lt l 0 h]; exact h1,fun j hj => ?_⟩
  rw [Go.Ab.getD_lt l 0 (by omega)]
  simpa using h2 j hj
def keptW (l:List Int) (P:Int->Bool) (n:Nat):List Int:=(l.take n).filter fun w => !P w
def delW (l:List Int) (P:Int->Bool):List Int:=l.filter fun w => !P w
theorem keptW_t {l:List Int} {P:Int->Bool} {n:Nat} (h:n < l.length) (hp:P (l.getD n 0)=true):keptW l P (n + 1)=keptW l P n:=by
 unfold keptW; rw [Go.Ab.take_succ _ 0 h,List.filter_append,List.filter_cons_of_neg (by rw [hp]; exact Bool.false_ne_true),List.filter_nil,List.append_nil]
theorem keptW_f {l:List Int} {P:Int->Bool} {n:Nat} (h:n < l.length) (hp:P (l.getD n 0)=false):keptW l P (n + 1)=keptW l P n ++ [l.getD n 0]:=by
 unfold keptW; rw [Go.Ab.take_succ _ 0 h,List.filter_append,List.filter_cons_of_pos (by rw [hp]; rfl)]; rfl
theorem keptW_len (l:List Int) (P:Int->Bool) (n:Nat):(keptW l P n).length<=n:=by
 unfold keptW; exact Nat.le_trans (List.length_filter_le _ _) (by rw [List.length_take]; omega)
theorem keptW_full {l:List Int} {P:Int->Bool} {n:Nat} (h:l.length<=n):keptW l P n=delW l P:=by
 unfold keptW delW; rw [List.take_of_length_le h]
theorem keptW_first {l:List Int} {P:Int->Bool}:∀ {n:Nat},n<=l.length->(∀ j,j < n->P (l.getD j 0)=false)->keptW l P n=l.take n:=by
 intro n
 induction n with
 | zero=>intro _ _; rfl
 | succ n ih=>intro h h1; rw [keptW_f (by omega) (h1 n (by omega)),ih (by omega) (fun j hj=>h1 j (by omega)),Go.Ab.take_succ _ 0 (by omega)]
def rowW (l:List Int) (P:Int->Bool) (n q:Nat):Int:=if q < (keptW l P n).length then (keptW l P n).getD q 0 else l.getD q 0
def firstD (l:List Int) (P:Int->Bool):Nat:=(idxW l P).toNat
theorem first_spec {l:List Int} {P:Int->Bool} (h:decide (idxW l P = -1)=false):idxW l P=firstD l P/\firstD l P < l.length/\P (l.getD (firstD l P) 0)=true /\ ∀ j,j < firstD l P->P (l.getD j 0)=false:=by
 have h0:idxW l P ≠ -1:=of_decide_eq_false h
 rcases idxW_spec l P with ⟨e,_⟩ | ⟨i,e,h1,h2,h3⟩
 ·exact absurd e h0
 ·have:firstD l P=i:=by unfold firstD; rw [e]; rfl
  rw [this]; exact ⟨e,h1,h2,h3⟩
theorem kept_first {l:List Int} {P:Int->Bool} (h:decide (idxW l P = -1)=false):keptW l P (firstD l P + 1)=l.take (firstD l P)/\(keptW l P (firstD l P + 1)).length=firstD l P:=by
 obtain ⟨_,h1,h2,h3⟩:=first_spec h
 have:keptW l P (firstD l P + 1)=l.take (firstD l P):=by rw [keptW_t h1 h2,keptW_first (by omega) h3]
 exact ⟨this,by rw [this,List.length_take]; omega⟩
theorem kept_lt {l:List Int} {P:Int->Bool} (h:decide (idxW l P = -1)=false):∀ j,firstD l P + 1<=j->j<=l.length->(keptW l P j).length < j:=by
 intro j h1
 induction j with
 | zero=>omega
 | succ j ih =>
  intro h2
  by_cases e:j=firstD l P
  ·rw [e,(kept_first h).2]; omega
  ·have h3:=ih (by omega) (by omega)
   cases hp:P (l.getD j 0) with
   | true=>rw [keptW_t (by omega) hp]; omega
   | false=>rw [keptW_f (by omega) hp,List.length_append]; simp; omega
theorem rowW_self (l:List Int) (P:Int->Bool) (j:Nat):rowW l P j j=l.getD j 0:=by
 unfold rowW; rw [if_neg (by have:=keptW_len l P j; omega)]
theorem rowW_t {l:List Int} {P:Int->Bool} {j:Nat} (h:j < l.length) (hp:P (l.getD j 0)=true) (q:Nat):rowW l P (j + 1) q=rowW l P j q:=by unfold rowW; rw [keptW_t h hp]
theorem rowW_f {l:List Int} {P:Int->Bool} {j:Nat} (h:j < l.length) (hp:P (l.getD j 0)=false) (q:Nat):rowW l P (j + 1) q=if q=(keptW l P j).length then l.getD j 0 else rowW l P j q:=by
 unfold rowW
 rw [keptW_f h hp,List.length_append,List.length_singleton,Go.Ab.getD_append]
 by_cases h1:q < (keptW l P j).length
 ·rw [if_pos (by omega),if_pos h1,if_neg (by omega),if_pos h1]
 ·by_cases h2:q=(keptW l P j).length
  ·subst h2; rw [if_pos (by omega),if_neg h1,if_pos rfl,Nat.sub_self]; rfl
  ·rw [if_neg (by omega),if_neg h2,if_neg h1]
theorem rowW_first {l:List Int} {P:Int->Bool} (h:decide (idxW l P = -1)=false) (q:Nat):rowW l P (firstD l P + 1) q=l.getD q 0:=by
 obtain ⟨h1,h2⟩:=kept_first h
 have h3:=(first_spec h).2.1
 unfold rowW
 rw [h2]
 split
 ·rename_i hq
  rw [h1,Go.Ab.getD_lt _ _ (by rw [List.length_take]; omega),List.getElem_take,Go.Ab.getD_lt _ _ (by omega)]
 ·rfl
theorem del_none {l:List Int} {P:Int->Bool} (h:decide (idxW l P = -1)=true):delW l P=l:=by
 have h0:idxW l P = -1:=of_decide_eq_true h
 rcases idxW_spec l P with ⟨_,h1⟩ | ⟨i,e,_⟩
 ·unfold delW; rw [List.filter_eq_self]; intro w hw; rw [h1 w hw]; rfl
 ·omega
end Go.Sh
namespace Go.Sh
open Go Go.Ab Go.En
def endA (ws:List Int) (P:Int->Bool) (q:Nat):List AV:=if q < (delW ws P).length then [iv ((delW ws P).getD q 0)] else [iv 0]
theorem endA_lt {ws:List Int} {P:Int->Bool} {q:Nat} (h:q < (delW ws P).length):endA ws P q = [iv ((delW ws P).getD q 0)]:=if_pos h
theorem endA_ge {ws:List Int} {P:Int->Bool} {q:Nat} (h:¬ q < (delW ws P).length):endA ws P q = [iv 0]:=if_neg h
theorem inI_div2 {w:Int} {n:Nat} (h:0<=w) (h1:w<=1000):inI (w / 2 ^ n):=by
 have h2:0<=w / 2 ^ n:=Int.ediv_nonneg h (Int.le_of_lt (Int.pow_pos (by omega)))
 have h3:w / 2 ^ n<=w:=Int.ediv_le_self _ h
 constructor <;> omega
def bitP (w:Int) (p:Int):Bool:=decide (w / 2 ^ p.toNat % 2=1)
end Go.Sh
namespace Go.Ab
open Go Go.RowKit Go.Proofs Go.Sh Go.En
abbrev rowN (l:List Int):OB:=rowI 3 l
def ou93 (ws:List Int):OutSpec:={ args:=[aInts ws],pre:=0 < ws.length/\ws.length<=60000,res := .vec 0,hout:=[(0,rowN ws)] }
def ou93n:OutSpec:={ args:=[nilv],res := .vec 0,hout:=[(0,rowN [])] }
def ou93e (a:Addr) (c:Nat):OutSpec:={ args:=[.lit (.slice (some a) 0 c)],res := .vec 0,hout:=[(0,rowN [])] }
def s93o (l:List Int) (id:Nat):CallSpec:={ args:=[aInts l],pre:=l.length<=60000,res := .vec id,hout:=[(id,rowN l)] }
def io127 (ws:List Int) (P:Int->Bool):IoSpec:={ args:=[.vec 0,.fn 0],pre:=ws.length<=65536,fnok:=fnokOf Try.prog 0 (fun w:{ w:Int // w ∈ ws }=>[iv w.1]) (fun w=>bv (P w.1)),hin:=[(0,rowN ws)],res:=iv (idxW ws P),hout:=[(0,rowN ws)] }
def s127 (b:Nat) (ws:List Int) (P:Int->Bool):CallSpec:=(io127 ws P).at [(0,b)]
def h127 (ws:List Int) (P:Int->Bool):Hint:={ X:=Nat,M:=fun i=>[(8,iv i)],I:=fun i=>i<=ws.length /\ ∀ j,j < i->P (ws.getD j 0)=false,mu:=fun i=>ws.length - i,x0:=(0:Nat),nx:=fun i=>i + 1 }
def c127 (ws:List Int) (P:Int->Bool) (x:Nat):CallSpec:={ args:=[iv (ws.getD x 0)],res:=bv (P (ws.getD x 0)) }
def io92 (ws:List Int) (P:Int->Bool):IoSpec:={ args:=[.vec 0,.fn 0],pre:=ws.length<=65536,fnok:=fnokOf Try.prog 0 (fun w:{ w:Int // w ∈ ws }=>[iv w.1]) (fun w=>bv (P w.1)),hin:=[(0,rowN ws)],res:=aInts (delW ws P),hout:=[] }
def s92 (b:Nat) (ws:List Int) (P:Int->Bool):CallSpec:=(io92 ws P).at [(0,b)]
def h92 (ws:List Int) (P:Int->Bool):Hint:={ X:=Nat,M:=fun j=>[(5,iv (keptW ws P j).length),(6,iv j)],H:=fun j=>[(0,.vec 3 1 ws.length (fun q=>[iv (rowW ws P j q)]))],I:=fun j=>firstD ws P + 1<=j/\j<=ws.length,mu:=fun j=>ws.length - j,x0:=firstD ws P + 1,nx:=fun j=>j + 1 }
def c92a (ws:List Int) (P:Int->Bool):CallSpec:=s127 0 ws P
def c92b (ws:List Int) (P:Int->Bool) (x:Nat):CallSpec:={ args:=[iv (ws.getD x 0)],res:=bv (P (ws.getD x 0)) }
def s94 (p w:Int):CallSpec:={ args:=[iv p,.rp [iv w]],res:=bv (bitP w p),pre:=0<=p/\p<=62/\0<=w/\w<=1000 }
end Go.Ab
namespace Go.Ab
open Go Go.RowKit Go.Proofs Go.Sh Go.En
theorem wo93 (ws:List Int)
  (o0:0 < ws.length/\ws.length<=60000->0 + ws.length<=65536)
  (o1:0 < ws.length/\ws.length<=60000->0 + ws.length=ws.length)
  (l:List (Nat × Nat)) (hl:l.map (·.1)=(OutSpec.hout (ou93 ws)).map (·.1)) (hnd:(l.map (·.2)).Nodup) :
  Triple Try.prog 93 (OutSpec.at (ou93 ws) l):=by
 refine triple_out Try.func93 rfl Try.call93 T0_ok _ _ _ _ l rfl (Nat.le_of_ble_eq_true (by kernel_rfl)) hl hnd (by kernel_rfl) (by kernel_rfl) (by kernel_rfl) ?_
 intro hpre C hC hE
 obtain ⟨P,w0,E0,av,hA,ro,df⟩:=C
 obtain ⟨rfl,rfl,rfl⟩:=hC
 refine swp_seq ?_
 refine zR [0] [] (Ak 1 tv) ?_
 refine swp_seq ?_
 refine swp_seq ?_
 refine zR [0,4] [] (Ak 1 (An hpre.1 tv)) ?_
 refine zf ?_
 refine swp_skip ?_
 refine swp_seq ?_
 refine zR [2] [40] (Ak 2 (An (o0 hpre) (Ak 1 tv))) ?_
 refine swp_ret ?_
 exact zO (ASt.mk [(2,AV.vec 0)] [(0,OB.vec 3 1 ws.length fun (i:Nat)=>[iv (ws.getD i 0)])] 100) (zE hE [] [(0,.same 40)] [] [] (An (An (zr (some (Src.same 40))) tv) (An (An (An (zr 3) (An (zr 1) (An (o1 hpre) (fun (i0:Nat)=>(fun (y1:i0 < 0 + ws.length)=>(zr ([iv (ws.getD i0 0)]))))))) tv) (An (zr true) (zr true))))) (An (Ak 1 tv) (An (zr (AV.vec 0)) (An (zr (some (OB.vec 3 1 ws.length fun (i:Nat)=>[iv (ws.getD i 0)]))) tv)))
theorem wo93n 
  (l:List (Nat × Nat)) (hl:l.map (·.1)=(OutSpec.hout (ou93n)).map (·.1)) (hnd:(l.map (·.2)).Nodup) :
  Triple Try.prog 93 (OutSpec.at (ou93n) l):=by
 refine triple_out Try.func93 rfl Try.call93 T0_ok _ _ _ _ l rfl (Nat.le_of_ble_eq_true (by kernel_rfl)) hl hnd (by kernel_rfl) (by kernel_rfl) (by kernel_rfl) ?_
 intro _ C hC hE
 obtain ⟨P,w0,E0,av,hA,ro,df⟩:=C
 obtain ⟨rfl,rfl,rfl⟩:=hC
 refine swp_seq ?_
 refine zR [0] [] (Ak 1 tv) ?_
 refine swp_seq ?_
 refine swp_seq ?_
 refine zR [0,4] [] (Ak 2 tv) ?_
 refine zt ?_
 refine swp_seq ?_
 refine zR [2] [] (Ak 1 tv) ?_
 refine swp_ret ?_
 exact zO (ASt.mk [(2,AV.vec 0)] [(0,OB.vec 3 1 0 fun (i:Nat)=>[iv (List.getD [] i 0)])] 100) (zE hE [] [(0,.nil)] [] [] (An (An (zr (some Src.nil)) tv) (An (An (zr 0) tv) (An (zr true) (zr true))))) (An (Ak 1 tv) (An (zr (AV.vec 0)) (An (zr (some (OB.vec 3 1 0 fun (i:Nat)=>[iv (List.getD [] i 0)]))) tv)))
theorem wo93e (a:Addr) (c:Nat)
  (o0:∀ (i0:Nat),i0 < 0->nilA = [iv (List.getD [] i0 0)])
  (l:List (Nat × Nat)) (hl:l.map (·.1)=(OutSpec.hout (ou93e a c)).map (·.1)) (hnd:(l.map (·.2)).Nodup) :
  Triple Try.prog 93 (OutSpec.at (ou93e a c) l):=by
 refine triple_out Try.func93 rfl Try.call93 T0_ok _ _ _ _ l rfl (Nat.le_of_ble_eq_true (by kernel_rfl)) hl hnd (by kernel_rfl) (by kernel_rfl) (by kernel_rfl) ?_
 intro _ C hC hE
 obtain ⟨P,w0,E0,av,hA,ro,df⟩:=C
 obtain ⟨rfl,rfl,rfl⟩:=hC
 refine swp_seq ?_
 refine zR [0] [] (Ak 1 tv) ?_
 refine swp_seq ?_
 refine swp_seq ?_
 refine zR [0,4] [] (Ak 2 tv) ?_
 refine zf ?_
 refine swp_skip ?_
 refine swp_seq ?_
 refine zR [2] [40] (Ak 2 (An (by decide:0 + 0<=65536) (Ak 1 tv))) ?_
 refine swp_ret ?_
 exact zO (ASt.mk [(2,AV.vec 0)] [(0,OB.vec 3 1 0 fun (i:Nat)=>[iv (List.getD [] i 0)])] 100) (zE hE [] [(0,.same 40)] [] [] (An (An (zr (some (Src.same 40))) tv) (An (An (An (zr 3) (An (zr 1) (An (zr 0) (fun (i0:Nat)=>(fun (y1:i0 < 0)=>(o0 i0 y1)))))) tv) (An (zr true) (zr true))))) (An (Ak 1 tv) (An (zr (AV.vec 0)) (An (zr (some (OB.vec 3 1 0 fun (i:Nat)=>[iv (List.getD [] i 0)]))) tv)))
theorem t93o (ws:List Int) (id:Nat):Triple Try.prog 93 (s93o ws id):=by
 have t0:=wo93n (l:=[(0,id)]) (hl:=rfl) (hnd:=by simp)
 refine ⟨t0.1,fun hp E w vs hf hh hl hr hq => ?_⟩
 cases ws with
 | nil =>
  have key:∀ v,vs.getD 0 undef=v -> ∀ k,Rel E true (([.lit v]:List AV).getD k .any) (vs.getD k undef):=fun v e k=>by
   cases k with
   | zero=>rw [e]; exact .lit v
   | succ k=>exact .any _
  have h0:=hr 0
  change Rel E true (.sl 1 0 _) (vs.getD 0 undef) at h0
  generalize e:vs.getD 0 undef=v at h0
  cases h0 with
  | slN=>exact t0.2 trivial E w vs hf hh hl (key _ e) hq
  | slA=>exact (wo93e _ _ (fun _ h=>absurd h (by omega)) (l:=[(0,id)]) (hl:=rfl) (hnd:=by simp)).2 trivial E w vs hf hh hl (key _ e) hq
  | slZ=>exact (wo93e _ _ (fun _ h=>absurd h (by omega)) (l:=[(0,id)]) (hl:=rfl) (hnd:=by simp)).2 trivial E w vs hf hh hl (key _ e) hq
 | cons a ws =>
  refine (wo93 (a :: ws) (l:=[(0,id)]) ?_ ?_ (hl:=rfl) (hnd:=by simp)).2 ⟨Nat.succ_pos _,hp⟩ E w vs hf hh hl hr hq
  all_goals ((repeat intro _) <;> (try simp only [Bool.cond_true_left,Bool.cond_false_right,Bool.not_not,Bool.not_eq_true',Bool.not_eq_false',Bool.or_eq_true,Bool.or_eq_false_iff,Bool.and_eq_true,decide_eq_true_eq,decide_eq_false_iff_not,inI,big] at *) <;> first | (exact rfl) | omega | (exact ⟨Nat.zero_le _,fun j hj=>absurd hj (Nat.not_lt_zero j)⟩) | (simp_all; done) | (simp_all; omega))
abbrev q2g (ws:List Int) (P:Int->Bool) (E0:Env) (Pq:Prop):Prop:=fnokOf Try.prog 0 (fun (w:{ w:Int // w ∈ ws })=>[iv (Subtype.val w)]) (fun (w:{ w:Int // w ∈ ws })=>bv (P (Subtype.val w))) E0->ws.length<=65536->Pq
abbrev q2h (ws:List Int) (P:Int->Bool) (x0:Nat) (Pq:Prop):Prop:=(x0<=ws.length /\ ∀ (j:Nat),j < x0->P (ws.getD j 0)=false)->Pq
abbrev q2i (ws:List Int) (P:Int->Bool) (x0:Nat) (Pq:Prop):Prop:=q2h ws P x0 (decide ((x0:Int) < (↑(ws.length):Int))=true->Pq)
theorem wio127 (ws:List Int) (P:Int->Bool)
 (o0:∀ (E0:Env),q2g ws P E0 (0=(↑0:Int)))
 (o1:∀ (E0:Env),q2g ws P E0 (0<=ws.length /\ ∀ (j:Nat),j < 0->P (ws.getD j 0)=false))
 (o2:∀ (E0:Env),q2g ws P E0 (∀ (x0:Nat),q2i ws P x0 (0<=(x0:Int))))
 (o3:∀ (E0:Env),q2g ws P E0 (∀ (x0:Nat),q2i ws P x0 ((x0:Int) < (↑(ws.length):Int))))
 (o4:∀ (E0:Env),q2g ws P E0 (∀ (x0:Nat),q2i ws P x0 (x0 < ws.length)))
 (o5:∀ (E0:Env),q2g ws P E0 (∀ (x0:Nat),q2i ws P x0 (∀ (i2:Value),E0.4 0 i2->FnOK Try.prog E0 i2 [iv (ws.getD x0 0)] (bv (P (ws.getD x0 0))))))
 (o6:∀ (E0:Env),q2g ws P E0 (∀ (x0:Nat),q2i ws P x0 (P (ws.getD x0 0)=true->(x0:Int)=idxW ws P)))
 (o7:∀ (E0:Env),q2g ws P E0 (∀ (x0:Nat),q2i ws P x0 (P (ws.getD x0 0)=false->inI ((x0:Int) + 1))))
 (o8:∀ (E0:Env),q2g ws P E0 (∀ (x0:Nat),q2i ws P x0 (P (ws.getD x0 0)=false->(x0:Int) + 1=(↑(x0 + 1):Int))))
 (o9:∀ (E0:Env),q2g ws P E0 (∀ (x0:Nat),q2i ws P x0 (P (ws.getD x0 0)=false->x0 + 1<=ws.length /\ ∀ (j:Nat),j < x0 + 1->P (ws.getD j 0)=false)))
 (o10:∀ (E0:Env),q2g ws P E0 (∀ (x0:Nat),q2i ws P x0 (P (ws.getD x0 0)=false->ws.length - (x0 + 1) < ws.length - x0)))
 (o11:∀ (E0:Env),q2g ws P E0 (∀ (x0:Nat),q2h ws P x0 (decide ((x0:Int) < (↑(ws.length):Int))=false -> -1=idxW ws P)))
  (l:List (Nat × Nat)) (hl:l.map (·.1) = [0]) (hnd:(l.map (·.2)).Nodup) :
  Triple Try.prog 127 (IoSpec.at (io127 ws P) l):=by
 refine triple_io Try.func127 rfl Try.call127 T0_ok (io127 ws P) 1 l (by rw [hl]; kernel_rfl) hnd (Nat.le_of_ble_eq_true (by kernel_rfl)) fnokOf_congr ?_
 intro hpre C hC hfn hE
 obtain ⟨P,w0,E0,av,hA,ro,df⟩:=C
 obtain ⟨rfl,rfl,rfl⟩:=hC
 refine swp_seq ?_
 refine zR [0,1] [0] (Ak 1 tv) ?_
 refine swp_seq ?_
 refine swp_seq ?_
 refine zR [0,1,7,8] [0] (Ak 3 tv) ?_
 refine swp_block ?_
 refine zL (Hint.ann (h127 ws P) [(0,AV.vec 0),(1,AV.fn 0),(7,iv (↑(ws.length):Int))] [(0,OB.vec 3 1 ws.length fun (i:Nat)=>[iv (ws.getD i 0)])] 10033) (zEn 1 hE [] [(0,.same 0)] [1,7] [0] (An (An (zr (some (Src.same 0))) (An (An (zr (AV.fn 0)) (zr true)) (An (An (zr (iv (↑(ws.length):Int))) (zr true)) (An (An (ci (o0 E0 hfn hpre)) (zr nilN)) tv)))) (An (An (An (zr (OB.vec 3 1 ws.length fun (i:Nat)=>[iv (ws.getD i 0)])) (zr true)) tv) (An (zr true) (zr true))))) (o1 E0 hfn hpre) (fun (x0:Nat) hx0 => ?_)
 refine swp_seq ?_
 refine zR [0,1,7,8,9] [0] (Ak 1 tv) ?_
 refine swp_seq ?_
 refine zI (decide ((x0:Int) < (↑(ws.length):Int))) (fun y1 => ?_) (fun y1 => ?_)
 ·refine swp_skip ?_
  refine swp_seq ?_
  refine swp_block ?_
  refine swp_seq ?_
  refine zR [0,1,7,8,5] [0] (Ak 2 tv) ?_
  refine swp_seq ?_
  refine zC ([(5,CallSpec.eq (c127 ws P x0) [true])]) [0,1,7,8,5,16] [0] (Ak 3 (An (An (o2 E0 hfn hpre x0 hx0 y1) (o3 E0 hfn hpre x0 hx0 y1)) (An (An (o4 E0 hfn hpre x0 hx0 y1) tv) (An (An (An (zr (iv (ws.getD x0 0))) tv) (fun (i2:Value)=>(fun (y3:E0.4 0 i2)=>(o5 E0 hfn hpre x0 hx0 y1 i2 y3)))) tv)))) ?_
  refine zI (P (ws.getD x0 0)) (fun y4 => ?_) (fun y4 => ?_)
  ·refine swp_seq ?_
   refine zR [4] [0] (Ak 2 tv) ?_
   refine swp_ret ?_
   exact zO (ASt.mk [(4,iv (idxW ws P))] [(0,OB.vec 3 1 ws.length fun (i:Nat)=>[iv (ws.getD i 0)])] 100) (zEn 1 hE [] [(0,.same 0)] [] [0] (An (An (An (ci (o6 E0 hfn hpre x0 hx0 y1 y4)) (zr nilN)) tv) (An (An (An (zr (OB.vec 3 1 ws.length fun (i:Nat)=>[iv (ws.getD i 0)])) (zr true)) tv) (An (zr true) (zr true))))) (An (Ak 1 tv) (An (zr (iv (idxW ws P))) (An (zr (some (OB.vec 3 1 ws.length fun (i:Nat)=>[iv (ws.getD i 0)]))) tv)))
  ·refine swp_skip ?_
   refine zR [0,1,7,8] [0] (An (o7 E0 hfn hpre x0 hx0 y1 y4) (Ak 1 tv)) ?_
   exact zn (zEn 1 hE [] [(0,.same 0)] [1,7] [0] (An (An (zr (some (Src.same 0))) (An (An (zr (AV.fn 0)) (zr true)) (An (An (zr (iv (↑(ws.length):Int))) (zr true)) (An (An (ci (o8 E0 hfn hpre x0 hx0 y1 y4)) (zr nilN)) tv)))) (An (An (An (zr (OB.vec 3 1 ws.length fun (i:Nat)=>[iv (ws.getD i 0)])) (zr true)) tv) (An (zr true) (zr true))))) (o9 E0 hfn hpre x0 hx0 y1 y4) (o10 E0 hfn hpre x0 hx0 y1 y4)
 ·refine swp_exit ?_
  refine swp_seq ?_
  refine zR [4] [0] (Ak 1 tv) ?_
  refine swp_ret ?_
  exact zO (ASt.mk [(4,iv (idxW ws P))] [(0,OB.vec 3 1 ws.length fun (i:Nat)=>[iv (ws.getD i 0)])] 100) (zEn 1 hE [] [(0,.same 0)] [] [0] (An (An (An (ci (o11 E0 hfn hpre x0 hx0 y1)) (zr nilN)) tv) (An (An (An (zr (OB.vec 3 1 ws.length fun (i:Nat)=>[iv (ws.getD i 0)])) (zr true)) tv) (An (zr true) (zr true))))) (An (Ak 1 tv) (An (zr (iv (idxW ws P))) (An (zr (some (OB.vec 3 1 ws.length fun (i:Nat)=>[iv (ws.getD i 0)]))) tv)))
theorem t127 (b:Nat) (ws:List Int) (P:Int->Bool):Triple Try.prog 127 (s127 b ws P):=by
 refine wio127 ws P ?_ ?_ ?_ ?_ ?_ ?_ ?_ ?_ ?_ ?_ ?_ ?_ [(0,b)] rfl (by simp)
 case refine_6=>intro E0 hfn hp x hx hl u hu; exact hfn u hu ⟨_,getD_mem ws 0 (by simpa using hl)⟩
 case refine_7=>intro E0 hfn hp x hx hl h; simp only [decide_eq_true_eq] at hl; exact (idxW_found (by omega) hx.2 h).symm
 case refine_10=>intro E0 hfn hp x hx hl h; simp only [decide_eq_true_eq] at hl; exact ⟨by omega,lt_succ_cases hx.2 h⟩
 case refine_12=>intro E0 hfn hp x hx hl; simp only [decide_eq_false_iff_not] at hl; exact (idxW_none (fun j hj=>hx.2 j (by omega))).symm
 all_goals ((repeat intro _) <;> (try simp only [Bool.cond_true_left,Bool.cond_false_right,Bool.not_not,Bool.not_eq_true',Bool.not_eq_false',Bool.or_eq_true,Bool.or_eq_false_iff,Bool.and_eq_true,decide_eq_true_eq,decide_eq_false_iff_not,inI,big] at *) <;> first | (exact rfl) | omega | (exact ⟨Nat.zero_le _,fun j hj=>absurd hj (Nat.not_lt_zero j)⟩) | (simp_all; done) | (simp_all; omega))
abbrev q2j (ws:List Int) (P:Int->Bool) (E0:Env) (Pq:Prop):Prop:=fnokOf Try.prog 0 (fun (w:{ w:Int // w ∈ ws })=>[iv (Subtype.val w)]) (fun (w:{ w:Int // w ∈ ws })=>bv (P (Subtype.val w))) E0->ws.length<=65536->Pq
abbrev q2k (ws:List Int) (P:Int->Bool) (E0:Env) (Pq:Prop):Prop:=q2j ws P E0 (decide (idxW ws P = -1)=false->Pq)
abbrev q2l (ws:List Int) (P:Int->Bool) (x8:Nat) (Pq:Prop):Prop:=firstD ws P + 1<=x8/\x8<=ws.length->Pq
abbrev q2m (ws:List Int) (P:Int->Bool) (x8:Nat) (Pq:Prop):Prop:=q2l ws P x8 (decide ((x8:Int) < (↑(ws.length):Int))=true->Pq)
abbrev q2n (ws:List Int) (P:Int->Bool) (x8:Nat) (Pq:Prop):Prop:=q2m ws P x8 ((!P (ws.getD x8 0))=true->Pq)
abbrev q2o (ws:List Int) (P:Int->Bool) (x8:Nat) (Pq:Prop):Prop:=q2l ws P x8 (decide ((x8:Int) < (↑(ws.length):Int))=false->Pq)
theorem wio92 (ws:List Int) (P:Int->Bool)
 (o0:∀ (E0:Env),q2j ws P E0 (∀ (i0:Env) (i1:List Value),Env.le E0 i0->i1.length=2->(∀ (k:Nat),Rel i0 true (List.getD [AV.vec 0,AV.fn 0] k AV.any) (i1.getD k undef))->fnokOf Try.prog 0 (fun (w:{ w:Int // w ∈ ws })=>[iv (Subtype.val w)]) (fun (w:{ w:Int // w ∈ ws })=>bv (P (Subtype.val w))) (Env.mk i0.1 i0.2 i0.3 fun (k:Nat) (u:Value) => ∃ (i:Nat),[AV.vec 0,AV.fn 0][i]? = some (AV.fn k)/\i1[i]? = some u)))
 (o1:∀ (E0:Env),q2j ws P E0 (decide (idxW ws P = -1)=true->ws.length=(delW ws P).length))
 (o2:∀ (E0:Env),q2j ws P E0 (decide (idxW ws P = -1)=true -> ∀ (i6:Nat),i6 < (delW ws P).length -> [iv (ws.getD i6 0)] = [iv ((delW ws P).getD i6 0)]))
 (o3:∀ (E0:Env),q2k ws P E0 (inI (idxW ws P + 1)))
 (o4:∀ (E0:Env),q2k ws P E0 (idxW ws P=(↑((keptW ws P (Nat.succ (Nat.add (firstD ws P) 0))).length):Int)))
 (o5:∀ (E0:Env),q2k ws P E0 (idxW ws P + 1=(↑(Nat.succ (Nat.add (firstD ws P) 0)):Int)))
 (o6:∀ (E0:Env),q2k ws P E0 (∀ (i9:Nat),i9 < ws.length -> [iv (ws.getD i9 0)] = [iv (rowW ws P (Nat.succ (Nat.add (firstD ws P) 0)) i9)]))
 (o7:∀ (E0:Env),q2k ws P E0 (firstD ws P + 1<=Nat.succ (Nat.add (firstD ws P) 0)/\Nat.succ (Nat.add (firstD ws P) 0)<=ws.length))
 (o8:∀ (E0:Env),q2k ws P E0 (∀ (x8:Nat),q2m ws P x8 (0<=(x8:Int))))
 (o9:∀ (E0:Env),q2k ws P E0 (∀ (x8:Nat),q2m ws P x8 ((x8:Int) < (↑(ws.length):Int))))
 (o10:∀ (E0:Env),q2k ws P E0 (∀ (x8:Nat),q2m ws P x8 (x8 < ws.length)))
 (o11:∀ (E0:Env),q2k ws P E0 (∀ (x8:Nat),q2m ws P x8 (rowW ws P x8 x8=ws.getD x8 0)))
 (o12:∀ (E0:Env),q2k ws P E0 (∀ (x8:Nat),q2m ws P x8 (∀ (i12:Value),E0.4 0 i12->FnOK Try.prog E0 i12 [iv (ws.getD x8 0)] (bv (P (ws.getD x8 0))))))
 (o13:∀ (E0:Env),q2k ws P E0 (∀ (x8:Nat),q2n ws P x8 (0<=(↑((keptW ws P x8).length):Int))))
 (o14:∀ (E0:Env),q2k ws P E0 (∀ (x8:Nat),q2n ws P x8 ((↑((keptW ws P x8).length):Int) < (↑(ws.length):Int))))
 (o15:∀ (E0:Env),q2k ws P E0 (∀ (x8:Nat),q2n ws P x8 ((keptW ws P x8).length < ws.length)))
 (o16:∀ (E0:Env),q2k ws P E0 (∀ (x8:Nat),q2n ws P x8 (inI ((↑((keptW ws P x8).length):Int) + 1))))
 (o17:∀ (E0:Env),q2k ws P E0 (∀ (x8:Nat),q2n ws P x8 (inI ((x8:Int) + 1))))
 (o18:∀ (E0:Env),q2k ws P E0 (∀ (x8:Nat),q2n ws P x8 ((↑((keptW ws P x8).length):Int) + 1=(↑((keptW ws P (x8 + 1)).length):Int))))
 (o19:∀ (E0:Env),q2k ws P E0 (∀ (x8:Nat),q2n ws P x8 ((x8:Int) + 1=(↑(x8 + 1):Int))))
 (o20:∀ (E0:Env),q2k ws P E0 (∀ (x8:Nat),q2n ws P x8 (∀ (i15:Nat),i15 < ws.length->Decidable.rec (fun (h:¬i15=(keptW ws P x8).length)=>[iv (rowW ws P x8 i15)]) (fun (h:i15=(keptW ws P x8).length)=>[iv (rowW ws P x8 x8)] ++ []) (instDecidableEqNat i15 (keptW ws P x8).length) = [iv (rowW ws P (x8 + 1) i15)])))
 (o21:∀ (E0:Env),q2k ws P E0 (∀ (x8:Nat),q2n ws P x8 (firstD ws P + 1<=x8 + 1/\x8 + 1<=ws.length)))
 (o22:∀ (E0:Env),q2k ws P E0 (∀ (x8:Nat),q2n ws P x8 (ws.length - (x8 + 1) < ws.length - x8)))
 (o23:∀ (E0:Env),q2k ws P E0 (∀ (x8:Nat),q2m ws P x8 ((!P (ws.getD x8 0))=false->inI ((x8:Int) + 1))))
 (o24:∀ (E0:Env),q2k ws P E0 (∀ (x8:Nat),q2m ws P x8 ((!P (ws.getD x8 0))=false->(↑((keptW ws P x8).length):Int)=(↑((keptW ws P (x8 + 1)).length):Int))))
 (o25:∀ (E0:Env),q2k ws P E0 (∀ (x8:Nat),q2m ws P x8 ((!P (ws.getD x8 0))=false->(x8:Int) + 1=(↑(x8 + 1):Int))))
 (o26:∀ (E0:Env),q2k ws P E0 (∀ (x8:Nat),q2m ws P x8 ((!P (ws.getD x8 0))=false -> ∀ (i17:Nat),i17 < ws.length -> [iv (rowW ws P x8 i17)] = [iv (rowW ws P (x8 + 1) i17)])))
 (o27:∀ (E0:Env),q2k ws P E0 (∀ (x8:Nat),q2m ws P x8 ((!P (ws.getD x8 0))=false->firstD ws P + 1<=x8 + 1/\x8 + 1<=ws.length)))
 (o28:∀ (E0:Env),q2k ws P E0 (∀ (x8:Nat),q2m ws P x8 ((!P (ws.getD x8 0))=false->ws.length - (x8 + 1) < ws.length - x8)))
 (o29:∀ (E0:Env),q2k ws P E0 (∀ (x8:Nat),q2o ws P x8 (0<=(↑((keptW ws P x8).length):Int))))
 (o30:∀ (E0:Env),q2k ws P E0 (∀ (x8:Nat),q2o ws P x8 ((↑((keptW ws P x8).length):Int) < (↑(ws.length):Int))))
 (o31:∀ (E0:Env),q2k ws P E0 (∀ (x8:Nat),q2o ws P x8 ((keptW ws P x8).length + (ws.length - (keptW ws P x8).length)=ws.length)))
 (o32:∀ (E0:Env),q2k ws P E0 (∀ (x8:Nat),q2o ws P x8 (0 < ws.length - (keptW ws P x8).length)))
 (o33:∀ (E0:Env),q2k ws P E0 (∀ (x8:Nat),q2o ws P x8 (∀ (i19:Nat),i19 < ws.length->Decidable.rec (fun (h:¬i19 < (keptW ws P x8).length)=>[iv 0]) (fun (h:i19 < (keptW ws P x8).length)=>[iv (rowW ws P x8 i19)]) (Nat.decLt i19 (keptW ws P x8).length)=endA ws P i19)))
 (o34:∀ (E0:Env),q2k ws P E0 (∀ (x8:Nat),q2o ws P x8 (0<=(↑((keptW ws P x8).length):Int))))
 (o35:∀ (E0:Env),q2k ws P E0 (∀ (x8:Nat),q2o ws P x8 ((↑((keptW ws P x8).length):Int)<=(↑(ws.length):Int))))
 (o36:∀ (E0:Env),q2k ws P E0 (∀ (x8:Nat),q2o ws P x8 ((keptW ws P x8).length=(delW ws P).length)))
 (o37:∀ (E0:Env),q2k ws P E0 (∀ (x8:Nat),q2o ws P x8 (∀ (i23:Nat),i23 < (delW ws P).length->endA ws P i23 = [iv ((delW ws P).getD i23 0)])))
  (l:List (Nat × Nat)) (hl:l.map (·.1) = [0]) (hnd:(l.map (·.2)).Nodup) :
  Triple Try.prog 92 (IoSpec.at (io92 ws P) l):=by
 refine triple_io Try.func92 rfl Try.call92 T0_ok (io92 ws P) 1 l (by rw [hl]; kernel_rfl) hnd (Nat.le_of_ble_eq_true (by kernel_rfl)) fnokOf_congr ?_
 intro hpre C hC hfn hE
 obtain ⟨P,w0,E0,av,hA,ro,df⟩:=C
 obtain ⟨rfl,rfl,rfl⟩:=hC
 refine swp_seq ?_
 refine zR [0,1] [0] (Ak 1 tv) ?_
 refine swp_seq ?_
 refine zC ([(2,CallSpec.eq (c92a ws P) [true,true])]) [0,1,5] [0] (Ak 2 (An (An (An (zr (AV.vec 0)) (An (zr (AV.fn 0)) tv)) (An (t127 (0) (ws) (P)) (An hpre (An (An (zr (some (OB.vec 3 1 ws.length fun (i:Nat)=>[iv (ws.getD i 0)]))) tv) (fun (i0:Env)=>(fun (i1:List Value)=>(fun (y2:Env.le E0 i0)=>(fun (y3:i1.length=2)=>(fun (y4:∀ (k:Nat),Rel i0 true (List.getD [AV.vec 0,AV.fn 0] k AV.any) (i1.getD k undef))=>(o0 E0 hfn hpre i0 i1 y2 y3 y4)))))))))) (Ak 1 tv))) ?_
 refine swp_seq ?_
 refine swp_seq ?_
 refine zR [0,1,5,12] [0] (Ak 2 tv) ?_
 refine zI (decide (idxW ws P = -1)) (fun y5 => ?_) (fun y5 => ?_)
 ·refine swp_seq ?_
  refine zR [4] [0] (Ak 2 tv) ?_
  refine swp_ret ?_
  exact zO (ASt.mk [(4,aInts (delW ws P))] [] 100) (zEn 1 hE [0] [] [] [] (An (An (An (zr 1) (An (o1 E0 hfn hpre y5) (fun (i6:Nat)=>(fun (y7:i6 < (delW ws P).length)=>(o2 E0 hfn hpre y5 i6 y7))))) tv) (Ak 1 (An (zr true) (zr true))))) (An (Ak 1 tv) (An (zr (aInts (delW ws P))) tv))
 ·refine swp_skip ?_
  refine swp_seq ?_
  refine swp_seq ?_
  refine zR [0,1,5,6] [0] (Ak 1 (An (o3 E0 hfn hpre y5) (Ak 1 tv))) ?_
  refine swp_block ?_
  refine zL (Hint.ann (h92 ws P) [(0,AV.vec 0),(1,AV.fn 0)] [] 10081) (zEn 1 hE [] [(0,.same 0)] [1] [] (An (An (zr (some (Src.same 0))) (An (An (zr (AV.fn 0)) (zr true)) (An (An (ci (o4 E0 hfn hpre y5)) (zr nilN)) (An (An (ci (o5 E0 hfn hpre y5)) (zr nilN)) tv)))) (An (An (An (zr 3) (An (zr 1) (An (zr ws.length) (fun (i9:Nat)=>(fun (y10:i9 < ws.length)=>(o6 E0 hfn hpre y5 i9 y10)))))) tv) (An (zr true) (zr true))))) (o7 E0 hfn hpre y5) (fun (x8:Nat) hx8 => ?_)
  refine swp_seq ?_
  refine swp_seq ?_
  refine zR [0,1,5,6,19] [0] (Ak 4 tv) ?_
  refine zI (decide ((x8:Int) < (↑(ws.length):Int))) (fun y11 => ?_) (fun y11 => ?_)
  ·refine swp_skip ?_
   refine swp_seq ?_
   refine swp_block ?_
   refine swp_seq ?_
   refine zR [0,1,5,6,7] [0] (Ak 2 (An (An (o8 E0 hfn hpre y5 x8 hx8 y11) (o9 E0 hfn hpre y5 x8 hx8 y11)) (An (An (o10 E0 hfn hpre y5 x8 hx8 y11) tv) (Ak 1 tv)))) ?_
   refine swp_seq ?_
   refine zC ([(2,CallSpec.eq (c92b ws P x8) [false])]) [0,1,5,6,7,29] [0] (Ak 2 (An (An (An (ci (o11 E0 hfn hpre y5 x8 hx8 y11)) tv) (fun (i12:Value)=>(fun (y13:E0.4 0 i12)=>(o12 E0 hfn hpre y5 x8 hx8 y11 i12 y13)))) (Ak 1 tv))) ?_
   refine zI (!P (ws.getD x8 0)) (fun y14 => ?_) (fun y14 => ?_)
   ·refine swp_seq ?_
    refine zR [0,1,5,6] [0] (Ak 3 (An (An (o13 E0 hfn hpre y5 x8 hx8 y11 y14) (o14 E0 hfn hpre y5 x8 hx8 y11 y14)) (An (An (o15 E0 hfn hpre y5 x8 hx8 y11 y14) tv) tv))) ?_
    refine zR [0,1,5,6] [0] (Ak 1 (An (o16 E0 hfn hpre y5 x8 hx8 y11 y14) (Ak 1 tv))) ?_
    refine zR [0,1,5,6] [0] (Ak 1 (An (o17 E0 hfn hpre y5 x8 hx8 y11 y14) (Ak 1 tv))) ?_
    exact zn (zEn 1 hE [] [(0,.same 0)] [1] [] (An (An (zr (some (Src.same 0))) (An (An (zr (AV.fn 0)) (zr true)) (An (An (ci (o18 E0 hfn hpre y5 x8 hx8 y11 y14)) (zr nilN)) (An (An (ci (o19 E0 hfn hpre y5 x8 hx8 y11 y14)) (zr nilN)) tv)))) (An (An (An (zr 3) (An (zr 1) (An (zr ws.length) (fun (i15:Nat)=>(fun (y16:i15 < ws.length)=>(o20 E0 hfn hpre y5 x8 hx8 y11 y14 i15 y16)))))) tv) (An (zr true) (zr true))))) (o21 E0 hfn hpre y5 x8 hx8 y11 y14) (o22 E0 hfn hpre y5 x8 hx8 y11 y14)
   ·refine swp_skip ?_
    refine zR [0,1,5,6] [0] (Ak 1 (An (o23 E0 hfn hpre y5 x8 hx8 y11 y14) (Ak 1 tv))) ?_
    exact zn (zEn 1 hE [] [(0,.same 0)] [1] [] (An (An (zr (some (Src.same 0))) (An (An (zr (AV.fn 0)) (zr true)) (An (An (ci (o24 E0 hfn hpre y5 x8 hx8 y11 y14)) (zr nilN)) (An (An (ci (o25 E0 hfn hpre y5 x8 hx8 y11 y14)) (zr nilN)) tv)))) (An (An (An (zr 3) (An (zr 1) (An (zr ws.length) (fun (i17:Nat)=>(fun (y18:i17 < ws.length)=>(o26 E0 hfn hpre y5 x8 hx8 y11 y14 i17 y18)))))) tv) (An (zr true) (zr true))))) (o27 E0 hfn hpre y5 x8 hx8 y11 y14) (o28 E0 hfn hpre y5 x8 hx8 y11 y14)
  ·refine swp_exit ?_
   refine swp_seq ?_
   refine zR [0,5] [0] (Ak 2 (An (An (o29 E0 hfn hpre y5 x8 hx8 y11) (o30 E0 hfn hpre y5 x8 hx8 y11)) (An (An (o31 E0 hfn hpre y5 x8 hx8 y11) (o32 E0 hfn hpre y5 x8 hx8 y11)) tv))) ?_
   refine swp_seq ?_
   refine swp_ent (zEn (st2:=ASt.mk [(0,AV.vec 0),(5,iv (↑((keptW ws P x8).length):Int))] [(0,OB.vec 3 1 ws.length fun (q:Nat)=>endA ws P q)] 10145) 1 hE [] [(0,.same 0)] [5] [] (An (An (zr (some (Src.same 0))) (An (An (zr (iv (↑((keptW ws P x8).length):Int))) (zr true)) tv)) (An (An (An (zr 3) (An (zr 1) (An (zr ws.length) (fun (i19:Nat)=>(fun (y20:i19 < ws.length)=>(o33 E0 hfn hpre y5 x8 hx8 y11 i19 y20)))))) tv) (An (zr true) (zr true))))) ?_
   refine swp_ent (zEn (st2:=ASt.mk [(0,AV.sl 1 ws.length fun (q:Nat)=>endA ws P q),(5,iv (↑((keptW ws P x8).length):Int))] [] 10145) 1 hE [0] [] [5] [] (An (An (An (zr 1) (An (zr ws.length) (fun (i21:Nat)=>(fun (y22:i21 < ws.length)=>(zr (endA ws P i21)))))) (An (An (zr (iv (↑((keptW ws P x8).length):Int))) (zr true)) tv)) (Ak 1 (An (zr true) (zr true))))) ?_
   refine zR [4] [] (Ak 2 (An (An (o34 E0 hfn hpre y5 x8 hx8 y11) (o35 E0 hfn hpre y5 x8 hx8 y11)) (Ak 1 tv))) ?_
   refine swp_ret ?_
   exact zO (ASt.mk [(4,aInts (delW ws P))] [] 100) (zEn 1 hE [] [] [] [] (An (An (An (zr 1) (An (o36 E0 hfn hpre y5 x8 hx8 y11) (fun (i23:Nat)=>(fun (y24:i23 < (delW ws P).length)=>(o37 E0 hfn hpre y5 x8 hx8 y11 i23 y24))))) tv) (Ak 1 (An (zr true) (zr true))))) (An (Ak 1 tv) (An (zr (aInts (delW ws P))) tv))
theorem rec_ei {α:Type} {i j:Nat} {a:¬ i=j->α} {b:i=j->α} {c:α} (h1:∀ h,a h=c) (h2:∀ h,b h=c):(Decidable.rec a b (instDecidableEqNat i j):α)=c:=by
 cases instDecidableEqNat i j with
 | isTrue h=>exact h2 h
 | isFalse h=>exact h1 h
theorem rec_lt {α:Type} {i j:Nat} {a:¬ i < j->α} {b:i < j->α} {c:α} (h1:∀ h,a h=c) (h2:∀ h,b h=c):(Decidable.rec a b (Nat.decLt i j):α)=c:=by
 cases Nat.decLt i j with
 | isTrue h=>exact h2 h
 | isFalse h=>exact h1 h
theorem t92 (b:Nat) (ws:List Int) (P:Int->Bool):Triple Try.prog 92 (s92 b ws P):=by
 apply wio92 ws P (l:=[(0,b)]) (hl:=rfl) (hnd:=by simp)
 all_goals (try delta q2j q2k q2l q2m q2n q2o)
 all_goals (first | ((repeat intro _) <;> (try simp only [Bool.cond_true_left,Bool.cond_false_right,Bool.not_not,Bool.not_eq_true',Bool.not_eq_false',Bool.or_eq_true,Bool.or_eq_false_iff,Bool.and_eq_true,decide_eq_true_eq,decide_eq_false_iff_not,inI,big] at *) <;> first | (exact rfl) | omega | (exact ⟨Nat.zero_le _,fun j hj=>absurd hj (Nat.not_lt_zero j)⟩) | (simp_all; done) | (simp_all; omega)) | skip)
 case o0 =>
  intro E0 hfn hp E us le hl hr
  refine fnok_pass 1 (fun j' h => ?_) rfl hfn E us le hl hr
  match j',h with
  | 0,h=>cases h
  | 1,_=>rfl
  | n + 2,h=>simp at h
 case o1=>intro E0 _ hp h; rw [del_none h]
 case o2=>intro E0 _ hp h i _; rw [del_none h]
 all_goals (intro E0 hfn hp h; obtain ⟨f1,f2,f3,f4⟩:=first_spec h)
 case o3=>exact ⟨by omega,by omega⟩
 case o4=>show idxW ws P=((keptW ws P (firstD ws P + 1)).length:Int); rw [(kept_first h).2]; exact f1
 case o5=>show idxW ws P + 1=((firstD ws P + 1:Nat):Int); omega
 case o6=>intro i _; show _ = [iv (rowW ws P (firstD ws P + 1) i)]; rw [rowW_first h]
 case o7=>show firstD ws P + 1<=firstD ws P + 1/\firstD ws P + 1<=ws.length; omega
 all_goals (intro x hx hl; have hk:=kept_lt h x hx.1 hx.2; simp only [decide_eq_true_eq,decide_eq_false_iff_not] at hl)
 case o11=>rw [rowW_self]
 case o12=>intro u hu; exact hfn u hu ⟨_,getD_mem ws 0 (by omega)⟩
 case o14 | o15=>intro _; omega
 case o16=>intro _; exact ⟨by omega,by omega⟩
 case o18=>intro hn; rw [keptW_f (by omega) (by simpa using hn),List.length_append]; rfl
 case o20 =>
  intro hn i hi
  rw [rowW_f (by omega) (by simpa using hn)]
  exact rec_ei (fun h=>by rw [if_neg h]) (fun h=>by rw [if_pos h,rowW_self]; rfl)
 case o24=>intro hn; rw [keptW_t (by omega) (by simpa using hn)]
 case o26=>intro hn i hi; rw [rowW_t (by omega) (by simpa using hn)]
 all_goals (have e:x=ws.length:=by omega)
 case o30 | o31 | o32 | o35=>omega
 case o33 =>
  have hkf:keptW ws P x=delW ws P:=keptW_full (by omega)
  intro i hi
  rw [hkf]
  refine rec_lt (fun h=>(endA_ge h).symm) (fun h => ?_)
  rw [endA_lt h]
  unfold rowW
  rw [hkf,if_pos h]
 case o36=>rw [keptW_full (by omega)]
 case o37=>intro i hi; exact endA_lt hi
abbrev q2p (p:Int) (w:Int) (Pq:Prop):Prop:=0<=p/\p<=62/\0<=w/\w<=1000->Pq
theorem w94 (p:Int) (w:Int)
 (o0:q2p p w (p<=62))
 (o1:q2p p w (0<=w / 2 ^ p.toNat))
 (o2:q2p p w (inI (w / 2 ^ p.toNat)))
 (o3:q2p p w (decide (w / 2 ^ p.toNat % 2=1)=bitP w p)) :
  Triple Try.prog 94 (s94 p w):=by
 refine triple_of Try.func94 rfl Try.call94 T0_ok _ rfl rfl rfl rfl (Nat.le_of_ble_eq_true (by kernel_rfl)) (fun _ _ _ _ h=>h) ?_
 intro hpre C hC _ hE
 obtain ⟨P,w0,E0,av,hA,ro,df⟩:=C
 obtain ⟨rfl,rfl,rfl⟩:=hC
 refine swp_seq ?_
 refine zR [0,1] [] (Ak 1 tv) ?_
 refine swp_seq ?_
 refine zR [3] [] (Ak 2 (An (An hpre.1 (o0 hpre)) (An (An (o1 hpre) (An (zr (1:Int)) (o2 hpre))) (Ak 2 tv)))) ?_
 refine swp_ret ?_
 exact zT [] (An (Ak 1 tv) (An (An (cb (o3 hpre)) (zr nilN)) (An (zr true) (An (zr true) (zr true)))))
theorem t94 (p w:Int):Triple Try.prog 94 (s94 p w):=by
 apply w94
 all_goals (try delta q2p)
 case o1=>intro h; exact Int.ediv_nonneg h.2.2.1 (Int.le_of_lt (Int.pow_pos (by omega)))
 case o2=>intro h; exact inI_div2 h.2.2.1 h.2.2.2
 all_goals (try ((repeat intro _) <;> (try simp only [Bool.cond_true_left,Bool.cond_false_right,Bool.not_not,Bool.not_eq_true',Bool.not_eq_false',Bool.or_eq_true,Bool.or_eq_false_iff,Bool.and_eq_true,decide_eq_true_eq,decide_eq_false_iff_not,inI,big] at *) <;> first | (exact rfl) | omega | (exact ⟨Nat.zero_le _,fun j hj=>absurd hj (Nat.not_lt_zero j)⟩) | (simp_all; done) | (simp_all; omega)))
end Go.Ab
namespace Go.Sh
open Go.Ab
def prodL:List Int->Nat
 | []=>1
 | a :: ws=>(a.toNat + 1) * prodL ws
def setN:List Int->Nat->List Int
 | [],_=>[]
 | _ :: ws,i=>((i / prodL ws:Nat):Int) :: setN ws (i % prodL ws)
def restL (left set:List Int):List Int:=(List.range left.length).map fun q=>left.getD q 0 - set.getD q 0
abbrev Lay:=Option (List (List Int) × Int)
def sumTo (set:List Int) (n:Nat):Int:=(List.range n).foldl (fun a i=>a + set.getD i 0) 0
def sumS (set:List Int):Int:=sumTo set set.length
def layS (b:Lay):List (List Int):=match b with | some x=>x.1 | none=>[]
def layM (b:Lay):Int:=match b with | some x=>x.2 | none=>0
def betterL (m:Int) (b:Lay):Bool:=match b with | none=>true | some x=>decide (m < x.2)
def stepL (f:Frm) (r:Span) (g:List Int->Lay) (left:List Int) (b:Lay) (i:Nat):Lay :=
 if within (pointsP f (setN left i)) r.lo r.hi then
  match g (restL left (setN left i)) with
  | none=>b
  | some x=>if betterL (sumS (setN left i) + x.2) b then some (setN left i :: x.1,sumS (setN left i) + x.2) else b
 else b
def lockP (f:Frm):List Span->List Int->Lay
 | [],_=>some ([],0)
 | r :: rs,left=>(List.range (prodL left)).foldl (stepL f r (lockP f rs) left) none
def bestP (f:Frm) (rooms:List Span) (left:List Int) (n:Nat):Lay:=(List.range n).foldl (stepL f (rooms.getD 0 ⟨0,0⟩) (lockP f (rooms.drop 1)) left) none
theorem lock_best {f:Frm} {rooms:List Span} {left:List Int} (h:rooms.length ≠ 0):lockP f rooms left=bestP f rooms left (prodL left):=by
 cases rooms with
 | nil=>exact absurd rfl h
 | cons r rs=>rfl
theorem best_succ (f:Frm) (rooms:List Span) (left:List Int) (n:Nat):bestP f rooms left (n + 1)=stepL f (rooms.getD 0 ⟨0,0⟩) (lockP f (rooms.drop 1)) left (bestP f rooms left n) n:=by
 unfold bestP; rw [List.range_succ,List.foldl_append]; rfl
theorem prodL_pos:∀ left:List Int,0 < prodL left
 | []=>Nat.one_pos
 | _ :: ws=>Nat.mul_pos (Nat.succ_pos _) (prodL_pos ws)
theorem setN_len:∀ (left:List Int) (i:Nat),(setN left i).length=left.length
 | [],_=>rfl
 | _ :: ws,i=>by rw [setN,List.length_cons,setN_len ws,List.length_cons]
theorem setN_zero:∀ (left:List Int) (q:Nat),(setN left 0).getD q 0=0
 | [],q=>by simp [setN]
 | _ :: ws,q=>by
  rw [setN,Nat.zero_div,Nat.zero_mod]
  cases q with
  | zero=>rfl
  | succ q=>exact setN_zero ws q
theorem setN_in:∀ {left:List Int},(∀ q,q < left.length->0<=left.getD q 0) -> ∀ {i:Nat},i < prodL left -> ∀ q,q < left.length->0<=(setN left i).getD q 0/\(setN left i).getD q 0<=left.getD q 0:=by
 intro left
 induction left with
 | nil=>intro _ i _ q hq; exact absurd hq (Nat.not_lt_zero _)
 | cons a ws ih =>
  intro h i hi q hq
  rw [setN]
  cases q with
  | zero =>
   have h0:0<=a:=h 0 (Nat.succ_pos _)
   have h1:i / prodL ws < a.toNat + 1:=Nat.div_lt_of_lt_mul (by rw [Nat.mul_comm]; exact hi)
   show 0<=((i / prodL ws:Nat):Int)/\((i / prodL ws:Nat):Int)<=a
   generalize i / prodL ws=d at h1 ⊢
   constructor <;> omega
  | succ q=>exact ih (fun q hq=>h (q + 1) (Nat.succ_lt_succ hq)) (Nat.mod_lt _ (prodL_pos ws)) q (Nat.lt_of_succ_lt_succ hq)
theorem setN_full:∀ {left:List Int},(∀ q,q < left.length->0<=left.getD q 0) -> ∀ {i:Nat},i < prodL left->(∀ q,q < left.length->(setN left i).getD q 0=left.getD q 0)->i + 1=prodL left:=by
 intro left
 induction left with
 | nil=>intro _ i hi _; have:i < 1:=hi; show i + 1=1; omega
 | cons a ws ih =>
  intro h i hi hf
  have h0:0<=a:=h 0 (Nat.succ_pos _)
  have h1:((i / prodL ws:Nat):Int)=a:=hf 0 (Nat.succ_pos _)
  have h2:=ih (fun q hq=>h (q + 1) (Nat.succ_lt_succ hq)) (Nat.mod_lt i (prodL_pos ws)) (fun q hq=>hf (q + 1) (Nat.succ_lt_succ hq))
  have h3:=Nat.div_add_mod i (prodL ws)
  have h4:i / prodL ws=a.toNat:=by omega
  show i + 1=(a.toNat + 1) * prodL ws
  rw [Nat.add_mul,Nat.one_mul,← h4,Nat.mul_comm]; omega
theorem setN_next:∀ {left:List Int},(∀ q,q < left.length->0<=left.getD q 0) -> ∀ {i:Nat},i < prodL left -> ∀ {k:Nat},k < left.length->(∀ q,k < q->q < left.length->(setN left i).getD q 0=left.getD q 0) →
  (setN left i).getD k 0 ≠ left.getD k 0->i + 1 < prodL left /\ ∀ q,q < left.length->(setN left (i + 1)).getD q 0=if q=k then (setN left i).getD q 0 + 1 else if q < k then (setN left i).getD q 0 else 0:=by
 intro left
 induction left with
 | nil=>intro _ i _ k hk; exact absurd hk (Nat.not_lt_zero _)
 | cons a ws ih =>
  intro h i hi k hk hf hn
  have h0:0<=a:=h 0 (Nat.succ_pos _)
  have hp:=prodL_pos ws
  have hm:=Nat.mod_lt i hp
  have h3:=Nat.div_add_mod i (prodL ws)
  have hi':i < (a.toNat + 1) * prodL ws:=hi
  have h1:i / prodL ws < a.toNat + 1:=Nat.div_lt_of_lt_mul (by rw [Nat.mul_comm]; exact hi)
  have h':∀ q,q < ws.length->0<=ws.getD q 0:=fun q hq=>h (q + 1) (Nat.succ_lt_succ hq)
  cases k with
  | zero =>
   have h2:=setN_full h' hm (fun q hq=>hf (q + 1) (Nat.succ_pos _) (Nat.succ_lt_succ hq))
   have hn':((i / prodL ws:Nat):Int) ≠ a:=hn
   have e1:i + 1=prodL ws * (i / prodL ws + 1):=by rw [Nat.mul_add,Nat.mul_one]; omega
   have e2:(i + 1) / prodL ws=i / prodL ws + 1:=by rw [e1,Nat.mul_div_cancel_left _ hp]
   have e3:(i + 1) % prodL ws=0:=by rw [e1,Nat.mul_mod_right]
   refine ⟨?_,fun q hq => ?_⟩
   ·show i + 1 < (a.toNat + 1) * prodL ws
    rw [e1,Nat.mul_comm]
    exact Nat.mul_lt_mul_of_pos_right (by omega) hp
   ·rw [setN,setN,e2,e3]
    cases q with
    | zero=>rw [if_pos rfl]; show ((i / prodL ws + 1:Nat):Int)=((i / prodL ws:Nat):Int) + 1; omega
    | succ q=>rw [if_neg (by omega),if_neg (by omega)]; exact setN_zero ws q
  | succ k =>
   obtain ⟨g1,g2⟩:=ih h' hm (Nat.lt_of_succ_lt_succ hk) (fun q hq hl=>hf (q + 1) (Nat.succ_lt_succ hq) (Nat.succ_lt_succ hl)) hn
   have e1:i + 1=(i % prodL ws + 1) + prodL ws * (i / prodL ws):=by omega
   have e2:(i + 1) / prodL ws=i / prodL ws:=by rw [e1,Nat.add_mul_div_left _ _ hp,Nat.div_eq_of_lt g1,Nat.zero_add]
   have e3:(i + 1) % prodL ws=i % prodL ws + 1:=by rw [e1,Nat.add_mul_mod_self_left,Nat.mod_eq_of_lt g1]
   refine ⟨?_,fun q hq => ?_⟩
   ·show i + 1 < (a.toNat + 1) * prodL ws
    refine Nat.lt_of_lt_of_le (m:=prodL ws * (i / prodL ws + 1)) (by rw [Nat.mul_add,Nat.mul_one]; omega) ?_
    rw [Nat.mul_comm]; exact Nat.mul_le_mul_right _ h1
   ·rw [setN,setN,e2,e3]
    cases q with
    | zero=>rw [if_neg (by omega),if_pos (by omega)]; rfl
    | succ q =>
     have:=g2 q (Nat.lt_of_succ_lt_succ hq)
     by_cases c1:q=k
     ·rw [if_pos c1] at this; rw [if_pos (by omega)]; exact this
     ·rw [if_neg c1] at this
      rw [if_neg (by omega)]
      by_cases c2:q < k
      ·rw [if_pos c2] at this; rw [if_pos (by omega)]; exact this
      ·rw [if_neg c2] at this; rw [if_neg (by omega)]; exact this
def rowO (left:List Int) (i:Nat) (k:Int) (q:Nat):Int:=if (q:Int)<=k then (setN left i).getD q 0 else 0
def restQ (left set:List Int) (n:Nat) (q:Nat):Int:=if q < n then left.getD q 0 - set.getD q 0 else left.getD q 0
structure GoodLeft (f:Frm) (left:List Int):Prop where
 len:left.length=f.strips.length
 pos:∀ q,q < left.length->0<=left.getD q 0/\left.getD q 0<=(stp f q).many
theorem restL_len (left set:List Int):(restL left set).length=left.length:=by unfold restL; rw [List.length_map,List.length_range]
theorem restL_get {left set:List Int} {q:Nat} (h:q < left.length):(restL left set).getD q 0=left.getD q 0 - set.getD q 0:=by
 unfold restL
 rw [getD_lt _ _ (by rw [List.length_map,List.length_range]; exact h),List.getElem_map,List.getElem_range]
end Go.Sh
namespace Go.En
open Go Go.Ab Go.Sh
def aSpans3 (l:List Span):AV := .sl 2 l.length (fun i=>cSpan (l.getD i ⟨0,0⟩))
def cLay (b:Lay):List AV:=[aIntss (layS b),iv (layM b)]
abbrev vLay (b:Lay):AV := .opt b.isSome (cLay b)
end Go.En
namespace Go.Ab
open Go Go.RowKit Go.Proofs Go.Sh Go.En
def focB3:CallSpec:={ args:=[],res := .any }
def clo159 (left:List Int):AV := .clo 140 [.rp [aInts left]]
def s128 (f:Frm) (left:List Int):CallSpec:={ args:=[vFrm f,aInts left],res:=clo159 left }
def s97 (f:Frm) (rooms:List Span) (left:List Int):CallSpec:={ args:=[vFrm f,aSpans3 rooms,aInts left],res:=vLay (lockP f rooms left),pre:=Sound f/\GoodLeft f left/\rooms.length<=3 }
abbrev bestB3 (f:Frm) (rooms:List Span) (left:List Int) (i:Nat):OB := .cells 115 [vLay (bestP f rooms left i)]
def h140a (f:Frm) (rooms:List Span) (left:List Int):Hint:={ X:=Nat,M:=fun i=>[(3,.vec 5000)],H:=fun i=>[(56,bestB3 f rooms left i),(5000,rowI 3 (setN left i))],I:=fun i=>i < prodL left,mu:=fun i=>prodL left - i,x0:=(0:Nat),nx:=fun i=>i + 1 }
def h140b (f:Frm) (rooms:List Span) (left:List Int) (i:Nat):Hint:={ X:=Nat,M:=fun n=>[(4,iv ((left.length:Int) - 1 - n))],H:=fun n=>[(5000,.vec 3 1 left.length (fun q=>[iv (rowO left i ((left.length:Int) - 1 - n) q)]))],I:=fun n=>n<=left.length /\ ∀ q,left.length - n<=q->q < left.length->(setN left i).getD q 0=left.getD q 0,mu:=fun n=>left.length - n,x0:=(0:Nat),nx:=fun n=>n + 1 }
def r97 (f:Frm) (rooms:List Span) (left:List Int):RangeH:={ J:=Nat,ok:=fun i=>i < prodL left,Y:=fun i=>{ args:=[.vec 5000],hin:=[(56,bestB3 f rooms left i),(5000,rowI 3 (setN left i))],res:=bv true,hout:=[(56,bestB3 f rooms left (i + 1)),(5000,rowI 3 (setN left i))] },hp:=[(56,bestB3 f rooms left (prodL left))] }
def y97 (f:Frm) (rooms:List Span) (left:List Int) (i:Nat):CallSpec:=(r97 f rooms left).Y i
def c97p (f:Frm) (rooms:List Span) (left:List Int) (i:Nat):CallSpec:=lendS 3 5000 1 none (s129 f (setN left i))
def c97c (f:Frm) (rooms:List Span) (left:List Int) (i:Nat):CallSpec:=s93o left 6120
def c97d (f:Frm) (rooms:List Span) (left:List Int) (i:Nat):CallSpec:=lendS 3 5000 0 none (s93o (setN left i) 16384)
def c97r (f:Frm) (rooms:List Span) (left:List Int) (i:Nat):CallSpec:=s97 f (rooms.drop 1) (restL left (setN left i))
def h97 (f:Frm) (rooms:List Span) (left:List Int) (i:Nat):Hint:={ X:=Nat,M:=fun k=>[(9,.vec 6001),(10,iv (sumTo (setN left i) k)),(40,iv k)],H:=fun k=>[(6001,.vec 3 1 left.length (fun q=>[iv (restQ left (setN left i) k q)]))],I:=fun k=>k<=left.length,mu:=fun k=>left.length - k,x0:=(0:Nat),nx:=fun k=>k + 1 }
end Go.Ab
namespace Go.Sh
open Go.Ab
variable {f:Frm} {left:List Int} {rooms:List Span}
theorem GoodLeft.nonneg (h:GoodLeft f left):∀ q,q < left.length->0<=left.getD q 0:=fun q hq=>(h.pos q hq).1
theorem GoodLeft.small (h:GoodLeft f left) (hs:Sound f) (q:Nat) (hq:q < left.length):left.getD q 0<=4:=by
 have h1:=h.pos q hq
 have h2:=hs.strip q (by rw [← h.len]; exact hq)
 omega
theorem GoodLeft.short (h:GoodLeft f left) (hs:Sound f):left.length<=3:=by rw [h.len]; exact hs.strips
theorem GoodLeft.set (h:GoodLeft f left) {j:Nat} (hj:j < prodL left) (q:Nat) (hq:q < left.length):0<=(setN left j).getD q 0/\(setN left j).getD q 0<=left.getD q 0:=setN_in h.nonneg hj q hq
theorem GoodLeft.isSet (h:GoodLeft f left) {j:Nat} (hj:j < prodL left):isSet f (setN left j)=true:=by
 unfold Go.Sh.isSet
 rw [setN_len,h.len]
 simp only [decide_true,Bool.true_and,List.all_eq_true,List.mem_range]
 intro q hq
 have h1:=h.set hj q (by rw [h.len]; exact hq)
 have h2:=h.pos q (by rw [h.len]; exact hq)
 unfold isSetAt within
 simp only [Bool.and_eq_true,decide_eq_true_eq]
 omega
theorem GoodLeft.rest (h:GoodLeft f left) {j:Nat} (hj:j < prodL left):GoodLeft f (restL left (setN left j)):=by
 refine ⟨by rw [restL_len,h.len],fun q hq => ?_⟩
 rw [restL_len] at hq
 rw [restL_get hq]
 have h1:=h.set hj q hq
 have h2:=h.pos q hq
 omega
theorem sumTo_succ (set:List Int) (n:Nat):sumTo set (n + 1)=sumTo set n + set.getD n 0:=by
 unfold sumTo; rw [List.range_succ,List.foldl_append]; rfl
theorem sumTo_in (h:GoodLeft f left) (hs:Sound f) {j:Nat} (hj:j < prodL left):∀ n,n<=left.length->0<=sumTo (setN left j) n/\sumTo (setN left j) n<=4 * n:=by
 intro n
 induction n with
 | zero=>intro _; exact ⟨Int.le_refl _,Int.le_refl _⟩
 | succ n ih =>
  intro hn
  rw [sumTo_succ]
  have h1:=ih (by omega)
  have h2:=h.set hj n (by omega)
  have h3:=h.small hs n (by omega)
  omega
theorem sumS_in (h:GoodLeft f left) (hs:Sound f) {j:Nat} (hj:j < prodL left):0<=sumS (setN left j)/\sumS (setN left j)<=12:=by
 have h1:=sumTo_in h hs hj left.length (Nat.le_refl _)
 have h2:=h.short hs
 unfold sumS
 rw [setN_len]
 omega
def layOK (b:Lay) (n:Nat):Prop := ∀ x,b=some x->0<=x.2/\x.2<=12 * n/\x.1.length=n
theorem step_ok {r:Span} {g:List Int->Lay} {n:Nat} (h:GoodLeft f left) (hs:Sound f) {b:Lay} {j:Nat} (hj:j < prodL left) (hg:layOK (g (restL left (setN left j))) n) (hb:layOK b (n + 1)):layOK (stepL f r g left b j) (n + 1):=by
 unfold stepL
 split
 ·cases e:g (restL left (setN left j)) with
  | none=>exact hb
  | some x =>
   simp only
   split
   ·intro y hy
    cases hy
    have h1:=hg x e
    have h2:=sumS_in h hs hj
    refine ⟨?_,?_,?_⟩
    ·show 0<=sumS _ + x.2; omega
    ·show sumS _ + x.2<=_; omega
    ·show (_ :: x.1).length=_; rw [List.length_cons,h1.2.2]
   ·exact hb
 ·exact hb
theorem fold_ok {r:Span} {g:List Int->Lay} {m:Nat} (h:GoodLeft f left) (hs:Sound f) (hg:∀ j,j < prodL left->layOK (g (restL left (setN left j))) m):∀ n,n<=prodL left->layOK ((List.range n).foldl (stepL f r g left) none) (m + 1):=by
 intro n
 induction n with
 | zero=>intro _ x hx; cases hx
 | succ n ih =>
  intro hn
  rw [List.range_succ,List.foldl_append]
  exact step_ok h hs (by omega) (hg n (by omega)) (ih (by omega))
theorem lock_ok (hs:Sound f):∀ (rooms:List Span) (left:List Int),GoodLeft f left->layOK (lockP f rooms left) rooms.length:=by
 intro rooms
 induction rooms with
 | nil=>intro left _ x hx; cases hx; exact ⟨Int.le_refl _,Int.le_refl _,rfl⟩
 | cons r rs ih=>intro left h; exact fold_ok h hs (fun j hj=>ih _ (h.rest hj)) _ (Nat.le_refl _)
theorem layM_in {b:Lay} {n:Nat} (h:layOK b n):0<=layM b/\layM b<=12 * n:=by
 cases b with
 | none=>exact ⟨Int.le_refl _,by show (0:Int)<=_; omega⟩
 | some x=>exact ⟨(h x rfl).1,(h x rfl).2.1⟩
theorem layS_len {b:Lay} {n:Nat} (h:layOK b n):(layS b).length<=n:=by
 cases b with
 | none=>exact Nat.zero_le _
 | some x=>exact Nat.le_of_eq (h x rfl).2.2
theorem bif_l {a b:Bool} (h:(bif a then b else false)=true):a=true:=by cases a <;> first | rfl | cases h
theorem best_out {j:Nat} (h:(!within (pointsP f (setN left j)) (rooms.getD 0 ⟨0,0⟩).lo (rooms.getD 0 ⟨0,0⟩).hi)=true):bestP f rooms left (j + 1)=bestP f rooms left j:=by
 rw [best_succ]; unfold stepL; rw [if_neg (by simpa using h)]
def goB (l b:Lay) (m:Int):Bool:=bif !!l.isSome then (bif !b.isSome then true else decide (m + layM l < layM b)) else false
theorem best_new {j:Nat} (h:(!within (pointsP f (setN left j)) (rooms.getD 0 ⟨0,0⟩).lo (rooms.getD 0 ⟨0,0⟩).hi)=false)
  (hc:goB (lockP f (rooms.drop 1) (restL left (setN left j))) (bestP f rooms left j) (sumS (setN left j))=true) :
  bestP f rooms left (j + 1)=some (setN left j :: layS (lockP f (rooms.drop 1) (restL left (setN left j))),sumS (setN left j) + layM (lockP f (rooms.drop 1) (restL left (setN left j)))):=by
 rw [best_succ]; unfold stepL
 rw [if_pos (by simpa using h)]
 generalize lockP f (rooms.drop 1) (restL left (setN left j))=l at hc ⊢
 generalize bestP f rooms left j=b at hc ⊢
 cases l with
 | none=>cases hc
 | some x =>
  simp only
  rw [if_pos]
  ·rfl
  ·cases b with
   | none=>rfl
   | some y=>exact hc
theorem best_old {j:Nat} (h:(!within (pointsP f (setN left j)) (rooms.getD 0 ⟨0,0⟩).lo (rooms.getD 0 ⟨0,0⟩).hi)=false)
  (hc:goB (lockP f (rooms.drop 1) (restL left (setN left j))) (bestP f rooms left j) (sumS (setN left j))=false) :
  bestP f rooms left (j + 1)=bestP f rooms left j:=by
 rw [best_succ]; unfold stepL
 rw [if_pos (by simpa using h)]
 generalize lockP f (rooms.drop 1) (restL left (setN left j))=l at hc ⊢
 generalize bestP f rooms left j=b at hc ⊢
 cases l with
 | none=>rfl
 | some x =>
  simp only
  rw [if_neg]
  cases b with
  | none=>cases hc
  | some y =>
   have hc':decide (sumS (setN left j) + x.2 < y.2)=false:=hc
   show ¬ decide (sumS (setN left j) + x.2 < y.2)=true
   rw [hc']; exact Bool.false_ne_true
theorem rowO_all {i:Nat} {k:Int} {q:Nat} (h:(q:Int)<=k):rowO left i k q=(setN left i).getD q 0:=if_pos h
theorem rowO_no {i:Nat} {k:Int} {q:Nat} (h:¬ (q:Int)<=k):rowO left i k q=0:=if_neg h
theorem full_end (h:GoodLeft f left) {i n:Nat} (hi:i < prodL left) (hn:∀ q,left.length - n<=q->q < left.length->(setN left i).getD q 0=left.getD q 0) (he:left.length<=n):i + 1=prodL left :=
 setN_full h.nonneg hi (fun q hq=>hn q (by omega) hq)
end Go.Sh
namespace Go.Ab
open Go Go.RowKit Go.Proofs Go.Sh Go.En
theorem w128 (f:Frm) (left:List Int)
  (o0:AV.rp [AV.sl 1 left.length fun (i:Nat)=>[iv (left.getD i 0)]]=AV.rp [aInts left]) :
  Triple Try.prog 128 (s128 f left):=by
 refine triple_of Try.func128 rfl Try.call128 T0_ok _ rfl rfl rfl rfl (Nat.le_of_ble_eq_true (by kernel_rfl)) (fun _ _ _ _ h=>h) ?_
 intro _ C hC _ hE
 obtain ⟨P,w0,E0,av,hA,ro,df⟩:=C
 obtain ⟨rfl,rfl,rfl⟩:=hC
 refine swp_seq ?_
 refine zC ([(1,focB3)]) [3] [] (Ak 3 tv) ?_
 refine swp_seq ?_
 refine zR [4] [] (Ak 2 tv) ?_
 refine swp_ret ?_
 exact zT [] (An (Ak 1 tv) (An (An (zr 140) (An (An (o0) (zr nilN)) tv)) (An (zr true) (An (zr true) (zr true)))))
theorem t128 (f:Frm) (left:List Int):Triple Try.prog 128 (s128 f left):=by
 apply w128
 all_goals (try ((repeat intro _) <;> (try simp only [Bool.cond_true_left,Bool.cond_false_right,Bool.not_not,Bool.not_eq_true',Bool.not_eq_false',Bool.or_eq_true,Bool.or_eq_false_iff,Bool.and_eq_true,decide_eq_true_eq,decide_eq_false_iff_not,inI,big,fitsF,smallF,goodL] at *) <;> first | (exact rfl) | omega | (exact ⟨Nat.zero_le _,fun j hj=>absurd hj (Nat.not_lt_zero j)⟩) | (simp_all; done) | (simp_all; omega)))
abbrev q2q (f:Frm) (rooms:List Span) (left:List Int) (Pq:Prop):Prop:=Sound f/\GoodLeft f left/\rooms.length<=3->Pq
abbrev q2r (f:Frm) (rooms:List Span) (left:List Int) (Pq:Prop):Prop:=q2q f rooms left (decide ((↑(rooms.length):Int)=0)=false->Pq)
abbrev q2s (left:List Int) (x3:Nat) (Pq:Prop):Prop:=x3 < prodL left->Pq
abbrev q2t (left:List Int) (x3:Nat) (x6:Nat) (Pq:Prop):Prop:=(x6<=left.length /\ ∀ (q:Nat),left.length - x6<=q->q < left.length->(setN left x3).getD q 0=left.getD q 0)->Pq
abbrev q2u (left:List Int) (x3:Nat) (x6:Nat) (Pq:Prop):Prop:=q2t left x3 x6 (decide (0<=(↑(left.length):Int) - 1 - (x6:Int))=true->Pq)
abbrev q2v (left:List Int) (x3:Nat) (x6:Nat) (Pq:Prop):Prop:=q2t left x3 x6 ((bif decide (0<=(↑(left.length):Int) - 1 - (x6:Int)) then decide (rowO left x3 ((↑(left.length):Int) - 1 - (x6:Int)) ((↑(left.length):Int) - 1 - (x6:Int)).toNat=left.getD ((↑(left.length):Int) - 1 - (x6:Int)).toNat 0) else false)=true->Pq)
abbrev q2w (left:List Int) (x3:Nat) (x6:Nat) (Pq:Prop):Prop:=q2t left x3 x6 ((bif decide (0<=(↑(left.length):Int) - 1 - (x6:Int)) then decide (rowO left x3 ((↑(left.length):Int) - 1 - (x6:Int)) ((↑(left.length):Int) - 1 - (x6:Int)).toNat=left.getD ((↑(left.length):Int) - 1 - (x6:Int)).toNat 0) else false)=false->Pq)
abbrev q2x (left:List Int) (x3:Nat) (x6:Nat) (Pq:Prop):Prop:=q2w left x3 x6 (decide ((↑(left.length):Int) - 1 - (x6:Int) < 0)=true->Pq)
abbrev q2y (left:List Int) (x3:Nat) (x6:Nat) (Pq:Prop):Prop:=q2w left x3 x6 (decide ((↑(left.length):Int) - 1 - (x6:Int) < 0)=false->Pq)
abbrev q2z (left:List Int) (j2:Nat) (Pq:Prop):Prop:=j2 < prodL left->True->Pq
abbrev q30 (f:Frm) (rooms:List Span) (left:List Int) (j2:Nat) (Pq:Prop):Prop:=q2z left j2 ((!within (pointsP f (setN left j2)) (rooms.getD 0 (Span.mk 0 0)).lo (rooms.getD 0 (Span.mk 0 0)).hi)=true->Pq)
abbrev q31 (f:Frm) (rooms:List Span) (left:List Int) (j2:Nat) (Pq:Prop):Prop:=q2z left j2 ((!within (pointsP f (setN left j2)) (rooms.getD 0 (Span.mk 0 0)).lo (rooms.getD 0 (Span.mk 0 0)).hi)=false->Pq)
abbrev q32 (left:List Int) (x44:Nat) (Pq:Prop):Prop:=x44<=left.length->Pq
abbrev q33 (left:List Int) (j2:Nat) (x44:Nat) (Pq:Prop):Prop:=q32 left x44 (decide ((x44:Int) < (↑((setN left j2).length):Int))=true->Pq)
abbrev q34 (left:List Int) (j2:Nat) (x44:Nat) (Pq:Prop):Prop:=q32 left x44 (decide ((x44:Int) < (↑((setN left j2).length):Int))=false->Pq)
abbrev q35 (f:Frm) (rooms:List Span) (left:List Int) (j2:Nat) (x44:Nat) (Pq:Prop):Prop:=q34 left j2 x44 ((!!Option.isSome (lockP f (List.drop 1 rooms) (restL left (setN left j2))) && !!Option.isSome (bestP f rooms left j2))=true->Pq)
abbrev q36 (f:Frm) (rooms:List Span) (left:List Int) (j2:Nat) (x44:Nat) (Pq:Prop):Prop:=q34 left j2 x44 ((bif !!Option.isSome (lockP f (List.drop 1 rooms) (restL left (setN left j2))) then bif !Option.isSome (bestP f rooms left j2) then true else decide (sumTo (setN left j2) x44 + layM (lockP f (List.drop 1 rooms) (restL left (setN left j2))) < layM (bestP f rooms left j2)) else false)=true->Pq)
abbrev q37 (f:Frm) (rooms:List Span) (left:List Int) (j2:Nat) (x44:Nat) (Pq:Prop):Prop:=q34 left j2 x44 ((bif !!Option.isSome (lockP f (List.drop 1 rooms) (restL left (setN left j2))) then bif !Option.isSome (bestP f rooms left j2) then true else decide (sumTo (setN left j2) x44 + layM (lockP f (List.drop 1 rooms) (restL left (setN left j2))) < layM (bestP f rooms left j2)) else false)=false->Pq)
theorem w97 (f:Frm) (rooms:List Span) (left:List Int)
 (o0:q2q f rooms left (decide ((↑(rooms.length):Int)=0)=true->Option.isSome (lockP f rooms left)=true))
 (o1:q2q f rooms left (decide ((↑(rooms.length):Int)=0)=true->(layS (lockP f rooms left)).length=0))
 (o2:q2q f rooms left (decide ((↑(rooms.length):Int)=0)=true->0=layM (lockP f rooms left)))
 (o3:q2r f rooms left (0<=(↑(left.length):Int)))
 (o4:q2r f rooms left ((↑(left.length):Int)<=65536))
 (o5:q2r f rooms left (Option.isSome (bestP f rooms left 0)=false))
 (o6:q2r f rooms left (left.length=(setN left 0).length))
 (o7:q2r f rooms left (∀ (i4:Nat),i4 < left.length -> [iv 0] = [iv ((setN left 0).getD i4 0)]))
 (o8:q2r f rooms left (0 < prodL left))
 (o9:q2r f rooms left (∀ (x3:Nat),q2s left x3 (inI ((↑((setN left x3).length):Int) - 1))))
 (o10:q2r f rooms left (∀ (x3:Nat),q2s left x3 ((↑((setN left x3).length):Int) - 1=(↑(left.length):Int) - 1 - (↑0:Int))))
 (o11:q2r f rooms left (∀ (x3:Nat),q2s left x3 ((setN left x3).length=left.length)))
 (o12:q2r f rooms left (∀ (x3:Nat),q2s left x3 (∀ (i7:Nat),i7 < (setN left x3).length -> [iv ((setN left x3).getD i7 0)] = [iv (rowO left x3 ((↑(left.length):Int) - 1 - (↑0:Int)) i7)])))
 (o13:q2r f rooms left (∀ (x3:Nat),q2s left x3 (0<=left.length /\ ∀ (q:Nat),left.length - 0<=q->q < left.length->(setN left x3).getD q 0=left.getD q 0)))
 (o14:q2r f rooms left (∀ (x3:Nat),q2s left x3 (∀ (x6:Nat),q2u left x3 x6 (0<=(↑(left.length):Int) - 1 - (x6:Int)))))
 (o15:q2r f rooms left (∀ (x3:Nat),q2s left x3 (∀ (x6:Nat),q2u left x3 x6 ((↑(left.length):Int) - 1 - (x6:Int) < (↑(left.length):Int)))))
 (o16:q2r f rooms left (∀ (x3:Nat),q2s left x3 (∀ (x6:Nat),q2u left x3 x6 (((↑(left.length):Int) - 1 - (x6:Int)).toNat < left.length))))
 (o17:q2r f rooms left (∀ (x3:Nat),q2s left x3 (∀ (x6:Nat),q2u left x3 x6 (0<=(↑(left.length):Int) - 1 - (x6:Int)))))
 (o18:q2r f rooms left (∀ (x3:Nat),q2s left x3 (∀ (x6:Nat),q2u left x3 x6 ((↑(left.length):Int) - 1 - (x6:Int) < (↑(left.length):Int)))))
 (o19:q2r f rooms left (∀ (x3:Nat),q2s left x3 (∀ (x6:Nat),q2v left x3 x6 (0<=(↑(left.length):Int) - 1 - (x6:Int)))))
 (o20:q2r f rooms left (∀ (x3:Nat),q2s left x3 (∀ (x6:Nat),q2v left x3 x6 ((↑(left.length):Int) - 1 - (x6:Int) < (↑(left.length):Int)))))
 (o21:q2r f rooms left (∀ (x3:Nat),q2s left x3 (∀ (x6:Nat),q2v left x3 x6 (((↑(left.length):Int) - 1 - (x6:Int)).toNat < left.length))))
 (o22:q2r f rooms left (∀ (x3:Nat),q2s left x3 (∀ (x6:Nat),q2v left x3 x6 (inI ((↑(left.length):Int) - 1 - (x6:Int) - 1)))))
 (o23:q2r f rooms left (∀ (x3:Nat),q2s left x3 (∀ (x6:Nat),q2v left x3 x6 ((↑(left.length):Int) - 1 - (x6:Int) - 1=(↑(left.length):Int) - 1 - (↑(x6 + 1):Int)))))
 (o24:q2r f rooms left (∀ (x3:Nat),q2s left x3 (∀ (x6:Nat),q2v left x3 x6 (∀ (i29:Nat),i29 < left.length->Decidable.rec (fun (h:¬i29=((↑(left.length):Int) - 1 - (x6:Int)).toNat)=>[iv (rowO left x3 ((↑(left.length):Int) - 1 - (x6:Int)) i29)]) (fun (h:i29=((↑(left.length):Int) - 1 - (x6:Int)).toNat)=>[iv 0] ++ []) (instDecidableEqNat i29 ((↑(left.length):Int) - 1 - (x6:Int)).toNat) = [iv (rowO left x3 ((↑(left.length):Int) - 1 - (↑(x6 + 1):Int)) i29)]))))
 (o25:q2r f rooms left (∀ (x3:Nat),q2s left x3 (∀ (x6:Nat),q2v left x3 x6 (x6 + 1<=left.length /\ ∀ (q:Nat),left.length - (x6 + 1)<=q->q < left.length->(setN left x3).getD q 0=left.getD q 0))))
 (o26:q2r f rooms left (∀ (x3:Nat),q2s left x3 (∀ (x6:Nat),q2v left x3 x6 (left.length - (x6 + 1) < left.length - x6))))
 (o27:q2r f rooms left (∀ (x3:Nat),q2s left x3 (∀ (x6:Nat),q2x left x3 x6 (Option.isSome (bestP f rooms left (x3 + 1))=Option.isSome (bestP f rooms left (prodL left))))))
 (o28:q2r f rooms left (∀ (x3:Nat),q2s left x3 (∀ (x6:Nat),q2x left x3 x6 (Option.isSome (bestP f rooms left (prodL left))=true->(layS (bestP f rooms left (x3 + 1))).length=(layS (bestP f rooms left (prodL left))).length))))
 (o29:q2r f rooms left (∀ (x3:Nat),q2s left x3 (∀ (x6:Nat),q2x left x3 x6 (Option.isSome (bestP f rooms left (prodL left))=true -> ∀ (i33:Nat),i33 < (layS (bestP f rooms left (prodL left))).length -> [aInts ((layS (bestP f rooms left (x3 + 1))).getD i33 [])] = [aInts ((layS (bestP f rooms left (prodL left))).getD i33 [])]))))
 (o30:q2r f rooms left (∀ (x3:Nat),q2s left x3 (∀ (x6:Nat),q2x left x3 x6 (Option.isSome (bestP f rooms left (prodL left))=true->layM (bestP f rooms left (x3 + 1))=layM (bestP f rooms left (prodL left))))))
 (o31:q2r f rooms left (∀ (x3:Nat),q2s left x3 (∀ (x6:Nat),q2y left x3 x6 (0<=(↑(left.length):Int) - 1 - (x6:Int)))))
 (o32:q2r f rooms left (∀ (x3:Nat),q2s left x3 (∀ (x6:Nat),q2y left x3 x6 ((↑(left.length):Int) - 1 - (x6:Int) < (↑(left.length):Int)))))
 (o33:q2r f rooms left (∀ (x3:Nat),q2s left x3 (∀ (x6:Nat),q2y left x3 x6 (((↑(left.length):Int) - 1 - (x6:Int)).toNat < left.length))))
 (o34:q2r f rooms left (∀ (x3:Nat),q2s left x3 (∀ (x6:Nat),q2y left x3 x6 (inI (rowO left x3 ((↑(left.length):Int) - 1 - (x6:Int)) ((↑(left.length):Int) - 1 - (x6:Int)).toNat + 1)))))
 (o35:q2r f rooms left (∀ (x3:Nat),q2s left x3 (∀ (x6:Nat),q2y left x3 x6 (0<=(↑(left.length):Int) - 1 - (x6:Int)))))
 (o36:q2r f rooms left (∀ (x3:Nat),q2s left x3 (∀ (x6:Nat),q2y left x3 x6 ((↑(left.length):Int) - 1 - (x6:Int) < (↑(left.length):Int)))))
 (o37:q2r f rooms left (∀ (x3:Nat),q2s left x3 (∀ (x6:Nat),q2y left x3 x6 (((↑(left.length):Int) - 1 - (x6:Int)).toNat < left.length))))
 (o38:q2r f rooms left (∀ (x3:Nat),q2s left x3 (∀ (x6:Nat),q2y left x3 x6 (left.length=(setN left (x3 + 1)).length))))
 (o39:q2r f rooms left (∀ (x3:Nat),q2s left x3 (∀ (x6:Nat),q2y left x3 x6 (∀ (i35:Nat),i35 < left.length->Decidable.rec (fun (h:¬i35=((↑(left.length):Int) - 1 - (x6:Int)).toNat)=>[iv (rowO left x3 ((↑(left.length):Int) - 1 - (x6:Int)) i35)]) (fun (h:i35=((↑(left.length):Int) - 1 - (x6:Int)).toNat)=>[iv (rowO left x3 ((↑(left.length):Int) - 1 - (x6:Int)) ((↑(left.length):Int) - 1 - (x6:Int)).toNat + 1)] ++ []) (instDecidableEqNat i35 ((↑(left.length):Int) - 1 - (x6:Int)).toNat) = [iv ((setN left (x3 + 1)).getD i35 0)]))))
 (o40:q2r f rooms left (∀ (x3:Nat),q2s left x3 (∀ (x6:Nat),q2y left x3 x6 (x3 + 1 < prodL left))))
 (o41:q2r f rooms left (∀ (x3:Nat),q2s left x3 (∀ (x6:Nat),q2y left x3 x6 (prodL left - (x3 + 1) < prodL left - x3))))
 (o42:q2r f rooms left (∀ (j2:Nat),q2z left j2 (isSet f (setN left j2)=true)))
 (o43:q2r f rooms left (∀ (j2:Nat),q2z left j2 (0 < (↑(rooms.length):Int))))
 (o44:q2r f rooms left (∀ (j2:Nat),q2z left j2 (0 < (↑(rooms.length):Int))))
 (o45:q2r f rooms left (∀ (j2:Nat),q30 f rooms left j2 (Option.isSome (bestP f rooms left j2)=Option.isSome (bestP f rooms left (j2 + 1)))))
 (o46:q2r f rooms left (∀ (j2:Nat),q30 f rooms left j2 (Option.isSome (bestP f rooms left (j2 + 1))=true->(layS (bestP f rooms left j2)).length=(layS (bestP f rooms left (j2 + 1))).length)))
 (o47:q2r f rooms left (∀ (j2:Nat),q30 f rooms left j2 (Option.isSome (bestP f rooms left (j2 + 1))=true -> ∀ (i41:Nat),i41 < (layS (bestP f rooms left (j2 + 1))).length -> [aInts ((layS (bestP f rooms left j2)).getD i41 [])] = [aInts ((layS (bestP f rooms left (j2 + 1))).getD i41 [])])))
 (o48:q2r f rooms left (∀ (j2:Nat),q30 f rooms left j2 (Option.isSome (bestP f rooms left (j2 + 1))=true->layM (bestP f rooms left j2)=layM (bestP f rooms left (j2 + 1)))))
 (o49:q2r f rooms left (∀ (j2:Nat),q31 f rooms left j2 (left.length<=60000)))
 (o50:q2r f rooms left (∀ (j2:Nat),q31 f rooms left j2 (0=sumTo (setN left j2) 0)))
 (o51:q2r f rooms left (∀ (j2:Nat),q31 f rooms left j2 (0=(↑0:Int))))
 (o52:q2r f rooms left (∀ (j2:Nat),q31 f rooms left j2 (∀ (i45:Nat),i45 < left.length -> [iv (left.getD i45 0)] = [iv (restQ left (setN left j2) 0 i45)])))
 (o53:q2r f rooms left (∀ (j2:Nat),q31 f rooms left j2 (0<=left.length)))
 (o54:q2r f rooms left (∀ (j2:Nat),q31 f rooms left j2 (∀ (x44:Nat),q33 left j2 x44 (0<=(x44:Int)))))
 (o55:q2r f rooms left (∀ (j2:Nat),q31 f rooms left j2 (∀ (x44:Nat),q33 left j2 x44 ((x44:Int) < (↑((setN left j2).length):Int)))))
 (o56:q2r f rooms left (∀ (j2:Nat),q31 f rooms left j2 (∀ (x44:Nat),q33 left j2 x44 (x44 < (setN left j2).length))))
 (o57:q2r f rooms left (∀ (j2:Nat),q31 f rooms left j2 (∀ (x44:Nat),q33 left j2 x44 (0<=(x44:Int)))))
 (o58:q2r f rooms left (∀ (j2:Nat),q31 f rooms left j2 (∀ (x44:Nat),q33 left j2 x44 ((x44:Int) < (↑(left.length):Int)))))
 (o59:q2r f rooms left (∀ (j2:Nat),q31 f rooms left j2 (∀ (x44:Nat),q33 left j2 x44 (x44 < left.length))))
 (o60:q2r f rooms left (∀ (j2:Nat),q31 f rooms left j2 (∀ (x44:Nat),q33 left j2 x44 (inI (restQ left (setN left j2) x44 x44 - (setN left j2).getD x44 0)))))
 (o61:q2r f rooms left (∀ (j2:Nat),q31 f rooms left j2 (∀ (x44:Nat),q33 left j2 x44 (0<=(x44:Int)))))
 (o62:q2r f rooms left (∀ (j2:Nat),q31 f rooms left j2 (∀ (x44:Nat),q33 left j2 x44 ((x44:Int) < (↑(left.length):Int)))))
 (o63:q2r f rooms left (∀ (j2:Nat),q31 f rooms left j2 (∀ (x44:Nat),q33 left j2 x44 (x44 < left.length))))
 (o64:q2r f rooms left (∀ (j2:Nat),q31 f rooms left j2 (∀ (x44:Nat),q33 left j2 x44 (inI (sumTo (setN left j2) x44 + (setN left j2).getD x44 0)))))
 (o65:q2r f rooms left (∀ (j2:Nat),q31 f rooms left j2 (∀ (x44:Nat),q33 left j2 x44 (inI ((x44:Int) + 1)))))
 (o66:q2r f rooms left (∀ (j2:Nat),q31 f rooms left j2 (∀ (x44:Nat),q33 left j2 x44 (sumTo (setN left j2) x44 + (setN left j2).getD x44 0=sumTo (setN left j2) (x44 + 1)))))
 (o67:q2r f rooms left (∀ (j2:Nat),q31 f rooms left j2 (∀ (x44:Nat),q33 left j2 x44 ((x44:Int) + 1=(↑(x44 + 1):Int)))))
 (o68:q2r f rooms left (∀ (j2:Nat),q31 f rooms left j2 (∀ (x44:Nat),q33 left j2 x44 (∀ (i48:Nat),i48 < left.length->Decidable.rec (fun (h:¬i48=x44)=>[iv (restQ left (setN left j2) x44 i48)]) (fun (h:i48=x44)=>[iv (restQ left (setN left j2) x44 x44 - (setN left j2).getD x44 0)] ++ []) (instDecidableEqNat i48 x44) = [iv (restQ left (setN left j2) (x44 + 1) i48)]))))
 (o69:q2r f rooms left (∀ (j2:Nat),q31 f rooms left j2 (∀ (x44:Nat),q33 left j2 x44 (x44 + 1<=left.length))))
 (o70:q2r f rooms left (∀ (j2:Nat),q31 f rooms left j2 (∀ (x44:Nat),q33 left j2 x44 (left.length - (x44 + 1) < left.length - x44))))
 (o71:q2r f rooms left (∀ (j2:Nat),q31 f rooms left j2 (∀ (x44:Nat),q34 left j2 x44 (1<=(↑(rooms.length):Int)))))
 (o72:q2r f rooms left (∀ (j2:Nat),q31 f rooms left j2 (∀ (x44:Nat),q34 left j2 x44 (rooms.length - 1=(List.drop 1 rooms).length))))
 (o73:q2r f rooms left (∀ (j2:Nat),q31 f rooms left j2 (∀ (x44:Nat),q34 left j2 x44 (∀ (i50:Nat),i50 < (List.drop 1 rooms).length->cSpan (rooms.getD (1 + i50) (Span.mk 0 0))=cSpan ((List.drop 1 rooms).getD i50 (Span.mk 0 0))))))
 (o74:q2r f rooms left (∀ (j2:Nat),q31 f rooms left j2 (∀ (x44:Nat),q34 left j2 x44 (left.length=(restL left (setN left j2)).length))))
 (o75:q2r f rooms left (∀ (j2:Nat),q31 f rooms left j2 (∀ (x44:Nat),q34 left j2 x44 (∀ (i52:Nat),i52 < (restL left (setN left j2)).length -> [iv (restQ left (setN left j2) x44 i52)] = [iv ((restL left (setN left j2)).getD i52 0)]))))
 (o76:q2r f rooms left (∀ (j2:Nat),q31 f rooms left j2 (∀ (x44:Nat),q34 left j2 x44 (Triple Try.prog 97 (c97r f rooms left j2)))))
 (o77:q2r f rooms left (∀ (j2:Nat),q31 f rooms left j2 (∀ (x44:Nat),q34 left j2 x44 (GoodLeft f (restL left (setN left j2))))))
 (o78:q2r f rooms left (∀ (j2:Nat),q31 f rooms left j2 (∀ (x44:Nat),q34 left j2 x44 ((List.drop 1 rooms).length<=3))))
 (o79:q2r f rooms left (∀ (j2:Nat),q31 f rooms left j2 (∀ (x44:Nat),q35 f rooms left j2 x44 (Option.isSome (lockP f (List.drop 1 rooms) (restL left (setN left j2)))=true))))
 (o80:q2r f rooms left (∀ (j2:Nat),q31 f rooms left j2 (∀ (x44:Nat),q35 f rooms left j2 x44 (Option.isSome (lockP f (List.drop 1 rooms) (restL left (setN left j2)))=true))))
 (o81:q2r f rooms left (∀ (j2:Nat),q31 f rooms left j2 (∀ (x44:Nat),q35 f rooms left j2 x44 (inI (sumTo (setN left j2) x44 + layM (lockP f (List.drop 1 rooms) (restL left (setN left j2))))))))
 (o82:q2r f rooms left (∀ (j2:Nat),q31 f rooms left j2 (∀ (x44:Nat),q35 f rooms left j2 x44 (Option.isSome (bestP f rooms left j2)=true))))
 (o83:q2r f rooms left (∀ (j2:Nat),q31 f rooms left j2 (∀ (x44:Nat),q35 f rooms left j2 x44 (Option.isSome (bestP f rooms left j2)=true))))
 (o84:q2r f rooms left (∀ (j2:Nat),q31 f rooms left j2 (∀ (x44:Nat),q34 left j2 x44 ((!!Option.isSome (lockP f (List.drop 1 rooms) (restL left (setN left j2))))=true->(!Option.isSome (bestP f rooms left j2))=false->(!!Option.isSome (lockP f (List.drop 1 rooms) (restL left (setN left j2))) && !!Option.isSome (bestP f rooms left j2))=true))))
 (o85:q2r f rooms left (∀ (j2:Nat),q31 f rooms left j2 (∀ (x44:Nat),q36 f rooms left j2 x44 ((setN left j2).length<=60000))))
 (o86:q2r f rooms left (∀ (j2:Nat),q31 f rooms left j2 (∀ (x44:Nat),q36 f rooms left j2 x44 (Option.isSome (lockP f (List.drop 1 rooms) (restL left (setN left j2)))=true))))
 (o87:q2r f rooms left (∀ (j2:Nat),q31 f rooms left j2 (∀ (x44:Nat),q36 f rooms left j2 x44 (Option.isSome (lockP f (List.drop 1 rooms) (restL left (setN left j2)))=true))))
 (o88:q2r f rooms left (∀ (j2:Nat),q31 f rooms left j2 (∀ (x44:Nat),q36 f rooms left j2 x44 (1 + (layS (lockP f (List.drop 1 rooms) (restL left (setN left j2)))).length<=65536))))
 (o89:q2r f rooms left (∀ (j2:Nat),q31 f rooms left j2 (∀ (x44:Nat),q36 f rooms left j2 x44 (Option.isSome (lockP f (List.drop 1 rooms) (restL left (setN left j2)))=true))))
 (o90:q2r f rooms left (∀ (j2:Nat),q31 f rooms left j2 (∀ (x44:Nat),q36 f rooms left j2 x44 (Option.isSome (lockP f (List.drop 1 rooms) (restL left (setN left j2)))=true))))
 (o91:q2r f rooms left (∀ (j2:Nat),q31 f rooms left j2 (∀ (x44:Nat),q36 f rooms left j2 x44 (inI (sumTo (setN left j2) x44 + layM (lockP f (List.drop 1 rooms) (restL left (setN left j2))))))))
 (o92:q2r f rooms left (∀ (j2:Nat),q31 f rooms left j2 (∀ (x44:Nat),q36 f rooms left j2 x44 (Option.isSome (bestP f rooms left (j2 + 1))=true))))
 (o93:q2r f rooms left (∀ (j2:Nat),q31 f rooms left j2 (∀ (x44:Nat),q36 f rooms left j2 x44 (1 + (layS (lockP f (List.drop 1 rooms) (restL left (setN left j2)))).length=(layS (bestP f rooms left (j2 + 1))).length))))
 (o94:q2r f rooms left (∀ (j2:Nat),q31 f rooms left j2 (∀ (x44:Nat),q36 f rooms left j2 x44 (∀ (i89:Nat),i89 < (layS (bestP f rooms left (j2 + 1))).length->catF 1 (fun (j:Nat)=>List.getD [[AV.sl 1 (setN left j2).length fun (i:Nat)=>[iv ((setN left j2).getD i 0)]]] j (TI.za ti26)) (fun (i:Nat)=>[aInts ((layS (lockP f (List.drop 1 rooms) (restL left (setN left j2)))).getD i [])]) i89 = [aInts ((layS (bestP f rooms left (j2 + 1))).getD i89 [])]))))
 (o95:q2r f rooms left (∀ (j2:Nat),q31 f rooms left j2 (∀ (x44:Nat),q36 f rooms left j2 x44 (sumTo (setN left j2) x44 + layM (lockP f (List.drop 1 rooms) (restL left (setN left j2)))=layM (bestP f rooms left (j2 + 1))))))
 (o96:q2r f rooms left (∀ (j2:Nat),q31 f rooms left j2 (∀ (x44:Nat),q37 f rooms left j2 x44 (Option.isSome (bestP f rooms left j2)=Option.isSome (bestP f rooms left (j2 + 1))))))
 (o97:q2r f rooms left (∀ (j2:Nat),q31 f rooms left j2 (∀ (x44:Nat),q37 f rooms left j2 x44 (Option.isSome (bestP f rooms left (j2 + 1))=true->(layS (bestP f rooms left j2)).length=(layS (bestP f rooms left (j2 + 1))).length))))
 (o98:q2r f rooms left (∀ (j2:Nat),q31 f rooms left j2 (∀ (x44:Nat),q37 f rooms left j2 x44 (Option.isSome (bestP f rooms left (j2 + 1))=true -> ∀ (i92:Nat),i92 < (layS (bestP f rooms left (j2 + 1))).length -> [aInts ((layS (bestP f rooms left j2)).getD i92 [])] = [aInts ((layS (bestP f rooms left (j2 + 1))).getD i92 [])]))))
 (o99:q2r f rooms left (∀ (j2:Nat),q31 f rooms left j2 (∀ (x44:Nat),q37 f rooms left j2 x44 (Option.isSome (bestP f rooms left (j2 + 1))=true->layM (bestP f rooms left j2)=layM (bestP f rooms left (j2 + 1))))))
 (o100:q2r f rooms left (Option.isSome (bestP f rooms left (prodL left))=Option.isSome (lockP f rooms left)))
 (o101:q2r f rooms left (Option.isSome (lockP f rooms left)=true->(layS (bestP f rooms left (prodL left))).length=(layS (lockP f rooms left)).length))
 (o102:q2r f rooms left (Option.isSome (lockP f rooms left)=true -> ∀ (i95:Nat),i95 < (layS (lockP f rooms left)).length -> [aInts ((layS (bestP f rooms left (prodL left))).getD i95 [])] = [aInts ((layS (lockP f rooms left)).getD i95 [])]))
 (o103:q2r f rooms left (Option.isSome (lockP f rooms left)=true->layM (bestP f rooms left (prodL left))=layM (lockP f rooms left))) :
  Triple Try.prog 97 (s97 f rooms left):=by
 refine triple_of Try.func97 rfl Try.call97 T0_ok _ rfl rfl rfl rfl (Nat.le_of_ble_eq_true (by kernel_rfl)) (fun _ _ _ _ h=>h) ?_
 intro hpre C hC _ hE
 obtain ⟨P,w0,E0,av,hA,ro,df⟩:=C
 obtain ⟨rfl,rfl,rfl⟩:=hC
 refine swp_seq ?_
 refine zR [3,4,5] [0,8,16] (Ak 4 tv) ?_
 refine swp_seq ?_
 refine swp_seq ?_
 refine zR [3,4,5,16] [0,8,16] (Ak 3 tv) ?_
 refine zI (decide ((↑(rooms.length):Int)=0)) (fun y0 => ?_) (fun y0 => ?_)
 ·refine swp_seq ?_
  refine zC ([(1,focB3)]) [6] [] (Ak 3 tv) ?_
  refine swp_ret ?_
  exact zT [] (An (Ak 1 tv) (An (An (o0 hpre y0) (An (o1 hpre y0) (An (ci (o2 hpre y0)) tv))) (An (zr true) (An (zr true) (zr true)))))
 ·refine swp_skip ?_
  refine swp_seq ?_
  refine zR [3,4,5,7] [0,8,16,56] (Ak 1 tv) ?_
  refine swp_seq ?_
  refine swp_seq ?_
  refine swp_ent (zF 0) ?_
  refine swp_ent (zF 8) ?_
  refine swp_ent (zF 16) ?_
  refine zC ([(2,CallSpec.eq (s128 f left) [true,true])]) [3,4,5,7,21] [56] (Ak 2 (An (An (An (zr (AV.agg (cFrm f))) (An (zr (aInts left)) tv)) (An (t128 (f) (left)) (Ak 2 (fun (i1:Env)=>tv)))) tv)) ?_
  refine swp_block ?_
  refine zG (r97 f rooms left) 88 2000088 0 [3,4,5,7] ([AV.rp [aInts left]]) Try.func140 Try.call140 rfl (fun C hC hY2 hE => ?_) (fun (j2:Nat) hj2 hp2 C hC hE => ?_) ?_
  ·obtain ⟨P,w0,E0,av,hA,ro,df⟩:=C
   subst hC
   refine swp_seq ?_
   refine zR [0,1,3] [56,104] (Ak 2 (An (An (zr ((↑(left.length):Int))) (An (o3 hpre y0) (o4 hpre y0))) (Ak 1 tv))) ?_
   refine swp_block ?_
   refine zL (Hint.ann (h140a f rooms left) [(0,AV.fn 0),(1,AV.rp [aInts left])] [] 10120) (zEn 88 hE [] [(56,.same 56),(5000,.same 104)] [0,1] [] (An (An (An (zr (AV.fn 0)) (zr true)) (An (An (zr (AV.rp [aInts left])) (zr true)) (An (zr (some (Src.same 104))) tv))) (An (An (An (zr 115) (An (An (o5 hpre y0) tv) (zr true))) (An (An (zr 3) (An (zr 1) (An (o6 hpre y0) (fun (i4:Nat)=>(fun (y5:i4 < left.length)=>(o7 hpre y0 i4 y5)))))) tv)) (An (zr true) (zr true))))) (o8 hpre y0) (fun (x3:Nat) hx3 => ?_)
   refine swp_block ?_
   refine swp_seq ?_
   refine swp_seq ?_
   refine zC ([(2,CallSpec.eq (y97 f rooms left x3) [true])]) [0,1,3,11] [56,5000] (Ak 2 (An (An (An (zr (AV.vec 5000)) tv) (An (hY2 x3 hx3) (Ak 1 (An (zr (some (OB.cells 115 [AV.opt (Option.isSome (bestP f rooms left x3)) (cLay (bestP f rooms left x3))]))) (An (zr (some (OB.vec 3 1 (setN left x3).length fun (i:Nat)=>[iv ((setN left x3).getD i 0)]))) tv))))) (Ak 1 tv))) ?_
   refine zf ?_
   refine swp_skip ?_
   refine swp_seq ?_
   refine zR [0,1,3,4] [56,5000] (Ak 2 (An (o9 hpre y0 x3 hx3) (Ak 1 tv))) ?_
   refine swp_seq ?_
   refine swp_block ?_
   refine zL (Hint.ann (h140b f rooms left x3) [(0,AV.fn 0),(1,AV.rp [aInts left]),(3,AV.vec 5000)] [(56,OB.cells 115 [AV.opt (Option.isSome (bestP f rooms left (x3 + 1))) (cLay (bestP f rooms left (x3 + 1)))])] 20184) (zEn 88 hE [] [(56,.same 56),(5000,.same 5000)] [0,1] [56] (An (An (An (zr (AV.fn 0)) (zr true)) (An (An (zr (AV.rp [aInts left])) (zr true)) (An (zr (some (Src.same 5000))) (An (An (ci (o10 hpre y0 x3 hx3)) (zr nilN)) tv)))) (An (An (An (zr (OB.cells 115 [AV.opt (Option.isSome (bestP f rooms left (x3 + 1))) (cLay (bestP f rooms left (x3 + 1)))])) (zr true)) (An (An (zr 3) (An (zr 1) (An (o11 hpre y0 x3 hx3) (fun (i7:Nat)=>(fun (y8:i7 < (setN left x3).length)=>(o12 hpre y0 x3 hx3 i7 y8)))))) tv)) (An (zr true) (zr true))))) (o13 hpre y0 x3 hx3) (fun (x6:Nat) hx6 => ?_)
   refine swp_seq ?_
   refine swp_seq ?_
   refine zR [0,1,3,4,27] [56,5000] (Ak 3 (An (fun (y9:decide (0<=(↑(left.length):Int) - 1 - (x6:Int))=true)=>(An (Ak 1 tv) tv)) (An (fun (y10:decide (0<=(↑(left.length):Int) - 1 - (x6:Int))=true)=>(An (Ak 1 tv) tv)) (An (fun (y11:decide (0<=(↑(left.length):Int) - 1 - (x6:Int))=true)=>(An (An (fun (y12:decide (0<=(↑(left.length):Int) - 1 - (x6:Int))=true)=>y11) (An (fun (y13:decide (0<=(↑(left.length):Int) - 1 - (x6:Int))=true)=>y11) tv)) (An (o14 hpre y0 x3 hx3 x6 hx6 y11) (o15 hpre y0 x3 hx3 x6 hx6 y11)))) (An (fun (y14:decide (0<=(↑(left.length):Int) - 1 - (x6:Int))=true)=>(An (An (fun (y15:decide (0<=(↑(left.length):Int) - 1 - (x6:Int))=true)=>y14) tv) (An (o16 hpre y0 x3 hx3 x6 hx6 y14) tv))) (An (fun (y16:decide (0<=(↑(left.length):Int) - 1 - (x6:Int))=true)=>(An (Ak 1 tv) tv)) (An (fun (y17:decide (0<=(↑(left.length):Int) - 1 - (x6:Int))=true)=>(An (Ak 1 tv) tv)) (An (fun (y18:decide (0<=(↑(left.length):Int) - 1 - (x6:Int))=true)=>(An (An (fun (y19:decide (0<=(↑(left.length):Int) - 1 - (x6:Int))=true)=>y18) (An (fun (y20:decide (0<=(↑(left.length):Int) - 1 - (x6:Int))=true)=>y18) tv)) (An (o17 hpre y0 x3 hx3 x6 hx6 y18) (o18 hpre y0 x3 hx3 x6 hx6 y18)))) (An (fun (y21:decide (0<=(↑(left.length):Int) - 1 - (x6:Int))=true)=>(An (An (fun (y22:decide (0<=(↑(left.length):Int) - 1 - (x6:Int))=true)=>y21) tv) tv)) (An (fun (y23:decide (0<=(↑(left.length):Int) - 1 - (x6:Int))=true)=>(An (An (fun (y24:decide (0<=(↑(left.length):Int) - 1 - (x6:Int))=true)=>y23) (An (fun (y25:decide (0<=(↑(left.length):Int) - 1 - (x6:Int))=true)=>y23) tv)) tv)) (An (An (fun (y26:decide (0<=(↑(left.length):Int) - 1 - (x6:Int))=true)=>y26) (fun (y27:decide (0<=(↑(left.length):Int) - 1 - (x6:Int))=false)=>tv)) tv))))))))))) ?_
   refine zI (bif decide (0<=(↑(left.length):Int) - 1 - (x6:Int)) then decide (rowO left x3 ((↑(left.length):Int) - 1 - (x6:Int)) ((↑(left.length):Int) - 1 - (x6:Int)).toNat=left.getD ((↑(left.length):Int) - 1 - (x6:Int)).toNat 0) else false) (fun y28 => ?_) (fun y28 => ?_)
   ·refine swp_skip ?_
    refine swp_seq ?_
    refine swp_block ?_
    refine zR [0,1,3,4] [56,5000] (Ak 2 (An (An (o19 hpre y0 x3 hx3 x6 hx6 y28) (o20 hpre y0 x3 hx3 x6 hx6 y28)) (An (An (o21 hpre y0 x3 hx3 x6 hx6 y28) tv) tv))) ?_
    refine zR [0,1,3,4] [56,5000] (Ak 1 (An (o22 hpre y0 x3 hx3 x6 hx6 y28) (Ak 1 tv))) ?_
    exact zn (zEn 88 hE [] [(56,.same 56),(5000,.same 5000)] [0,1] [56] (An (An (An (zr (AV.fn 0)) (zr true)) (An (An (zr (AV.rp [aInts left])) (zr true)) (An (zr (some (Src.same 5000))) (An (An (ci (o23 hpre y0 x3 hx3 x6 hx6 y28)) (zr nilN)) tv)))) (An (An (An (zr (OB.cells 115 [AV.opt (Option.isSome (bestP f rooms left (x3 + 1))) (cLay (bestP f rooms left (x3 + 1)))])) (zr true)) (An (An (zr 3) (An (zr 1) (An (zr left.length) (fun (i29:Nat)=>(fun (y30:i29 < left.length)=>(o24 hpre y0 x3 hx3 x6 hx6 y28 i29 y30)))))) tv)) (An (zr true) (zr true))))) (o25 hpre y0 x3 hx3 x6 hx6 y28) (o26 hpre y0 x3 hx3 x6 hx6 y28)
   ·refine swp_exit ?_
    refine swp_seq ?_
    refine swp_seq ?_
    refine zR [0,1,3,4,34] [56,5000] (Ak 2 tv) ?_
    refine zI (decide ((↑(left.length):Int) - 1 - (x6:Int) < 0)) (fun y31 => ?_) (fun y31 => ?_)
    ·refine swp_ret ?_
     exact zM (zEn 88 hE [] [(56,.same 56)] [] [] (Ak 1 (An (An (An (zr 115) (An (An (An (o27 hpre y0 x3 hx3 x6 hx6 y28 y31) (fun (y32:Option.isSome (bestP f rooms left (prodL left))=true)=>(An (An (zr 1) (An (o28 hpre y0 x3 hx3 x6 hx6 y28 y31 y32) (fun (i33:Nat)=>(fun (y34:i33 < (layS (bestP f rooms left (prodL left))).length)=>(o29 hpre y0 x3 hx3 x6 hx6 y28 y31 y32 i33 y34))))) (An (ci (o30 hpre y0 x3 hx3 x6 hx6 y28 y31 y32)) tv)))) tv) (zr true))) tv) (An (zr true) (zr true)))))
    ·refine swp_skip ?_
     refine zR [0,1,3] [56,5000] (Ak 2 (An (An (o31 hpre y0 x3 hx3 x6 hx6 y28 y31) (o32 hpre y0 x3 hx3 x6 hx6 y28 y31)) (An (An (o33 hpre y0 x3 hx3 x6 hx6 y28 y31) tv) (An (o34 hpre y0 x3 hx3 x6 hx6 y28 y31) (An (An (o35 hpre y0 x3 hx3 x6 hx6 y28 y31) (o36 hpre y0 x3 hx3 x6 hx6 y28 y31)) (An (An (o37 hpre y0 x3 hx3 x6 hx6 y28 y31) tv) tv)))))) ?_
     exact zn (zEn 88 hE [] [(56,.same 56),(5000,.same 5000)] [0,1] [56] (An (An (An (zr (AV.fn 0)) (zr true)) (An (An (zr (AV.rp [aInts left])) (zr true)) (An (zr (some (Src.same 5000))) tv))) (An (An (An (zr (OB.cells 115 [AV.opt (Option.isSome (bestP f rooms left (x3 + 1))) (cLay (bestP f rooms left (x3 + 1)))])) (zr true)) (An (An (zr 3) (An (zr 1) (An (o38 hpre y0 x3 hx3 x6 hx6 y28 y31) (fun (i35:Nat)=>(fun (y36:i35 < left.length)=>(o39 hpre y0 x3 hx3 x6 hx6 y28 y31 i35 y36)))))) tv)) (An (zr true) (zr true))))) (o40 hpre y0 x3 hx3 x6 hx6 y28 y31) (o41 hpre y0 x3 hx3 x6 hx6 y28 y31)
  ·obtain ⟨P,w0,E0,av,hA,ro,df⟩:=C
   subst hC
   refine zR [3,4,5,7,8] [56,5000] (Ak 1 tv) ?_
   intro C hC hE
   obtain ⟨P,w0,E0,av,hA,ro,df⟩:=C
   subst hC
   refine swp_block ?_
   refine swp_seq ?_
   refine swp_seq ?_
   refine zC ([(2,CallSpec.eq (c97p f rooms left j2) [true,true]),(11,CallSpec.eq (s124 (pointsP f (setN left j2)) (rooms.getD 0 (Span.mk 0 0)).lo (rooms.getD 0 (Span.mk 0 0)).hi) [true,true,true])]) [3,4,5,7,8,35] [56,5000] (Ak 2 (An (An (An (zr (AV.agg (cFrm f))) (An (zr (AV.vec 5000)) tv)) (An (lendT 3 5000 1 (none) (t129 (f) (setN left j2))) (An (An hpre.1 (o42 hpre y0 j2 hj2 hp2)) (An (An (zr (some (OB.vec 3 1 (setN left j2).length fun (i:Nat)=>[iv ((setN left j2).getD i 0)]))) tv) (fun (i37:Env)=>tv))))) (Ak 1 (An (An (by decide:Int.ofNat 0<=Int.ofNat 0) (o43 hpre y0 j2 hj2 hp2)) (Ak 3 (An (An (by decide:Int.ofNat 0<=Int.ofNat 0) (o44 hpre y0 j2 hj2 hp2)) (Ak 2 (An (An (An (zr (iv (pointsP f (setN left j2)))) (An (zr (iv (rooms.getD 0 (Span.mk 0 0)).lo)) (An (zr (iv (rooms.getD 0 (Span.mk 0 0)).hi)) tv))) (An (t124 (pointsP f (setN left j2)) (rooms.getD 0 (Span.mk 0 0)).lo (rooms.getD 0 (Span.mk 0 0)).hi) (Ak 2 (fun (i38:Env)=>tv)))) (Ak 1 tv))))))))) ?_
   refine zI (!within (pointsP f (setN left j2)) (rooms.getD 0 (Span.mk 0 0)).lo (rooms.getD 0 (Span.mk 0 0)).hi) (fun y39 => ?_) (fun y39 => ?_)
   ·refine swp_exit ?_
    exact zN 1006000 (zEn 6000 hE [] [(56,.same 56),(5000,.same 5000)] [] [5000] (Ak 1 (An (An (An (zr 115) (An (An (An (o45 hpre y0 j2 hj2 hp2 y39) (fun (y40:Option.isSome (bestP f rooms left (j2 + 1))=true)=>(An (An (zr 1) (An (o46 hpre y0 j2 hj2 hp2 y39 y40) (fun (i41:Nat)=>(fun (y42:i41 < (layS (bestP f rooms left (j2 + 1))).length)=>(o47 hpre y0 j2 hj2 hp2 y39 y40 i41 y42))))) (An (ci (o48 hpre y0 j2 hj2 hp2 y39 y40)) tv)))) tv) (zr true))) (An (An (zr (OB.vec 3 1 (setN left j2).length fun (i:Nat)=>[iv ((setN left j2).getD i 0)])) (zr true)) tv)) (An (zr true) (zr true)))))
   ·refine swp_skip ?_
    refine swp_seq ?_
    refine zC ([(1,CallSpec.eq (c97c f rooms left j2) [true])]) [3,4,7,8,9,10] [56,5000,6120] (Ak 1 (An (An (An (zr (aInts left)) tv) (An (t93o (left) (6120)) (An (o49 hpre y0 j2 hj2 hp2 y39) (Ak 1 (fun (i43:Env)=>tv))))) (Ak 2 tv))) ?_
    refine swp_seq ?_
    refine swp_seq ?_
    refine zR [3,4,7,8,9,10,38,39,40] [56,5000,6120] (Ak 3 tv) ?_
    refine swp_block ?_
    refine zL (Hint.ann (h97 f rooms left j2) [(3,AV.rp (cFrm f)),(4,AV.rp [aSpans3 rooms]),(7,AV.ptr 56 []),(8,AV.vec 5000),(38,AV.vec 5000),(39,iv (↑((setN left j2).length):Int))] [(56,OB.cells 115 [AV.opt (Option.isSome (bestP f rooms left j2)) (cLay (bestP f rooms left j2))]),(5000,OB.vec 3 1 (setN left j2).length fun (i:Nat)=>[iv ((setN left j2).getD i 0)])] 16168) (zEn 6000 hE [] [(56,.same 56),(5000,.same 5000),(6001,.same 6120)] [3,4,39] [56,5000] (An (An (An (zr (AV.rp (cFrm f))) (zr true)) (An (An (zr (AV.rp [aSpans3 rooms])) (zr true)) (An (An (zr (some (Src.same 56))) (zr nilP)) (An (zr (some (Src.same 5000))) (An (zr (some (Src.same 5000))) (An (An (zr (iv (↑((setN left j2).length):Int))) (zr true)) (An (zr (some (Src.same 6120))) (An (An (ci (o50 hpre y0 j2 hj2 hp2 y39)) (zr nilN)) (An (An (ci (o51 hpre y0 j2 hj2 hp2 y39)) (zr nilN)) tv))))))))) (An (An (An (zr (OB.cells 115 [AV.opt (Option.isSome (bestP f rooms left j2)) (cLay (bestP f rooms left j2))])) (zr true)) (An (An (zr (OB.vec 3 1 (setN left j2).length fun (i:Nat)=>[iv ((setN left j2).getD i 0)])) (zr true)) (An (An (zr 3) (An (zr 1) (An (zr left.length) (fun (i45:Nat)=>(fun (y46:i45 < left.length)=>(o52 hpre y0 j2 hj2 hp2 y39 i45 y46)))))) tv))) (An (zr true) (zr true))))) (o53 hpre y0 j2 hj2 hp2 y39) (fun (x44:Nat) hx44 => ?_)
    refine swp_seq ?_
    refine zR [3,4,7,8,38,39,9,10,40,41] [56,5000,6001] (Ak 1 tv) ?_
    refine swp_seq ?_
    refine zI (decide ((x44:Int) < (↑((setN left j2).length):Int))) (fun y47 => ?_) (fun y47 => ?_)
    ·refine swp_skip ?_
     refine swp_seq ?_
     refine swp_block ?_
     refine swp_seq ?_
     refine zR [3,4,7,8,38,39,9,10,40,11,12] [56,5000,6001] (Ak 1 (An (An (o54 hpre y0 j2 hj2 hp2 y39 x44 hx44 y47) (o55 hpre y0 j2 hj2 hp2 y39 x44 hx44 y47)) (An (An (o56 hpre y0 j2 hj2 hp2 y39 x44 hx44 y47) tv) (Ak 2 tv)))) ?_
     refine swp_seq ?_
     refine zR [3,4,7,8,38,39,9,10,40,12] [56,5000,6001] (Ak 2 (An (An (o57 hpre y0 j2 hj2 hp2 y39 x44 hx44 y47) (o58 hpre y0 j2 hj2 hp2 y39 x44 hx44 y47)) (An (An (o59 hpre y0 j2 hj2 hp2 y39 x44 hx44 y47) tv) (Ak 1 (An (o60 hpre y0 j2 hj2 hp2 y39 x44 hx44 y47) (An (An (o61 hpre y0 j2 hj2 hp2 y39 x44 hx44 y47) (o62 hpre y0 j2 hj2 hp2 y39 x44 hx44 y47)) (An (An (o63 hpre y0 j2 hj2 hp2 y39 x44 hx44 y47) tv) tv))))))) ?_
     refine zR [3,4,7,8,38,39,9,10,40] [56,5000,6001] (Ak 2 (An (o64 hpre y0 j2 hj2 hp2 y39 x44 hx44 y47) (Ak 1 tv))) ?_
     refine zR [3,4,7,8,38,39,9,10,40] [56,5000,6001] (An (o65 hpre y0 j2 hj2 hp2 y39 x44 hx44 y47) (Ak 1 tv)) ?_
     exact zn (zEn 6000 hE [] [(56,.same 56),(5000,.same 5000),(6001,.same 6001)] [3,4,39] [56,5000] (An (An (An (zr (AV.rp (cFrm f))) (zr true)) (An (An (zr (AV.rp [aSpans3 rooms])) (zr true)) (An (An (zr (some (Src.same 56))) (zr nilP)) (An (zr (some (Src.same 5000))) (An (zr (some (Src.same 5000))) (An (An (zr (iv (↑((setN left j2).length):Int))) (zr true)) (An (zr (some (Src.same 6001))) (An (An (ci (o66 hpre y0 j2 hj2 hp2 y39 x44 hx44 y47)) (zr nilN)) (An (An (ci (o67 hpre y0 j2 hj2 hp2 y39 x44 hx44 y47)) (zr nilN)) tv))))))))) (An (An (An (zr (OB.cells 115 [AV.opt (Option.isSome (bestP f rooms left j2)) (cLay (bestP f rooms left j2))])) (zr true)) (An (An (zr (OB.vec 3 1 (setN left j2).length fun (i:Nat)=>[iv ((setN left j2).getD i 0)])) (zr true)) (An (An (zr 3) (An (zr 1) (An (zr left.length) (fun (i48:Nat)=>(fun (y49:i48 < left.length)=>(o68 hpre y0 j2 hj2 hp2 y39 x44 hx44 y47 i48 y49)))))) tv))) (An (zr true) (zr true))))) (o69 hpre y0 j2 hj2 hp2 y39 x44 hx44 y47) (o70 hpre y0 j2 hj2 hp2 y39 x44 hx44 y47)
    ·refine swp_exit ?_
     refine swp_seq ?_
     refine zC ([(4,CallSpec.eq (c97r f rooms left j2) [true,false,false])]) [7,8,10,13] [56,5000] (Ak 2 (An (An (by decide:Int.ofNat 0<=Int.ofNat 1) (o71 hpre y0 j2 hj2 hp2 y39 x44 hx44 y47)) (Ak 1 (An (An (An (zr (AV.agg (cFrm f))) (An (An (zr 2) (An (o72 hpre y0 j2 hj2 hp2 y39 x44 hx44 y47) (fun (i50:Nat)=>(fun (y51:i50 < (List.drop 1 rooms).length)=>(o73 hpre y0 j2 hj2 hp2 y39 x44 hx44 y47 i50 y51))))) (An (An (zr 1) (An (o74 hpre y0 j2 hj2 hp2 y39 x44 hx44 y47) (fun (i52:Nat)=>(fun (y53:i52 < (restL left (setN left j2)).length)=>(o75 hpre y0 j2 hj2 hp2 y39 x44 hx44 y47 i52 y53))))) tv))) (An (o76 hpre y0 j2 hj2 hp2 y39 x44 hx44 y47) (An (An hpre.1 (An (o77 hpre y0 j2 hj2 hp2 y39 x44 hx44 y47) (o78 hpre y0 j2 hj2 hp2 y39 x44 hx44 y47))) (Ak 1 (fun (i54:Env)=>tv))))) (Ak 1 tv))))) ?_
     refine swp_seq ?_
     refine zR [7,8,10,13,79] [56,5000] (Ak 3 (An (fun (y55:(!!Option.isSome (lockP f (List.drop 1 rooms) (restL left (setN left j2))))=true)=>(An (Ak 1 tv) tv)) (An (fun (y56:(!!Option.isSome (lockP f (List.drop 1 rooms) (restL left (setN left j2))))=true)=>(An (An (fun (y57:(!!Option.isSome (lockP f (List.drop 1 rooms) (restL left (setN left j2))))=true)=>y56) (Ak 1 tv)) tv)) (An (fun (y58:(!!Option.isSome (lockP f (List.drop 1 rooms) (restL left (setN left j2))))=true)=>(An (An (fun (y59:(!!Option.isSome (lockP f (List.drop 1 rooms) (restL left (setN left j2))))=true)=>y58) tv) tv)) (An (fun (y60:(!!Option.isSome (lockP f (List.drop 1 rooms) (restL left (setN left j2))) && !!Option.isSome (bestP f rooms left j2))=true)=>(An (Ak 1 tv) tv)) (An (fun (y61:(!!Option.isSome (lockP f (List.drop 1 rooms) (restL left (setN left j2))) && !!Option.isSome (bestP f rooms left j2))=true)=>(An (Ak 1 tv) tv)) (An (fun (y62:(!!Option.isSome (lockP f (List.drop 1 rooms) (restL left (setN left j2))) && !!Option.isSome (bestP f rooms left j2))=true)=>(An (An (fun (y63:(!!Option.isSome (lockP f (List.drop 1 rooms) (restL left (setN left j2))) && !!Option.isSome (bestP f rooms left j2))=true)=>y62) tv) (o79 hpre y0 j2 hj2 hp2 y39 x44 hx44 y47 y62))) (An (fun (y64:(!!Option.isSome (lockP f (List.drop 1 rooms) (restL left (setN left j2))) && !!Option.isSome (bestP f rooms left j2))=true)=>(An (An (fun (y65:(!!Option.isSome (lockP f (List.drop 1 rooms) (restL left (setN left j2))) && !!Option.isSome (bestP f rooms left j2))=true)=>y64) tv) (o80 hpre y0 j2 hj2 hp2 y39 x44 hx44 y47 y64))) (An (fun (y66:(!!Option.isSome (lockP f (List.drop 1 rooms) (restL left (setN left j2))) && !!Option.isSome (bestP f rooms left j2))=true)=>(An (An (fun (y67:(!!Option.isSome (lockP f (List.drop 1 rooms) (restL left (setN left j2))) && !!Option.isSome (bestP f rooms left j2))=true)=>y66) tv) tv)) (An (fun (y68:(!!Option.isSome (lockP f (List.drop 1 rooms) (restL left (setN left j2))) && !!Option.isSome (bestP f rooms left j2))=true)=>(An (An (fun (y69:(!!Option.isSome (lockP f (List.drop 1 rooms) (restL left (setN left j2))) && !!Option.isSome (bestP f rooms left j2))=true)=>y68) (An (fun (y70:(!!Option.isSome (lockP f (List.drop 1 rooms) (restL left (setN left j2))) && !!Option.isSome (bestP f rooms left j2))=true)=>y68) tv)) (o81 hpre y0 j2 hj2 hp2 y39 x44 hx44 y47 y68))) (An (fun (y71:(!!Option.isSome (lockP f (List.drop 1 rooms) (restL left (setN left j2))) && !!Option.isSome (bestP f rooms left j2))=true)=>(An (Ak 1 tv) tv)) (An (fun (y72:(!!Option.isSome (lockP f (List.drop 1 rooms) (restL left (setN left j2))) && !!Option.isSome (bestP f rooms left j2))=true)=>(An (An (fun (y73:(!!Option.isSome (lockP f (List.drop 1 rooms) (restL left (setN left j2))) && !!Option.isSome (bestP f rooms left j2))=true)=>y72) tv) (o82 hpre y0 j2 hj2 hp2 y39 x44 hx44 y47 y72))) (An (fun (y74:(!!Option.isSome (lockP f (List.drop 1 rooms) (restL left (setN left j2))) && !!Option.isSome (bestP f rooms left j2))=true)=>(An (An (fun (y75:(!!Option.isSome (lockP f (List.drop 1 rooms) (restL left (setN left j2))) && !!Option.isSome (bestP f rooms left j2))=true)=>y74) tv) (o83 hpre y0 j2 hj2 hp2 y39 x44 hx44 y47 y74))) (An (fun (y76:(!!Option.isSome (lockP f (List.drop 1 rooms) (restL left (setN left j2))) && !!Option.isSome (bestP f rooms left j2))=true)=>(An (An (fun (y77:(!!Option.isSome (lockP f (List.drop 1 rooms) (restL left (setN left j2))) && !!Option.isSome (bestP f rooms left j2))=true)=>y76) tv) tv)) (An (fun (y78:(!!Option.isSome (lockP f (List.drop 1 rooms) (restL left (setN left j2))) && !!Option.isSome (bestP f rooms left j2))=true)=>(An (An (fun (y79:(!!Option.isSome (lockP f (List.drop 1 rooms) (restL left (setN left j2))) && !!Option.isSome (bestP f rooms left j2))=true)=>y78) (An (fun (y80:(!!Option.isSome (lockP f (List.drop 1 rooms) (restL left (setN left j2))) && !!Option.isSome (bestP f rooms left j2))=true)=>y78) tv)) tv)) (An (fun (y81:(!!Option.isSome (lockP f (List.drop 1 rooms) (restL left (setN left j2))))=true)=>(An (An (fun (y82:(!!Option.isSome (lockP f (List.drop 1 rooms) (restL left (setN left j2))))=true)=>y81) tv) (An (fun (y83:(!Option.isSome (bestP f rooms left j2))=true)=>tv) (fun (y84:(!Option.isSome (bestP f rooms left j2))=false)=>(o84 hpre y0 j2 hj2 hp2 y39 x44 hx44 y47 y81 y84))))) (An (An (fun (y85:(!!Option.isSome (lockP f (List.drop 1 rooms) (restL left (setN left j2))))=true)=>y85) (fun (y86:(!!Option.isSome (lockP f (List.drop 1 rooms) (restL left (setN left j2))))=false)=>tv)) tv))))))))))))))))) ?_
     refine zI (bif !!Option.isSome (lockP f (List.drop 1 rooms) (restL left (setN left j2))) then bif !Option.isSome (bestP f rooms left j2) then true else decide (sumTo (setN left j2) x44 + layM (lockP f (List.drop 1 rooms) (restL left (setN left j2))) < layM (bestP f rooms left j2)) else false) (fun y87 => ?_) (fun y87 => ?_)
     ·refine zC ([(1,CallSpec.eq (c97d f rooms left j2) [true]),(15,focB3)]) [] [56,5000] (Ak 1 (An (An (An (zr (AV.vec 5000)) tv) (An (lendT 3 5000 0 (none) (t93o (setN left j2) (16384))) (An (o85 hpre y0 j2 hj2 hp2 y39 x44 hx44 y47 y87) (An (An (zr (some (OB.vec 3 1 (setN left j2).length fun (i:Nat)=>[iv ((setN left j2).getD i 0)]))) tv) (fun (i88:Env)=>tv))))) (Ak 2 (An (o86 hpre y0 j2 hj2 hp2 y39 x44 hx44 y47 y87) (An (o87 hpre y0 j2 hj2 hp2 y39 x44 hx44 y47 y87) (Ak 1 (An (o88 hpre y0 j2 hj2 hp2 y39 x44 hx44 y47 y87) (Ak 2 (An (o89 hpre y0 j2 hj2 hp2 y39 x44 hx44 y47 y87) (An (o90 hpre y0 j2 hj2 hp2 y39 x44 hx44 y47 y87) (Ak 1 (An (o91 hpre y0 j2 hj2 hp2 y39 x44 hx44 y47 y87) (Ak 3 tv))))))))))))) ?_
      exact zN 1006000 (zEn 6000 hE [] [(56,.same 56),(5000,.same 5000)] [] [5000] (Ak 1 (An (An (An (zr 115) (An (An (An (o92 hpre y0 j2 hj2 hp2 y39 x44 hx44 y47 y87) (An (An (zr 1) (An (o93 hpre y0 j2 hj2 hp2 y39 x44 hx44 y47 y87) (fun (i89:Nat)=>(fun (y90:i89 < (layS (bestP f rooms left (j2 + 1))).length)=>(o94 hpre y0 j2 hj2 hp2 y39 x44 hx44 y47 y87 i89 y90))))) (An (ci (o95 hpre y0 j2 hj2 hp2 y39 x44 hx44 y47 y87)) tv))) tv) (zr true))) (An (An (zr (OB.vec 3 1 (setN left j2).length fun (i:Nat)=>[iv ((setN left j2).getD i 0)])) (zr true)) tv)) (An (zr true) (zr true)))))
     ·refine swp_skip ?_
      exact zN 1006000 (zEn 6000 hE [] [(56,.same 56),(5000,.same 5000)] [] [5000] (Ak 1 (An (An (An (zr 115) (An (An (An (o96 hpre y0 j2 hj2 hp2 y39 x44 hx44 y47 y87) (fun (y91:Option.isSome (bestP f rooms left (j2 + 1))=true)=>(An (An (zr 1) (An (o97 hpre y0 j2 hj2 hp2 y39 x44 hx44 y47 y87 y91) (fun (i92:Nat)=>(fun (y93:i92 < (layS (bestP f rooms left (j2 + 1))).length)=>(o98 hpre y0 j2 hj2 hp2 y39 x44 hx44 y47 y87 y91 i92 y93))))) (An (ci (o99 hpre y0 j2 hj2 hp2 y39 x44 hx44 y47 y87 y91)) tv)))) tv) (zr true))) (An (An (zr (OB.vec 3 1 (setN left j2).length fun (i:Nat)=>[iv ((setN left j2).getD i 0)])) (zr true)) tv)) (An (zr true) (zr true)))))
  ·refine swp_seq ?_
   refine zR [6] [] (Ak 2 tv) ?_
   refine swp_ret ?_
   exact zT [] (An (Ak 1 tv) (An (An (o100 hpre y0) (fun (y94:Option.isSome (lockP f rooms left)=true)=>(An (An (zr 1) (An (o101 hpre y0 y94) (fun (i95:Nat)=>(fun (y96:i95 < (layS (lockP f rooms left)).length)=>(o102 hpre y0 y94 i95 y96))))) (An (ci (o103 hpre y0 y94)) tv)))) (An (zr true) (An (zr true) (zr true)))))
theorem t97' (f:Frm):∀ (n:Nat) (rooms:List Span) (left:List Int),rooms.length=n->Triple Try.prog 97 (s97 f rooms left):=by
 intro n
 induction n using Nat.strongRecOn with
 | _ n ih =>
  intro rooms left hn
  apply w97
  all_goals (try delta q2q q2r q2s q2t q2u q2v q2w q2x q2y q2z q30 q31 q32 q33 q34 q35 q36 q37)
  all_goals (first | ((repeat intro _) <;> (try simp only [Bool.cond_true_left,Bool.cond_false_right,Bool.not_not,Bool.not_eq_true',Bool.not_eq_false',Bool.or_eq_true,Bool.or_eq_false_iff,Bool.and_eq_true,decide_eq_true_eq,decide_eq_false_iff_not,inI,big,fitsF,smallF,goodL] at *) <;> first | (exact rfl) | omega | (exact ⟨Nat.zero_le _,fun j hj=>absurd hj (Nat.not_lt_zero j)⟩) | (simp_all; done) | (simp_all; omega)) | skip)
  all_goals (intro hp hr; obtain ⟨hs,hg,hrl⟩:=hp)
  case o0 | o1 | o2 =>
   have e:rooms = []:=List.eq_nil_of_length_eq_zero (by simpa using hr)
   subst e; rfl
  all_goals (have hr0:rooms.length ≠ 0:=by simpa using hr)
  all_goals (have hsh:=hg.short hs)
  case o100=>rw [lock_best hr0]
  case o101 | o103=>intro _; rw [lock_best hr0]
  case o102=>intro _ i _; rw [lock_best hr0]
  case o4=>omega
  case o6=>rw [setN_len]
  case o7=>intro i _; rw [setN_zero]
  case o8=>exact prodL_pos _
  case o9=>intro x hx; rw [setN_len]; exact ⟨by omega,by omega⟩
  case o10=>intro x hx; rw [setN_len]; omega
  case o11=>exact fun x hx=>setN_len _ _
  case o12=>intro x hx i hi; rw [setN_len] at hi; rw [rowO_all (by omega)]
  case o42=>exact fun j hj _=>hg.isSet hj
  case o45=>intro j hj _ hw; rw [best_out hw]
  case o46 | o48=>intro j hj _ hw _; rw [best_out hw]
  case o47=>intro j hj _ hw _ i _; rw [best_out hw]
  case o49=>intro j hj _ hw; omega
  case o22 =>
   intro x hx n hn hc; obtain ⟨hn1,hn2⟩:=hn
   have hk:=of_decide_eq_true (bif_l hc)
   exact ⟨by omega,by omega⟩
  case o24 =>
   intro x hx n hn hc; obtain ⟨hn1,hn2⟩:=hn
   have hk:=of_decide_eq_true (bif_l hc)
   intro q hq
   refine rec_ei (fun h => ?_) (fun h => ?_)
   ·by_cases c:(q:Int)<=(left.length:Int) - 1 - n
    ·rw [rowO_all c,rowO_all (by omega)]
    ·rw [rowO_no c,rowO_no (by omega)]
   ·rw [rowO_no (by omega)]; rfl
  case o25 =>
   intro x hx n hn hc; obtain ⟨hn1,hn2⟩:=hn
   have hk:=of_decide_eq_true (bif_l hc)
   rw [decide_eq_true hk] at hc
   have hc':=of_decide_eq_true hc
   rw [rowO_all (by omega)] at hc'
   refine ⟨by omega,fun q h1 h2 => ?_⟩
   by_cases c:left.length - n<=q
   ·exact hn2 q c h2
   ·have:q=((left.length:Int) - 1 - n).toNat:=by omega
    rw [this]; exact hc'
  case o27 | o28 | o29 | o30 =>
   intro x hx n hn hc h2; simp only [decide_eq_true_eq] at h2; have e:=full_end hg hx hn.2 (by omega); rw [e]
   try (intros; rfl)
  case o34 =>
   intro x hx n hn hc h2; obtain ⟨hn1,hn2⟩:=hn; simp only [decide_eq_false_iff_not] at h2
   have hk:0<=(left.length:Int) - 1 - n:=by omega
   rw [decide_eq_true hk] at hc; have hc':=of_decide_eq_false hc; rw [rowO_all (by omega)] at hc'
   have ek:((left.length:Int) - 1 - n).toNat=left.length - 1 - n:=by omega
   rw [ek] at hc'; obtain ⟨g1,g2⟩:=setN_next hg.nonneg hx (k:=left.length - 1 - n) (by omega) (fun q h1 h2=>hn2 q (by omega) h2) hc'
   rw [ek,rowO_all (by omega)]
   have h3:=hg.set hx (left.length - 1 - n) (by omega)
   have h4:=hg.small hs (left.length - 1 - n) (by omega)
   exact ⟨by omega,by omega⟩
  case o38 =>
   intro x hx n hn hc h2; obtain ⟨hn1,hn2⟩:=hn; simp only [decide_eq_false_iff_not] at h2
   have hk:0<=(left.length:Int) - 1 - n:=by omega
   rw [decide_eq_true hk] at hc; have hc':=of_decide_eq_false hc; rw [rowO_all (by omega)] at hc'
   have ek:((left.length:Int) - 1 - n).toNat=left.length - 1 - n:=by omega
   rw [ek] at hc'; obtain ⟨g1,g2⟩:=setN_next hg.nonneg hx (k:=left.length - 1 - n) (by omega) (fun q h1 h2=>hn2 q (by omega) h2) hc'
   rw [setN_len]
  case o40 =>
   intro x hx n hn hc h2; obtain ⟨hn1,hn2⟩:=hn; simp only [decide_eq_false_iff_not] at h2
   have hk:0<=(left.length:Int) - 1 - n:=by omega
   rw [decide_eq_true hk] at hc; have hc':=of_decide_eq_false hc; rw [rowO_all (by omega)] at hc'
   have ek:((left.length:Int) - 1 - n).toNat=left.length - 1 - n:=by omega
   rw [ek] at hc'; obtain ⟨g1,g2⟩:=setN_next hg.nonneg hx (k:=left.length - 1 - n) (by omega) (fun q h1 h2=>hn2 q (by omega) h2) hc'
   exact g1
  case o39 =>
   intro x hx n hn hc h2; obtain ⟨hn1,hn2⟩:=hn; simp only [decide_eq_false_iff_not] at h2
   have hk:0<=(left.length:Int) - 1 - n:=by omega
   rw [decide_eq_true hk] at hc; have hc':=of_decide_eq_false hc; rw [rowO_all (by omega)] at hc'
   have ek:((left.length:Int) - 1 - n).toNat=left.length - 1 - n:=by omega
   rw [ek] at hc'; obtain ⟨g1,g2⟩:=setN_next hg.nonneg hx (k:=left.length - 1 - n) (by omega) (fun q h1 h2=>hn2 q (by omega) h2) hc'
   intro q hq
   rw [g2 q hq,ek]
   refine rec_ei (fun h => ?_) (fun h => ?_)
   ·rw [if_neg h]
    by_cases c:q < left.length - 1 - n
    ·rw [if_pos c,rowO_all (by omega)]
    ·rw [if_neg c,rowO_no (by omega)]
   ·rw [if_pos h,h,rowO_all (by omega)]; rfl
  all_goals (intro j hj _ hw x hx hl; rw [setN_len] at hl; simp only [decide_eq_true_eq,decide_eq_false_iff_not] at hl)
  all_goals (have hb:=sumTo_in hg hs hj x hx)
  case o58 | o59 | o62 | o63 | o69 | o70=>all_goals omega
  case o65=>exact ⟨by omega,by omega⟩
  case o66=>rw [sumTo_succ]
  case o60 =>
   have h3:=hg.set hj x (by omega); have h4:=hg.small hs x (by omega)
   unfold restQ; rw [if_neg (by omega)]; exact ⟨by omega,by omega⟩
  case o64 =>
   have h3:=hg.set hj x (by omega); have h4:=hg.small hs x (by omega)
   exact ⟨by omega,by omega⟩
  case o68 =>
   have h3:=hg.set hj x (by omega); have h4:=hg.small hs x (by omega)
   intro q hq
   unfold restQ
   refine rec_ei (fun h => ?_) (fun h => ?_)
   ·by_cases c:q < x
    ·rw [if_pos c,if_pos (by omega)]
    ·rw [if_neg c,if_neg (by omega)]
   ·rw [if_neg (by omega),if_pos (by omega),h]; rfl
  case o73=>intro i hi; simp [List.getD_eq_getElem?_getD,List.getElem?_drop,Nat.add_comm]
  case o74=>rw [restL_len]
  case o75=>intro i hi; rw [restL_len] at hi; rw [restL_get hi]; unfold restQ; rw [if_pos (by omega)]
  case o76=>exact ih (rooms.drop 1).length (by rw [List.length_drop]; omega) _ _ rfl
  case o77=>exact hg.rest hj
  all_goals (have hok:=lock_ok hs (rooms.drop 1) _ (hg.rest hj); have hm:=layM_in hok; have hll:=layS_len hok; have hdl:(rooms.drop 1).length=rooms.length - 1:=List.length_drop)
  all_goals (intro hc)
  case o81 | o91=>all_goals exact ⟨by omega,by omega⟩
  case o85=>rw [setN_len]; omega
  case o88=>omega
  all_goals (have ex:x=(setN left j).length:=by rw [setN_len]; omega)
  all_goals subst ex
  case o92 =>
   have e:=best_new hw hc; rw [e]
   rfl
  case o93 =>
   have e:=best_new hw hc; rw [e]
   exact Nat.add_comm _ _
  case o94 =>
   have e:=best_new hw hc; rw [e]
   intro i hi
   cases i with
   | zero=>rfl
   | succ i=>unfold catF; rw [if_neg (by omega)]; rfl
  case o95 =>
   have e:=best_new hw hc; rw [e]
   rfl
  all_goals (have e:=best_old hw hc; rw [e])
  all_goals (intros; rfl)
theorem t97 (f:Frm) (rooms:List Span) (left:List Int):Triple Try.prog 97 (s97 f rooms left):=t97' f _ rooms left rfl
end Go.Ab
namespace Go.Sh
open Go.Ab
def roomsTo (f:Frm) (w:Int) (n:Nat):List Span:=(List.range n).map fun c=>roomP f (highP f (delW (col f c) (bitP w)))
def stockTo (f:Frm) (n:Nat):List Int:=(List.range n).map fun i=>(stp f i).many
def wholeP (f:Frm) (w:Int):Lay:=lockP f (roomsTo f w f.columns.length) (stockTo f f.strips.length)
def stripsN (f:Frm):Int:=if okFrm f then layM (wholeP f 0) else 0
def stripsE (f:Frm):Int:=if okFrm f then (if (wholeP f 0).isSome then 0 else 3) else 30
def lockR (f:Frm):List (List Int):=if okFrm f then layS (wholeP f 0) else []
end Go.Sh
namespace Go.Ab
open Go Go.RowKit Go.Proofs Go.Sh Go.En
def s64 (f:Frm) (w:Int):CallSpec:={ args:=[vFrm f,iv w],res:=vLay (wholeP f w),pre:=Sound f/\0<=w/\w<=1000 }
def h64a (f:Frm) (w:Int):Hint:={ X:=Nat,M:=fun n=>[(5,.vec 5000),(16,iv n)],H:=fun n=>[(5000,.vec 51 2 n (fun i=>cSpan ((roomsTo f w n).getD i ⟨0,0⟩)))],I:=fun n=>n<=f.columns.length,mu:=fun n=>f.columns.length - n,x0:=(0:Nat),nx:=fun n=>n + 1 }
def h64b (f:Frm) (w:Int):Hint:={ X:=Nat,M:=fun n=>[(9,.vec 5001),(37,iv n)],H:=fun n=>[(5001,.vec 3 1 n (fun i=>[iv ((stockTo f n).getD i 0)]))],I:=fun n=>n<=f.strips.length,mu:=fun n=>f.strips.length - n,x0:=(0:Nat),nx:=fun n=>n + 1 }
def c64c (f:Frm) (w:Int) (n:Nat):CallSpec:=s93o (col f n) 10112
def c64d (f:Frm) (w:Int) (n:Nat):CallSpec:=s92 10112 (col f n) (bitP w)
def c64l (f:Frm) (w:Int):CallSpec:=s97 f (roomsTo f w f.columns.length) (stockTo f f.strips.length)
def s26 (f:Frm):CallSpec:={ args:=[vFrm f],res := .tup [iv (stripsN f),iv (stripsE f)],pre:=smallF f }
def s27 (f:Frm):CallSpec:={ args:=[vFrm f],res := .tup [aIntss (lockR f),iv (stripsE f)],pre:=smallF f }
end Go.Ab
namespace Go.Sh
open Go.Ab
variable {f:Frm}
theorem gate_bad {b:Bool} (h:(!decide (openF f b=0))=true):(okFrm f && b)=false:=by
 simp only [Bool.not_eq_true',decide_eq_false_iff_not] at h
 unfold openF at h
 cases e:okFrm f with
 | false=>rfl
 | true =>
  cases b with
  | false=>rfl
  | true=>exact absurd (by simp [e]) h
theorem gate_ok {b:Bool} (h:(!decide (openF f b=0))=false):okFrm f=true/\b=true/\openFr f b=f/\Sound f/\openF f b=0:=by
 simp only [Bool.not_eq_false',decide_eq_true_eq] at h
 have h0:=h
 unfold openF at h
 cases e:okFrm f with
 | false=>rw [e] at h; simp at h
 | true =>
  cases b with
  | false=>rw [e] at h; simp at h
  | true=>exact ⟨rfl,rfl,okFr_open e,sound_of e,h0⟩
theorem lay_none {b:Lay} (h:(!b.isSome)=true):b=none:=by cases b <;> first | rfl | cases h
theorem lay_some {b:Lay} (h:(!b.isSome)=false):b.isSome=true:=by cases b <;> first | rfl | cases h
theorem goodL_mem {l:List Int} (h:l.length<=6) (h1:∀ w,w ∈ l->0<=w/\w < f.pieces.length):goodL f l:=⟨h,fun k hk=>h1 _ (getD_mem l 0 hk)⟩
theorem mem_goodL {l:List Int} (h:goodL f l):∀ w,w ∈ l->0<=w/\w < f.pieces.length:=by
 intro w hw
 obtain ⟨i,hi,e⟩:=List.getElem_of_mem hw
 have:=h.2 i hi
 rw [getD_lt _ _ hi,e] at this; exact this
theorem goodL_del {l:List Int} (h:goodL f l) (P:Int->Bool):goodL f (delW l P) :=
 goodL_mem (Nat.le_trans (List.length_filter_le _ _) h.1) (fun w hw=>mem_goodL h w (List.mem_filter.1 hw).1)
theorem rooms_len (f:Frm) (w:Int) (n:Nat):(roomsTo f w n).length=n:=by unfold roomsTo; rw [List.length_map,List.length_range]
theorem rooms_succ (f:Frm) (w:Int) (n:Nat):roomsTo f w (n + 1)=roomsTo f w n ++ [roomP f (highP f (delW (col f n) (bitP w)))]:=by unfold roomsTo; rw [List.range_succ,List.map_append]; rfl
theorem stock_len (f:Frm) (n:Nat):(stockTo f n).length=n:=by unfold stockTo; rw [List.length_map,List.length_range]
theorem stock_succ (f:Frm) (n:Nat):stockTo f (n + 1)=stockTo f n ++ [(stp f n).many]:=by unfold stockTo; rw [List.range_succ,List.map_append]; rfl
theorem stock_get {n i:Nat} (h:i < n):(stockTo f n).getD i 0=(stp f i).many:=by
 rw [getD_lt _ _ (by rw [stock_len]; exact h)]; unfold stockTo; rw [List.getElem_map,List.getElem_range]
theorem stock_good (hs:Sound f):GoodLeft f (stockTo f f.strips.length):=by
 refine ⟨stock_len _ _,fun q hq => ?_⟩
 rw [stock_len] at hq
 rw [stock_get hq]
 exact ⟨(hs.strip q hq).2.2.1,Int.le_refl _⟩
theorem col_elem (hs:Sound f) {c:Nat} {w:Int} (h:w ∈ col f c):0<=w/\w<=62:=by
 have:=mem_goodL (col_good hs c) w h
 have:=hs.pieces
 omega
end Go.Sh
namespace Go.Ab
open Go Go.RowKit Go.Proofs Go.Sh Go.En
abbrev q38 (f:Frm) (w:Int) (Pq:Prop):Prop:=Sound f/\0<=w/\w<=1000->Pq
abbrev q39 (f:Frm) (x0:Nat) (Pq:Prop):Prop:=x0<=f.columns.length->Pq
abbrev q3a (f:Frm) (x0:Nat) (Pq:Prop):Prop:=q39 f x0 (decide ((x0:Int) < (↑(f.columns.length):Int))=true->Pq)
abbrev q3b (f:Frm) (x0:Nat) (Pq:Prop):Prop:=q39 f x0 (decide ((x0:Int) < (↑(f.columns.length):Int))=false->Pq)
abbrev q3c (f:Frm) (x14:Nat) (Pq:Prop):Prop:=x14<=f.strips.length->Pq
abbrev q3d (f:Frm) (x14:Nat) (Pq:Prop):Prop:=q3c f x14 (decide ((x14:Int) < (↑(f.strips.length):Int))=true->Pq)
abbrev q3e (f:Frm) (x14:Nat) (Pq:Prop):Prop:=q3c f x14 (decide ((x14:Int) < (↑(f.strips.length):Int))=false->Pq)
theorem w64 (f:Frm) (w:Int)
 (o0:q38 f w (0=(↑0:Int)))
 (o1:q38 f w (0<=f.columns.length))
 (o2:q38 f w (∀ (x0:Nat),q3a f x0 (0<=(x0:Int))))
 (o3:q38 f w (∀ (x0:Nat),q3a f x0 ((x0:Int) < (↑(f.columns.length):Int))))
 (o4:q38 f w (∀ (x0:Nat),q3a f x0 ((col f x0).length<=60000)))
 (o5:q38 f w (∀ (x0:Nat),q3a f x0 ((col f x0).length<=65536)))
 (o6:∀ (E0:Env),Sound f/\0<=w/\w<=1000 -> ∀ (x0:Nat),x0<=f.columns.length->decide ((x0:Int) < (↑(f.columns.length):Int))=true -> ∀ (i3:Env) (i4:List Value),Env.le E0 i3->i4.length=2->(∀ (k:Nat),Rel i3 true (List.getD [AV.vec 10112,AV.clo 94 [AV.rp [iv w]]] k AV.any) (i4.getD k undef))->fnokOf Try.prog 0 (fun (w:{ w:Int // w ∈ col f x0 })=>[iv (Subtype.val w)]) (fun (w_1:{ w:Int // w ∈ col f x0 })=>bv (bitP w (Subtype.val w_1))) (Env.mk i3.1 i3.2 i3.3 fun (k:Nat) (u:Value) => ∃ (i:Nat),[AV.vec 10112,AV.fn 0][i]? = some (AV.fn k)/\i4[i]? = some u))
 (o7:q38 f w (∀ (x0:Nat),q3a f x0 (goodL f (delW (col f x0) (bitP w)))))
 (o8:q38 f w (∀ (x0:Nat),q3a f x0 (0<=(highP f (delW (col f x0) (bitP w))).lo)))
 (o9:q38 f w (∀ (x0:Nat),q3a f x0 ((highP f (delW (col f x0) (bitP w))).lo<=(highP f (delW (col f x0) (bitP w))).hi)))
 (o10:q38 f w (∀ (x0:Nat),q3a f x0 ((highP f (delW (col f x0) (bitP w))).hi<=1000)))
 (o11:q38 f w (∀ (x0:Nat),q3a f x0 (x0 + 1<=65536)))
 (o12:q38 f w (∀ (x0:Nat),q3a f x0 (inI ((x0:Int) + 1))))
 (o13:q38 f w (∀ (x0:Nat),q3a f x0 ((x0:Int) + 1=(↑(x0 + 1):Int))))
 (o14:q38 f w (∀ (x0:Nat),q3a f x0 (∀ (i12:Nat),i12 < x0 + 1->catF x0 (fun (i:Nat)=>cSpan ((roomsTo f w x0).getD i (Span.mk 0 0))) (fun (j:Nat)=>List.getD [[iv (roomP f (highP f (delW (col f x0) (bitP w)))).lo,iv (roomP f (highP f (delW (col f x0) (bitP w)))).hi]] j (TI.za ti51)) i12=cSpan ((roomsTo f w (x0 + 1)).getD i12 (Span.mk 0 0)))))
 (o15:q38 f w (∀ (x0:Nat),q3a f x0 (x0 + 1<=f.columns.length)))
 (o16:q38 f w (∀ (x0:Nat),q3a f x0 (f.columns.length - (x0 + 1) < f.columns.length - x0)))
 (o17:q38 f w (∀ (x0:Nat),q3b f x0 (0=(↑0:Int))))
 (o18:q38 f w (∀ (x0:Nat),q3b f x0 (0<=f.strips.length)))
 (o19:q38 f w (∀ (x0:Nat),q3b f x0 (∀ (x14:Nat),q3d f x14 (0<=(x14:Int)))))
 (o20:q38 f w (∀ (x0:Nat),q3b f x0 (∀ (x14:Nat),q3d f x14 ((x14:Int) < (↑(f.strips.length):Int)))))
 (o21:q38 f w (∀ (x0:Nat),q3b f x0 (∀ (x14:Nat),q3d f x14 (x14 + 1<=65536))))
 (o22:q38 f w (∀ (x0:Nat),q3b f x0 (∀ (x14:Nat),q3d f x14 (inI ((x14:Int) + 1)))))
 (o23:q38 f w (∀ (x0:Nat),q3b f x0 (∀ (x14:Nat),q3d f x14 ((x14:Int) + 1=(↑(x14 + 1):Int)))))
 (o24:q38 f w (∀ (x0:Nat),q3b f x0 (∀ (x14:Nat),q3d f x14 (∀ (i16:Nat),i16 < x14 + 1->catF x14 (fun (i:Nat)=>[iv ((stockTo f x14).getD i 0)]) (fun (j:Nat)=>List.getD [[iv (stp f x14).many]] j (TI.za ti3)) i16 = [iv ((stockTo f (x14 + 1)).getD i16 0)]))))
 (o25:q38 f w (∀ (x0:Nat),q3b f x0 (∀ (x14:Nat),q3d f x14 (x14 + 1<=f.strips.length))))
 (o26:q38 f w (∀ (x0:Nat),q3b f x0 (∀ (x14:Nat),q3d f x14 (f.strips.length - (x14 + 1) < f.strips.length - x14))))
 (o27:q38 f w (∀ (x0:Nat),q3b f x0 (∀ (x14:Nat),q3e f x14 (x0=(roomsTo f w f.columns.length).length))))
 (o28:q38 f w (∀ (x0:Nat),q3b f x0 (∀ (x14:Nat),q3e f x14 (∀ (i18:Nat),i18 < (roomsTo f w f.columns.length).length->cSpan ((roomsTo f w x0).getD i18 (Span.mk 0 0))=cSpan ((roomsTo f w f.columns.length).getD i18 (Span.mk 0 0))))))
 (o29:q38 f w (∀ (x0:Nat),q3b f x0 (∀ (x14:Nat),q3e f x14 (x14=(stockTo f f.strips.length).length))))
 (o30:q38 f w (∀ (x0:Nat),q3b f x0 (∀ (x14:Nat),q3e f x14 (∀ (i20:Nat),i20 < (stockTo f f.strips.length).length -> [iv ((stockTo f x14).getD i20 0)] = [iv ((stockTo f f.strips.length).getD i20 0)]))))
 (o31:q38 f w (∀ (x0:Nat),q3b f x0 (∀ (x14:Nat),q3e f x14 (GoodLeft f (stockTo f f.strips.length)))))
 (o32:q38 f w (∀ (x0:Nat),q3b f x0 (∀ (x14:Nat),q3e f x14 ((roomsTo f w f.columns.length).length<=3))))
 (o33:q38 f w (∀ (x0:Nat),q3b f x0 (∀ (x14:Nat),q3e f x14 (Option.isSome (lockP f (roomsTo f w f.columns.length) (stockTo f f.strips.length))=Option.isSome (wholeP f w)))))
 (o34:q38 f w (∀ (x0:Nat),q3b f x0 (∀ (x14:Nat),q3e f x14 (Option.isSome (wholeP f w)=true->(layS (lockP f (roomsTo f w f.columns.length) (stockTo f f.strips.length))).length=(layS (wholeP f w)).length))))
 (o35:q38 f w (∀ (x0:Nat),q3b f x0 (∀ (x14:Nat),q3e f x14 (Option.isSome (wholeP f w)=true -> ∀ (i24:Nat),i24 < (layS (wholeP f w)).length -> [aInts ((layS (lockP f (roomsTo f w f.columns.length) (stockTo f f.strips.length))).getD i24 [])] = [aInts ((layS (wholeP f w)).getD i24 [])]))))
 (o36:q38 f w (∀ (x0:Nat),q3b f x0 (∀ (x14:Nat),q3e f x14 (Option.isSome (wholeP f w)=true->layM (lockP f (roomsTo f w f.columns.length) (stockTo f f.strips.length))=layM (wholeP f w))))) :
  Triple Try.prog 64 (s64 f w):=by
 refine triple_of Try.func64 rfl Try.call64 T0_ok _ rfl rfl rfl rfl (Nat.le_of_ble_eq_true (by kernel_rfl)) (fun _ _ _ _ h=>h) ?_
 intro hpre C hC _ hE
 obtain ⟨P,w0,E0,av,hA,ro,df⟩:=C
 obtain ⟨rfl,rfl,rfl⟩:=hC
 refine swp_seq ?_
 refine zC ([(1,focB3)]) [2,3] [0] (Ak 3 tv) ?_
 refine swp_seq ?_
 refine zR [2,3,5] [0] (Ak 1 tv) ?_
 refine swp_seq ?_
 refine swp_seq ?_
 refine zR [2,3,5,14,15,16] [0] (Ak 5 tv) ?_
 refine swp_block ?_
 refine zL (Hint.ann (h64a f w) [(2,AV.ptr 0 []),(3,AV.rp [iv w]),(14,AV.sl 1 f.columns.length fun (i:Nat)=>[aInts (col f i)]),(15,iv (↑(f.columns.length):Int))] [(0,OB.cells 112 (cFrm f))] 10072) (zE hE [] [(0,.same 0),(5000,.nil)] [3,14,15] [0] (An (An (An (zr (some (Src.same 0))) (zr nilP)) (An (An (zr (AV.rp [iv w])) (zr true)) (An (An (zr (AV.sl 1 f.columns.length fun (i:Nat)=>[aInts (col f i)])) (zr true)) (An (An (zr (iv (↑(f.columns.length):Int))) (zr true)) (An (zr (some Src.nil)) (An (An (ci (o0 hpre)) (zr nilN)) tv)))))) (An (An (An (zr (OB.cells 112 (cFrm f))) (zr true)) (An (zr 0) tv)) (An (zr true) (zr true))))) (o1 hpre) (fun (x0:Nat) hx0 => ?_)
 refine swp_seq ?_
 refine zR [2,3,14,15,5,16,17] [0,5000] (Ak 1 tv) ?_
 refine swp_seq ?_
 refine zI (decide ((x0:Int) < (↑(f.columns.length):Int))) (fun y1 => ?_) (fun y1 => ?_)
 ·refine swp_skip ?_
  refine swp_seq ?_
  refine swp_block ?_
  refine swp_seq ?_
  refine zR [2,3,14,15,5,16,7] [0,5000] (An (An (o2 hpre x0 hx0 y1) (o3 hpre x0 hx0 y1)) (Ak 2 tv)) ?_
  refine swp_seq ?_
  refine zC ([(1,CallSpec.eq (c64c f w x0) [true]),(3,CallSpec.eq (c64d f w x0) [true,false])]) [2,3,14,15,5,16,8] [0,5000] (Ak 1 (An (An (An (zr (aInts (col f x0))) tv) (An (t93o (col f x0) (10112)) (An (o4 hpre x0 hx0 y1) (Ak 1 (fun (i2:Env)=>tv))))) (Ak 1 (An (An (An (zr (AV.vec 10112)) (Ak 1 tv)) (An (t92 (10112) (col f x0) (bitP w)) (An (o5 hpre x0 hx0 y1) (An (An (zr (some (OB.vec 3 1 (col f x0).length fun (i:Nat)=>[iv ((col f x0).getD i 0)]))) tv) (fun (i3:Env)=>(fun (i4:List Value)=>(fun (y5:Env.le E0 i3)=>(fun (y6:i4.length=2)=>(fun (y7:∀ (k:Nat),Rel i3 true (List.getD [AV.vec 10112,AV.clo 94 [AV.rp [iv w]]] k AV.any) (i4.getD k undef))=>(o6 E0 hpre x0 hx0 y1 i3 i4 y5 y6 y7)))))))))) (Ak 1 tv))))) ?_
  refine zC ([(4,CallSpec.eq (s96 f (delW (col f x0) (bitP w))) [true,false]),(5,CallSpec.eq (s95 f (highP f (delW (col f x0) (bitP w)))) [true,true])]) [2,3,14,15,5,16] [0,10200] (Ak 4 (An (An (An (zr (AV.agg (cFrm f))) (An (An (zr 1) (An (zr (delW (col f x0) (bitP w)).length) (fun (i8:Nat)=>(fun (y9:i8 < (delW (col f x0) (bitP w)).length)=>(zr ([iv ((delW (col f x0) (bitP w)).getD i8 0)])))))) tv)) (An (t96 (f) (delW (col f x0) (bitP w))) (An (An hpre.1 (o7 hpre x0 hx0 y1)) (Ak 1 (fun (i10:Env)=>tv))))) (An (An (An (zr (AV.agg (cFrm f))) (An (zr (AV.agg (cSpan (highP f (delW (col f x0) (bitP w)))))) tv)) (An (t95 (f) (highP f (delW (col f x0) (bitP w)))) (An (An hpre.1 (An (o8 hpre x0 hx0 y1) (An (o9 hpre x0 hx0 y1) (o10 hpre x0 hx0 y1)))) (Ak 1 (fun (i11:Env)=>tv))))) (Ak 1 (An (o11 hpre x0 hx0 y1) (Ak 1 tv)))))) ?_
  refine zR [2,3,14,15,5,16] [0,10200] (An (o12 hpre x0 hx0 y1) (Ak 1 tv)) ?_
  exact zn (zE hE [] [(0,.same 0),(5000,.same 10200)] [3,14,15] [0] (An (An (An (zr (some (Src.same 0))) (zr nilP)) (An (An (zr (AV.rp [iv w])) (zr true)) (An (An (zr (AV.sl 1 f.columns.length fun (i:Nat)=>[aInts (col f i)])) (zr true)) (An (An (zr (iv (↑(f.columns.length):Int))) (zr true)) (An (zr (some (Src.same 10200))) (An (An (ci (o13 hpre x0 hx0 y1)) (zr nilN)) tv)))))) (An (An (An (zr (OB.cells 112 (cFrm f))) (zr true)) (An (An (zr 51) (An (zr 2) (An (zr (x0 + 1)) (fun (i12:Nat)=>(fun (y13:i12 < x0 + 1)=>(o14 hpre x0 hx0 y1 i12 y13)))))) tv)) (An (zr true) (zr true))))) (o15 hpre x0 hx0 y1) (o16 hpre x0 hx0 y1)
 ·refine swp_exit ?_
  refine swp_seq ?_
  refine zR [2,5,9] [0,5000] (Ak 1 tv) ?_
  refine swp_seq ?_
  refine swp_seq ?_
  refine zR [2,5,9,35,36,37] [0,5000] (Ak 5 tv) ?_
  refine swp_block ?_
  refine zL (Hint.ann (h64b f w) [(2,AV.ptr 0 []),(5,AV.vec 5000),(35,AV.sl 2 f.strips.length fun (i:Nat)=>cStrip (stp f i)),(36,iv (↑(f.strips.length):Int))] [(0,OB.cells 112 (cFrm f)),(5000,OB.vec 51 2 x0 fun (i:Nat)=>cSpan ((roomsTo f w x0).getD i (Span.mk 0 0)))] 20128) (zE hE [] [(0,.same 0),(5000,.same 5000),(5001,.nil)] [35,36] [0,5000] (An (An (An (zr (some (Src.same 0))) (zr nilP)) (An (zr (some (Src.same 5000))) (An (An (zr (AV.sl 2 f.strips.length fun (i:Nat)=>cStrip (stp f i))) (zr true)) (An (An (zr (iv (↑(f.strips.length):Int))) (zr true)) (An (zr (some Src.nil)) (An (An (ci (o17 hpre x0 hx0 y1)) (zr nilN)) tv)))))) (An (An (An (zr (OB.cells 112 (cFrm f))) (zr true)) (An (An (zr (OB.vec 51 2 x0 fun (i:Nat)=>cSpan ((roomsTo f w x0).getD i (Span.mk 0 0)))) (zr true)) (An (zr 0) tv))) (An (zr true) (zr true))))) (o18 hpre x0 hx0 y1) (fun (x14:Nat) hx14 => ?_)
  refine swp_seq ?_
  refine zR [2,5,35,36,9,37,38] [0,5000,5001] (Ak 1 tv) ?_
  refine swp_seq ?_
  refine zI (decide ((x14:Int) < (↑(f.strips.length):Int))) (fun y15 => ?_) (fun y15 => ?_)
  ·refine swp_skip ?_
   refine swp_seq ?_
   refine swp_block ?_
   refine swp_seq ?_
   refine zR [2,5,35,36,9,37,11] [0,5000,5001,20152] (An (An (o19 hpre x0 hx0 y1 x14 hx14 y15) (o20 hpre x0 hx0 y1 x14 hx14 y15)) (Ak 3 tv)) ?_
   refine zR [2,5,35,36,9,37] [0,5000,20200] (Ak 4 (An (o21 hpre x0 hx0 y1 x14 hx14 y15) (Ak 1 tv))) ?_
   refine zR [2,5,35,36,9,37] [0,5000,20200] (An (o22 hpre x0 hx0 y1 x14 hx14 y15) (Ak 1 tv)) ?_
   exact zn (zE hE [] [(0,.same 0),(5000,.same 5000),(5001,.same 20200)] [35,36] [0,5000] (An (An (An (zr (some (Src.same 0))) (zr nilP)) (An (zr (some (Src.same 5000))) (An (An (zr (AV.sl 2 f.strips.length fun (i:Nat)=>cStrip (stp f i))) (zr true)) (An (An (zr (iv (↑(f.strips.length):Int))) (zr true)) (An (zr (some (Src.same 20200))) (An (An (ci (o23 hpre x0 hx0 y1 x14 hx14 y15)) (zr nilN)) tv)))))) (An (An (An (zr (OB.cells 112 (cFrm f))) (zr true)) (An (An (zr (OB.vec 51 2 x0 fun (i:Nat)=>cSpan ((roomsTo f w x0).getD i (Span.mk 0 0)))) (zr true)) (An (An (zr 3) (An (zr 1) (An (zr (x14 + 1)) (fun (i16:Nat)=>(fun (y17:i16 < x14 + 1)=>(o24 hpre x0 hx0 y1 x14 hx14 y15 i16 y17)))))) tv))) (An (zr true) (zr true))))) (o25 hpre x0 hx0 y1 x14 hx14 y15) (o26 hpre x0 hx0 y1 x14 hx14 y15)
  ·refine swp_exit ?_
   refine swp_seq ?_
   refine zC ([(3,CallSpec.eq (c64l f w) [true,false,false])]) [4] [] (Ak 3 (An (An (An (zr (AV.agg (cFrm f))) (An (An (zr 2) (An (o27 hpre x0 hx0 y1 x14 hx14 y15) (fun (i18:Nat)=>(fun (y19:i18 < (roomsTo f w f.columns.length).length)=>(o28 hpre x0 hx0 y1 x14 hx14 y15 i18 y19))))) (An (An (zr 1) (An (o29 hpre x0 hx0 y1 x14 hx14 y15) (fun (i20:Nat)=>(fun (y21:i20 < (stockTo f f.strips.length).length)=>(o30 hpre x0 hx0 y1 x14 hx14 y15 i20 y21))))) tv))) (An (t97 (f) (roomsTo f w f.columns.length) (stockTo f f.strips.length)) (An (An hpre.1 (An (o31 hpre x0 hx0 y1 x14 hx14 y15) (o32 hpre x0 hx0 y1 x14 hx14 y15))) (Ak 1 (fun (i22:Env)=>tv))))) (Ak 1 tv))) ?_
   refine swp_ret ?_
   exact zT [] (An (Ak 1 tv) (An (An (o33 hpre x0 hx0 y1 x14 hx14 y15) (fun (y23:Option.isSome (wholeP f w)=true)=>(An (An (zr 1) (An (o34 hpre x0 hx0 y1 x14 hx14 y15 y23) (fun (i24:Nat)=>(fun (y25:i24 < (layS (wholeP f w)).length)=>(o35 hpre x0 hx0 y1 x14 hx14 y15 y23 i24 y25))))) (An (ci (o36 hpre x0 hx0 y1 x14 hx14 y15 y23)) tv)))) (An (zr true) (An (zr true) (zr true)))))
theorem t64 (f:Frm) (w:Int):Triple Try.prog 64 (s64 f w):=by
 apply w64
 all_goals (try delta q38 q39 q3a q3b q3c q3d q3e)
 all_goals (first | ((repeat intro _) <;> (try simp only [Bool.cond_true_left,Bool.cond_false_right,Bool.not_not,Bool.not_eq_true',Bool.not_eq_false',Bool.or_eq_true,Bool.or_eq_false_iff,Bool.and_eq_true,decide_eq_true_eq,decide_eq_false_iff_not,inI,big,fitsF,smallF,goodL] at *) <;> first | (exact rfl) | omega | (exact ⟨Nat.zero_le _,fun j hj=>absurd hj (Nat.not_lt_zero j)⟩) | (simp_all; done) | (simp_all; omega)) | skip)
 case o6 =>
  intro E0 hp x hx hl E us le hlen hr
  obtain ⟨hs,h0,h1⟩:=hp
  refine fnok_arg (vals:=[.vec 10112,.clo 94 [.rp [iv w]]]) 1 (fun j' h => ?_) (fun E u hu m=>fnok_clo (caps:=[.rp [iv w]]) (s94 m.1 w) (t94 _ _) rfl ⟨(col_elem hs m.2).1,(col_elem hs m.2).2,h0,h1⟩ (fun _=>trivial) rfl rfl rfl rfl rfl hu) E us le hlen hr
  match j',h with
  | 0,h=>cases h
  | 1,_=>rfl
  | n + 2,h=>simp at h
 all_goals (intro hp; obtain ⟨hs,h0,h1⟩:=hp; have hc3:=hs.columns; have hs3:=hs.strips)
 case o4 | o5=>intro x hx hl; have:=hs.colLen x; omega
 case o7=>intro x hx hl; exact goodL_del (col_good hs x) _
 case o8 | o9 | o10=>intro x hx hl; have:=high_bound' hs (goodL_del (col_good hs x) (bitP w)); omega
 case o11=>intro x hx hl; omega
 case o12=>intro x hx hl; exact ⟨by omega,by omega⟩
 case o14 =>
  intro x hx hl i hi
  rw [rooms_succ]
  exact catF_one (roomsTo f w x) _ ⟨0,0⟩ cSpan (rooms_len f w x).symm (fun k _=>rfl) rfl (by rw [rooms_len]; exact hi)
 all_goals (intro x hx hl y hy hk)
 case o21=>omega
 case o22=>exact ⟨by omega,by omega⟩
 case o24 =>
  intro i hi
  rw [stock_succ]
  exact catF_one (stockTo f y) _ 0 (fun x=>[iv x]) (stock_len f y).symm (fun k _=>rfl) rfl (by rw [stock_len]; exact hi)
 all_goals (simp only [decide_eq_false_iff_not] at hl hk)
 all_goals (have ex:x=f.columns.length:=by omega)
 all_goals (have ey:y=f.strips.length:=by omega)
 all_goals (subst ex; subst ey)
 case o27=>rw [rooms_len]
 case o28 | o30=>intro i hi; rfl
 case o29=>rw [stock_len]
 case o31=>exact stock_good hs
 case o32=>rw [rooms_len]; exact hc3
 all_goals (intros; rfl)
abbrev q3f (f:Frm) (Pq:Prop):Prop:=smallF f->(!decide (openF f true=0))=false->Pq
abbrev q3g (f:Frm) (Pq:Prop):Prop:=q3f f ((!Option.isSome (wholeP (openFr f true) 0))=false->Pq)
theorem w26 (f:Frm)
 (o0:smallF f->(!decide (openF f true=0))=true->0=stripsN f)
 (o1:smallF f->(!decide (openF f true=0))=true->openF f true=stripsE f)
 (o2:q3f f (Sound (openFr f true)))
 (o3:q3f f ((!Option.isSome (wholeP (openFr f true) 0))=true->0=stripsN f))
 (o4:q3f f ((!Option.isSome (wholeP (openFr f true) 0))=true->3=stripsE f))
 (o5:q3g f (Option.isSome (wholeP (openFr f true) 0)=true))
 (o6:q3g f (Option.isSome (wholeP (openFr f true) 0)=true))
 (o7:q3g f (layM (wholeP (openFr f true) 0)=stripsN f))
 (o8:q3g f (0=stripsE f)) :
  Triple Try.prog 26 (s26 f):=by
 refine triple_of Try.func26 rfl Try.call26 T0_ok _ rfl rfl rfl rfl (Nat.le_of_ble_eq_true (by kernel_rfl)) (fun _ _ _ _ h=>h) ?_
 intro hpre C hC _ hE
 obtain ⟨P,w0,E0,av,hA,ro,df⟩:=C
 obtain ⟨rfl,rfl,rfl⟩:=hC
 refine swp_seq ?_
 refine zR [1] [0] (Ak 3 tv) ?_
 refine swp_seq ?_
 refine zC ([(1,CallSpec.eq (s63 f true) [true,true])]) [4,5] [64] (Ak 1 (An (An (An (zr (AV.agg (cFrm f))) (An (zr (bv true)) tv)) (An (t63 (f) (true)) (An hpre (Ak 1 (fun (i0:Env)=>tv))))) (Ak 6 tv))) ?_
 refine swp_seq ?_
 refine swp_seq ?_
 refine zR [4,5,13] [64] (Ak 2 tv) ?_
 refine zI (!decide (openF f true=0)) (fun y1 => ?_) (fun y1 => ?_)
 ·refine swp_seq ?_
  refine zR [2,3] [] (Ak 3 tv) ?_
  refine swp_ret ?_
  exact zT [] (An (Ak 2 tv) (An (An (An (ci (o0 hpre y1)) (zr nilN)) (An (An (ci (o1 hpre y1)) (zr nilN)) tv)) (An (zr true) (An (zr true) (zr true)))))
 ·refine swp_skip ?_
  refine swp_seq ?_
  refine zC ([(1,CallSpec.eq (s64 (openFr f true) 0) [true,true])]) [6] [] (Ak 1 (An (An (An (zr (AV.agg (cFrm (openFr f true)))) (An (zr (iv 0)) tv)) (An (t64 (openFr f true) (0)) (An (An (o2 hpre y1) (An (by decide:Int.ofNat 0<=Int.ofNat 0) (by decide:Int.ofNat 0<=Int.ofNat 1000))) (Ak 1 (fun (i2:Env)=>tv))))) (Ak 1 tv))) ?_
  refine swp_seq ?_
  refine swp_seq ?_
  refine zR [6,18] [] (Ak 2 tv) ?_
  refine zI (!Option.isSome (wholeP (openFr f true) 0)) (fun y3 => ?_) (fun y3 => ?_)
  ·refine swp_seq ?_
   refine zR [2,3] [] (Ak 2 tv) ?_
   refine swp_ret ?_
   exact zT [] (An (Ak 2 tv) (An (An (An (ci (o3 hpre y1 y3)) (zr nilN)) (An (An (ci (o4 hpre y1 y3)) (zr nilN)) tv)) (An (zr true) (An (zr true) (zr true)))))
  ·refine swp_skip ?_
   refine swp_seq ?_
   refine zR [2,3] [] (Ak 1 (An (o5 hpre y1 y3) (An (o6 hpre y1 y3) (Ak 3 tv)))) ?_
   refine swp_ret ?_
   exact zT [] (An (Ak 2 tv) (An (An (An (ci (o7 hpre y1 y3)) (zr nilN)) (An (An (ci (o8 hpre y1 y3)) (zr nilN)) tv)) (An (zr true) (An (zr true) (zr true)))))
theorem t26 (f:Frm):Triple Try.prog 26 (s26 f):=by
 apply w26
 all_goals (try delta q3f q3g)
 all_goals (first | ((repeat intro _) <;> (try simp only [Bool.cond_true_left,Bool.cond_false_right,Bool.not_not,Bool.not_eq_true',Bool.not_eq_false',Bool.or_eq_true,Bool.or_eq_false_iff,Bool.and_eq_true,decide_eq_true_eq,decide_eq_false_iff_not,inI,big,fitsF,smallF,goodL] at *) <;> first | (exact rfl) | omega | (exact ⟨Nat.zero_le _,fun j hj=>absurd hj (Nat.not_lt_zero j)⟩) | (simp_all; done) | (simp_all; omega)) | skip)
 all_goals (intro hp h)
 case o0 | o1=>have e:=gate_bad h; rw [Bool.and_true] at e; simp [stripsN,stripsE,openF,e]
 all_goals (obtain ⟨e1,_,e2,e3,e4⟩:=gate_ok h)
 case o2=>rw [e2]; exact e3
 all_goals (intro h2; rw [e2] at h2)
 case o3 | o4=>have:=lay_none h2; simp [stripsN,stripsE,e1,this,layM]
 case o7=>rw [e2]; simp [stripsN,e1]
 case o8=>simp [stripsE,e1,lay_some h2]
abbrev q3h (f:Frm) (Pq:Prop):Prop:=smallF f->(!decide (openF f true=0))=false->Pq
abbrev q3i (f:Frm) (Pq:Prop):Prop:=q3h f ((!Option.isSome (wholeP (openFr f true) 0))=false->Pq)
theorem w27 (f:Frm)
 (o0:smallF f->(!decide (openF f true=0))=true->(lockR f).length=0)
 (o1:smallF f->(!decide (openF f true=0))=true->openF f true=stripsE f)
 (o2:q3h f (Sound (openFr f true)))
 (o3:q3h f ((!Option.isSome (wholeP (openFr f true) 0))=true->(lockR f).length=0))
 (o4:q3h f ((!Option.isSome (wholeP (openFr f true) 0))=true->3=stripsE f))
 (o5:q3i f (Option.isSome (wholeP (openFr f true) 0)=true))
 (o6:q3i f (Option.isSome (wholeP (openFr f true) 0)=true))
 (o7:q3i f ((layS (wholeP (openFr f true) 0)).length=(lockR f).length))
 (o8:q3i f (∀ (i4:Nat),i4 < (lockR f).length -> [aInts ((layS (wholeP (openFr f true) 0)).getD i4 [])] = [aInts ((lockR f).getD i4 [])]))
 (o9:q3i f (0=stripsE f)) :
  Triple Try.prog 27 (s27 f):=by
 refine triple_of Try.func27 rfl Try.call27 T0_ok _ rfl rfl rfl rfl (Nat.le_of_ble_eq_true (by kernel_rfl)) (fun _ _ _ _ h=>h) ?_
 intro hpre C hC _ hE
 obtain ⟨P,w0,E0,av,hA,ro,df⟩:=C
 obtain ⟨rfl,rfl,rfl⟩:=hC
 refine swp_seq ?_
 refine zR [1] [0] (Ak 3 tv) ?_
 refine swp_seq ?_
 refine zC ([(1,CallSpec.eq (s63 f true) [true,true])]) [4,5] [64] (Ak 1 (An (An (An (zr (AV.agg (cFrm f))) (An (zr (bv true)) tv)) (An (t63 (f) (true)) (An hpre (Ak 1 (fun (i0:Env)=>tv))))) (Ak 6 tv))) ?_
 refine swp_seq ?_
 refine swp_seq ?_
 refine zR [4,5,13] [64] (Ak 2 tv) ?_
 refine zI (!decide (openF f true=0)) (fun y1 => ?_) (fun y1 => ?_)
 ·refine swp_seq ?_
  refine zR [2,3] [] (Ak 3 tv) ?_
  refine swp_ret ?_
  exact zT [] (An (Ak 2 tv) (An (An (o0 hpre y1) (An (An (ci (o1 hpre y1)) (zr nilN)) tv)) (An (zr true) (An (zr true) (zr true)))))
 ·refine swp_skip ?_
  refine swp_seq ?_
  refine zC ([(1,CallSpec.eq (s64 (openFr f true) 0) [true,true])]) [6] [] (Ak 1 (An (An (An (zr (AV.agg (cFrm (openFr f true)))) (An (zr (iv 0)) tv)) (An (t64 (openFr f true) (0)) (An (An (o2 hpre y1) (An (by decide:Int.ofNat 0<=Int.ofNat 0) (by decide:Int.ofNat 0<=Int.ofNat 1000))) (Ak 1 (fun (i2:Env)=>tv))))) (Ak 1 tv))) ?_
  refine swp_seq ?_
  refine swp_seq ?_
  refine zR [6,18] [] (Ak 2 tv) ?_
  refine zI (!Option.isSome (wholeP (openFr f true) 0)) (fun y3 => ?_) (fun y3 => ?_)
  ·refine swp_seq ?_
   refine zR [2,3] [] (Ak 2 tv) ?_
   refine swp_ret ?_
   exact zT [] (An (Ak 2 tv) (An (An (o3 hpre y1 y3) (An (An (ci (o4 hpre y1 y3)) (zr nilN)) tv)) (An (zr true) (An (zr true) (zr true)))))
  ·refine swp_skip ?_
   refine swp_seq ?_
   refine zR [2,3] [] (Ak 1 (An (o5 hpre y1 y3) (An (o6 hpre y1 y3) (Ak 3 tv)))) ?_
   refine swp_ret ?_
   exact zT [] (An (Ak 2 tv) (An (An (An (zr 1) (An (o7 hpre y1 y3) (fun (i4:Nat)=>(fun (y5:i4 < (lockR f).length)=>(o8 hpre y1 y3 i4 y5))))) (An (An (ci (o9 hpre y1 y3)) (zr nilN)) tv)) (An (zr true) (An (zr true) (zr true)))))
theorem t27 (f:Frm):Triple Try.prog 27 (s27 f):=by
 apply w27
 all_goals (try delta q3h q3i)
 all_goals (first | ((repeat intro _) <;> (try simp only [Bool.cond_true_left,Bool.cond_false_right,Bool.not_not,Bool.not_eq_true',Bool.not_eq_false',Bool.or_eq_true,Bool.or_eq_false_iff,Bool.and_eq_true,decide_eq_true_eq,decide_eq_false_iff_not,inI,big,fitsF,smallF,goodL] at *) <;> first | (exact rfl) | omega | (exact ⟨Nat.zero_le _,fun j hj=>absurd hj (Nat.not_lt_zero j)⟩) | (simp_all; done) | (simp_all; omega)) | skip)
 all_goals (intro hp h)
 case o0 | o1=>have e:=gate_bad h; rw [Bool.and_true] at e; simp [lockR,stripsE,openF,e]
 all_goals (obtain ⟨e1,_,e2,e3,e4⟩:=gate_ok h)
 case o2=>rw [e2]; exact e3
 all_goals (intro h2; rw [e2] at h2)
 case o3 | o4=>have:=lay_none h2; simp [lockR,stripsE,e1,this,layS]
 case o7=>rw [e2]; simp [lockR,e1]
 case o8=>intro i _; rw [e2]; simp [lockR,e1]
 case o9=>simp [stripsE,e1,lay_some h2]
end Go.Ab
namespace Go.Sh
open Go.Ab
def cmpW (a b:Int):Int:=if a < b then -1 else if b < a then 1 else 0
def cmpL:List Int->List Int->Int
 | [],[]=>0
 | [],_ :: _ => -1
 | _ :: _,[]=>1
 | x :: xs,y :: ys=>if cmpW x y=0 then cmpL xs ys else cmpW x y
end Go.Sh
namespace Go.Ab
open Go Go.RowKit Go.Proofs Go.Sh Go.En
def s136 (a:Int):CallSpec:={ args:=[iv a],res:=bv false }
def s114 (a b:Int):CallSpec:={ args:=[iv a,iv b],res:=iv (cmpW a b) }
def s82 (a b:List Int):CallSpec:={ args:=[aInts a,aInts b],res:=iv (cmpL a b),pre:=a.length<=65536/\b.length<=65536 }
def h82 (a b:List Int):Hint:={ X:=Nat,M:=fun i=>[(11,iv i)],I:=fun i=>i<=a.length/\i<=b.length /\ ∀ j,j < i->a.getD j 0=b.getD j 0,mu:=fun i=>a.length - i,x0:=(0:Nat),nx:=fun i=>i + 1 }
end Go.Ab
namespace Go.Sh
open Go.Ab
variable {f:Frm}
theorem cmpW_zero {a b:Int} (h:cmpW a b=0):a=b:=by
 unfold cmpW at h
 split at h
 ·cases h
 ·split at h
  ·cases h
  ·omega
theorem cmpW_same (a:Int):cmpW a a=0:=by unfold cmpW; rw [if_neg (by omega),if_neg (by omega)]
theorem cmpL_at:∀ (i:Nat) (a b:List Int),i<=a.length->i<=b.length->(∀ j,j < i->a.getD j 0=b.getD j 0)->cmpL a b=cmpL (a.drop i) (b.drop i):=by
 intro i
 induction i with
 | zero=>intro a b _ _ _; rfl
 | succ i ih =>
  intro a b ha hb h
  match a,b,ha,hb,h with
  | x :: xs,y :: ys,ha,hb,h =>
   have e:x=y:=h 0 (Nat.succ_pos _)
   subst e
   rw [cmpL,if_pos (cmpW_same x)]
   exact ih xs ys (Nat.le_of_succ_le_succ ha) (Nat.le_of_succ_le_succ hb) (fun j hj=>h (j + 1) (Nat.succ_lt_succ hj))
theorem dropI_cons {l:List Int} {i:Nat} (h:i < l.length):l.drop i=l.getD i 0 :: l.drop (i + 1):=by
 rw [List.drop_eq_getElem_cons h,getD_lt _ _ h]
theorem dropI_nil {l:List Int} {i:Nat} (h:l.length<=i):l.drop i = []:=List.drop_eq_nil_of_le h
end Go.Sh
namespace Go.Ab
open Go Go.RowKit Go.Proofs Go.Sh Go.En
theorem w136 (a:Int)
  (o0:(!decide (a=a))=false) :
  Triple Try.prog 136 (s136 a):=by
 refine triple_of Try.func136 rfl Try.call136 T0_ok _ rfl rfl rfl rfl (Nat.le_of_ble_eq_true (by kernel_rfl)) (fun _ _ _ _ h=>h) ?_
 intro _ C hC _ hE
 obtain ⟨P,w0,E0,av,hA,ro,df⟩:=C
 obtain ⟨rfl,rfl,rfl⟩:=hC
 refine swp_seq ?_
 refine zR [0] [] (Ak 1 tv) ?_
 refine swp_seq ?_
 refine zR [2] [] (Ak 4 tv) ?_
 refine swp_ret ?_
 exact zT [] (An (Ak 1 tv) (An (An (cb (o0)) (zr nilN)) (An (zr true) (An (zr true) (zr true)))))
theorem t136 (a:Int):Triple Try.prog 136 (s136 a):=by
 apply w136
 all_goals simp
theorem w114 (a:Int) (b:Int)
  (o0:decide (a < b)=true -> -1=cmpW a b)
  (o1:decide (a < b)=false->decide (b < a)=true->1=cmpW a b)
  (o2:decide (a < b)=false->decide (b < a)=false->0=cmpW a b) :
  Triple Try.prog 114 (s114 a b):=by
 refine triple_of Try.func114 rfl Try.call114 T0_ok _ rfl rfl rfl rfl (Nat.le_of_ble_eq_true (by kernel_rfl)) (fun _ _ _ _ h=>h) ?_
 intro _ C hC _ hE
 obtain ⟨P,w0,E0,av,hA,ro,df⟩:=C
 obtain ⟨rfl,rfl,rfl⟩:=hC
 refine swp_seq ?_
 refine zR [0,1] [] (Ak 1 tv) ?_
 refine swp_seq ?_
 refine zC ([(1,CallSpec.eq (s136 a) [true])]) [0,1,5] [] (Ak 1 (An (An (An (zr (iv a)) tv) (An (t136 (a)) (Ak 2 (fun (i0:Env)=>tv)))) (Ak 1 tv))) ?_
 refine swp_seq ?_
 refine zC ([(1,CallSpec.eq (s136 b) [true])]) [0,1,5,6] [] (Ak 1 (An (An (An (zr (iv b)) tv) (An (t136 (b)) (Ak 2 (fun (i1:Env)=>tv)))) (Ak 1 tv))) ?_
 refine swp_seq ?_
 refine swp_seq ?_
 refine zR [0,1,6,11] [] (Ak 1 tv) ?_
 refine zf ?_
 refine swp_skip ?_
 refine swp_seq ?_
 refine swp_seq ?_
 refine zR [0,1,13] [] (Ak 1 tv) ?_
 refine zf ?_
 refine swp_skip ?_
 refine swp_seq ?_
 refine swp_seq ?_
 refine zR [0,1,16] [] (Ak 3 tv) ?_
 refine zI (decide (a < b)) (fun y2 => ?_) (fun y2 => ?_)
 ·refine swp_seq ?_
  refine zR [4] [] (Ak 1 tv) ?_
  refine swp_ret ?_
  exact zT [] (An (Ak 1 tv) (An (An (ci (o0 y2)) (zr nilN)) (An (zr true) (An (zr true) (zr true)))))
 ·refine swp_skip ?_
  refine swp_seq ?_
  refine swp_seq ?_
  refine zR [19] [] (Ak 3 tv) ?_
  refine zI (decide (b < a)) (fun y3 => ?_) (fun y3 => ?_)
  ·refine swp_seq ?_
   refine zR [4] [] (Ak 1 tv) ?_
   refine swp_ret ?_
   exact zT [] (An (Ak 1 tv) (An (An (ci (o1 y2 y3)) (zr nilN)) (An (zr true) (An (zr true) (zr true)))))
  ·refine swp_skip ?_
   refine swp_seq ?_
   refine zR [4] [] (Ak 1 tv) ?_
   refine swp_ret ?_
   exact zT [] (An (Ak 1 tv) (An (An (ci (o2 y2 y3)) (zr nilN)) (An (zr true) (An (zr true) (zr true)))))
theorem t114 (a b:Int):Triple Try.prog 114 (s114 a b):=by
 apply w114
 all_goals (intros; simp_all [cmpW])
 all_goals (rw [if_neg (by omega),if_neg (by omega)])
abbrev q3j (a:List Int) (b:List Int) (Pq:Prop):Prop:=a.length<=65536/\b.length<=65536->Pq
abbrev q3k (a:List Int) (b:List Int) (x0:Nat) (Pq:Prop):Prop:=(x0<=a.length/\x0<=b.length /\ ∀ (j:Nat),j < x0->a.getD j 0=b.getD j 0)->Pq
abbrev q3l (a:List Int) (b:List Int) (x0:Nat) (Pq:Prop):Prop:=q3k a b x0 (decide ((x0:Int) < (↑(a.length):Int))=true->Pq)
abbrev q3m (a:List Int) (b:List Int) (x0:Nat) (Pq:Prop):Prop:=q3l a b x0 (decide ((↑(b.length):Int)<=(x0:Int))=false->Pq)
abbrev q3n (a:List Int) (b:List Int) (x0:Nat) (Pq:Prop):Prop:=q3m a b x0 ((!decide (cmpW (a.getD x0 0) (b.getD x0 0)=0))=false->Pq)
theorem w82 (a:List Int) (b:List Int)
 (o0:q3j a b (0=(↑0:Int)))
 (o1:q3j a b (0<=a.length/\0<=b.length /\ ∀ (j:Nat),j < 0->a.getD j 0=b.getD j 0))
 (o2:q3j a b (∀ (x0:Nat),q3l a b x0 (0<=(x0:Int))))
 (o3:q3j a b (∀ (x0:Nat),q3l a b x0 ((x0:Int) < (↑(a.length):Int))))
 (o4:q3j a b (∀ (x0:Nat),q3l a b x0 (decide ((↑(b.length):Int)<=(x0:Int))=true->1=cmpL a b)))
 (o5:q3j a b (∀ (x0:Nat),q3m a b x0 (0<=(x0:Int))))
 (o6:q3j a b (∀ (x0:Nat),q3m a b x0 ((x0:Int) < (↑(b.length):Int))))
 (o7:q3j a b (∀ (x0:Nat),q3m a b x0 ((!decide (cmpW (a.getD x0 0) (b.getD x0 0)=0))=true->cmpW (a.getD x0 0) (b.getD x0 0)=cmpL a b)))
 (o8:q3j a b (∀ (x0:Nat),q3n a b x0 (inI ((x0:Int) + 1))))
 (o9:q3j a b (∀ (x0:Nat),q3n a b x0 ((x0:Int) + 1=(↑(x0 + 1):Int))))
 (o10:q3j a b (∀ (x0:Nat),q3n a b x0 (x0 + 1<=a.length/\x0 + 1<=b.length /\ ∀ (j:Nat),j < x0 + 1->a.getD j 0=b.getD j 0)))
 (o11:q3j a b (∀ (x0:Nat),q3n a b x0 (a.length - (x0 + 1) < a.length - x0)))
 (o12:q3j a b (∀ (x0:Nat),q3k a b x0 (decide ((x0:Int) < (↑(a.length):Int))=false->decide ((↑(a.length):Int) < (↑(b.length):Int))=true -> -1=cmpL a b)))
 (o13:q3j a b (∀ (x0:Nat),q3k a b x0 (decide ((x0:Int) < (↑(a.length):Int))=false->decide ((↑(a.length):Int) < (↑(b.length):Int))=false->0=cmpL a b))) :
  Triple Try.prog 82 (s82 a b):=by
 refine triple_of Try.func82 rfl Try.call82 T0_ok _ rfl rfl rfl rfl (Nat.le_of_ble_eq_true (by kernel_rfl)) (fun _ _ _ _ h=>h) ?_
 intro hpre C hC _ hE
 obtain ⟨P,w0,E0,av,hA,ro,df⟩:=C
 obtain ⟨rfl,rfl,rfl⟩:=hC
 refine swp_seq ?_
 refine zR [0,1] [] (Ak 1 tv) ?_
 refine swp_seq ?_
 refine swp_seq ?_
 refine zR [0,1,9,10,11] [] (Ak 3 tv) ?_
 refine swp_block ?_
 refine zL (Hint.ann (h82 a b) [(0,aInts a),(1,aInts b),(9,aInts a),(10,iv (↑(a.length):Int))] [] 10032) (zE hE [] [] [0,1,9,10] [] (An (An (An (zr (aInts a)) (zr true)) (An (An (zr (aInts b)) (zr true)) (An (An (zr (aInts a)) (zr true)) (An (An (zr (iv (↑(a.length):Int))) (zr true)) (An (An (ci (o0 hpre)) (zr nilN)) tv))))) (Ak 1 (An (zr true) (zr true))))) (o1 hpre) (fun (x0:Nat) hx0 => ?_)
 refine swp_seq ?_
 refine zR [0,1,9,10,11,12] [] (Ak 1 tv) ?_
 refine swp_seq ?_
 refine zI (decide ((x0:Int) < (↑(a.length):Int))) (fun y1 => ?_) (fun y1 => ?_)
 ·refine swp_skip ?_
  refine swp_seq ?_
  refine swp_block ?_
  refine swp_seq ?_
  refine zR [0,1,9,10,11,5,6] [] (Ak 1 (An (An (o2 hpre x0 hx0 y1) (o3 hpre x0 hx0 y1)) (Ak 3 tv))) ?_
  refine swp_seq ?_
  refine swp_seq ?_
  refine zR [0,1,9,10,11,5,6,19] [] (Ak 4 tv) ?_
  refine zI (decide ((↑(b.length):Int)<=(x0:Int))) (fun y2 => ?_) (fun y2 => ?_)
  ·refine swp_seq ?_
   refine zR [4] [] (Ak 1 tv) ?_
   refine swp_ret ?_
   exact zT [] (An (Ak 1 tv) (An (An (ci (o4 hpre x0 hx0 y1 y2)) (zr nilN)) (An (zr true) (An (zr true) (zr true)))))
  ·refine swp_skip ?_
   refine swp_seq ?_
   refine zR [0,1,9,10,11,6,7] [] (Ak 2 (An (An (o5 hpre x0 hx0 y1 y2) (o6 hpre x0 hx0 y1 y2)) (Ak 2 tv))) ?_
   refine swp_seq ?_
   refine zC ([(2,CallSpec.eq (s114 (a.getD x0 0) (b.getD x0 0)) [true,true])]) [0,1,9,10,11,8] [] (Ak 2 (An (An (An (zr (iv (a.getD x0 0))) (An (zr (iv (b.getD x0 0))) tv)) (An (t114 (a.getD x0 0) (b.getD x0 0)) (Ak 2 (fun (i3:Env)=>tv)))) (Ak 1 tv))) ?_
   refine swp_seq ?_
   refine zR [0,1,9,10,11,8,28] [] (Ak 2 tv) ?_
   refine zI (!decide (cmpW (a.getD x0 0) (b.getD x0 0)=0)) (fun y4 => ?_) (fun y4 => ?_)
   ·refine swp_seq ?_
    refine zR [4] [] (Ak 2 tv) ?_
    refine swp_ret ?_
    exact zT [] (An (Ak 1 tv) (An (An (ci (o7 hpre x0 hx0 y1 y2 y4)) (zr nilN)) (An (zr true) (An (zr true) (zr true)))))
   ·refine swp_skip ?_
    refine zR [0,1,9,10,11] [] (An (o8 hpre x0 hx0 y1 y2 y4) (Ak 1 tv)) ?_
    exact zn (zE hE [] [] [0,1,9,10] [] (An (An (An (zr (aInts a)) (zr true)) (An (An (zr (aInts b)) (zr true)) (An (An (zr (aInts a)) (zr true)) (An (An (zr (iv (↑(a.length):Int))) (zr true)) (An (An (ci (o9 hpre x0 hx0 y1 y2 y4)) (zr nilN)) tv))))) (Ak 1 (An (zr true) (zr true))))) (o10 hpre x0 hx0 y1 y2 y4) (o11 hpre x0 hx0 y1 y2 y4)
 ·refine swp_exit ?_
  refine swp_seq ?_
  refine swp_seq ?_
  refine zR [35] [] (Ak 5 tv) ?_
  refine zI (decide ((↑(a.length):Int) < (↑(b.length):Int))) (fun y5 => ?_) (fun y5 => ?_)
  ·refine swp_seq ?_
   refine zR [4] [] (Ak 1 tv) ?_
   refine swp_ret ?_
   exact zT [] (An (Ak 1 tv) (An (An (ci (o12 hpre x0 hx0 y1 y5)) (zr nilN)) (An (zr true) (An (zr true) (zr true)))))
  ·refine swp_skip ?_
   refine swp_seq ?_
   refine zR [4] [] (Ak 1 tv) ?_
   refine swp_ret ?_
   exact zT [] (An (Ak 1 tv) (An (An (ci (o13 hpre x0 hx0 y1 y5)) (zr nilN)) (An (zr true) (An (zr true) (zr true)))))
theorem t82 (a b:List Int):Triple Try.prog 82 (s82 a b):=by
 apply w82
 all_goals (try delta q3j q3k q3l q3m q3n)
 case o0=>intros; rfl
 case o1=>exact fun _=>⟨Nat.zero_le _,Nat.zero_le _,fun j hj=>absurd hj (Nat.not_lt_zero _)⟩
 all_goals (intro hp x hx hl; obtain ⟨h1,h2,h3⟩:=hx; simp only [decide_eq_true_eq,decide_eq_false_iff_not] at hl; have e:=cmpL_at x a b h1 h2 h3)
 case o2=>omega
 case o3=>exact hl
 case o4 =>
  intro h; simp only [decide_eq_true_eq] at h
  rw [e,dropI_cons (l:=a) (by omega),dropI_nil (l:=b) (by omega)]; rfl
 case o12 =>
  intro h; simp only [decide_eq_true_eq] at h
  rw [e,dropI_cons (l:=b) (by omega),dropI_nil (l:=a) (by omega)]; rfl
 case o13 =>
  intro h; simp only [decide_eq_false_iff_not] at h
  rw [e,dropI_nil (l:=a) (by omega),dropI_nil (l:=b) (by omega)]; rfl
 all_goals (intro h; simp only [decide_eq_false_iff_not] at h)
 case o5=>omega
 case o6=>omega
 all_goals (intro h4)
 case o7 =>
  rw [e,dropI_cons (l:=a) (by omega),dropI_cons (l:=b) (by omega),cmpL,if_neg (by simpa using h4)]
 case o8=>exact ⟨by omega,by omega⟩
 case o9=>rfl
 case o10 =>
  simp only [Bool.not_eq_false',decide_eq_true_eq] at h4
  exact ⟨by omega,by omega,lt_succ_cases h3 (cmpW_zero h4)⟩
 case o11=>omega
end Go.Ab
namespace Go.Ab
open Go Go.RowKit Go.Proofs Go.Sh Go.En
def focM1:CallSpec:={ args:=[],res := .any }
def s66a (s:Shop) (add:List Int):CallSpec:={ args:=[vShop s,.clo 67 [.rp [aInts add]]],res := .tup [vShop s,iv (openM s (isAddM s add))],pre:=fitsM s/\add.length<=big }
def s66b (s:Shop) (add:List Int):CallSpec:={ args:=[vShop s,.clo 73 [.rp [aInts add]]],res := .tup [vShop s,iv (openM s (isAddM s add))],pre:=fitsM s/\add.length<=big }
def s66n (s:Shop):CallSpec:={ args:=[vShop s,.lit .nilFunc],res := .tup [vShop s,iv (openM s true)],pre:=fitsM s }
def c66n (s:Shop):CallSpec:={ args:=[vShop s],res:=bv true }
def s30 (s:Shop) (add:List Int):CallSpec:={ args:=[vShop s,aInts add],res := .tup [iv (safeN s add),iv (openM s (isAddM s add))],pre:=fitsM s/\add.length<=big }
def c30o (s:Shop) (add:List Int):CallSpec:=s66a s add
def c30s (s:Shop) (add:List Int):CallSpec:=s70 s (afterM s add)
def c30a (s:Shop) (add:List Int):CallSpec:=s72 s.tinP (afterM s add).pounds
def c30b (s:Shop) (add:List Int):CallSpec:=s71 (afterM s add).tin (justM s.tinP (afterM s add).pounds)
def c30c (s:Shop) (add:List Int):CallSpec:=s72 s.antiP (afterM s add).pounds
def c30d (s:Shop) (add:List Int):CallSpec:=s71 (afterM s add).anti (justM s.antiP (afterM s add).pounds)
def s31 (s:Shop) (add:List Int):CallSpec:={ args:=[vShop s,aInts add],res := .tup [vSpan (leadS s add),iv (leadE s add)],pre:=fitsM s/\add.length<=big }
def h31 (s:Shop) (add:List Int):Hint:={ X:=Nat,M:=fun k=>[(9,.ptr 5000 [])],H:=fun k=>[(128,.cells 51 (cSpan (leadTo s add k))),(5000,.cells 53 (cPot (leadP (afterM s add) k)))],I:=fun k=>k<=leadN s add,mu:=fun k=>leadN s add - k,x0:=(0:Nat),nx:=fun k=>k + 1 }
def c31o (s:Shop) (add:List Int):CallSpec:=s66b s add
def c31s (s:Shop) (add:List Int) (k:Nat):CallSpec:=s70 s (leadP (afterM s add) k)
end Go.Ab
