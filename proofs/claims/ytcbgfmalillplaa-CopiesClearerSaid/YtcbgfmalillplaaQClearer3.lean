/- Part 3 of the proof: own library, plain forms and walks. -/
import Derived.Test.YtcbgfmalillplaaQClearer2
set_option linter.all false
set_option linter.deprecated false
namespace Go.Ab
open Go Go.RowKit Go.Proofs Go.Sh Go.En
theorem w24 (n:Int) (lo:Int) (hi:Int)
  (o0:(bif decide (lo<=n) then decide (n<=hi) else false)=within n lo hi) :
  Triple Try.prog 24 (s24 n lo hi):=by
 refine triple_of Try.func24 rfl Try.call24 T0_ok _ rfl rfl rfl rfl (Nat.le_of_ble_eq_true (by kernel_rfl)) (fun _ _ _ _ h=>h) ?_
 intro _ C hC _ hE
 obtain ⟨P,w0,E0,av,hA⟩:=C
 subst hC
 refine swp_seq ?_
 refine sR (kt:=[0,1,2]) (kh:=[]) (q:=True/\True) (st':=ASt.mk [(0,iv n),(1,iv lo),(2,iv hi)] [] 8) (by kernel_rfl) ⟨tv,tv⟩ ?_
 refine swp_seq ?_
 refine sR (kt:=[6]) (kh:=[]) (q:=True/\True/\True/\True/\(decide (lo<=n)=true->(True/\True)/\True)/\(decide (lo<=n)=true->(True/\True)/\True)/\(decide (lo<=n)=true->((decide (lo<=n)=true->decide (lo<=n)=true)/\(decide (lo<=n)=true->decide (lo<=n)=true)/\True)/\True)/\((decide (lo<=n)=true->decide (lo<=n)=true)/\(decide (lo<=n)=false->True))/\True/\True) (st':=ASt.mk [(6,bv (bif decide (lo<=n) then decide (n<=hi) else false))] [] 80) (by kernel_rfl) ⟨tv,tv,tv,tv,(fun h0=>⟨⟨tv,tv⟩,tv⟩),(fun h1=>⟨⟨tv,tv⟩,tv⟩),(fun h2=>⟨⟨(fun h3=>h2),(fun h4=>h2),tv⟩,tv⟩),⟨(fun h5=>h5),(fun h6=>tv)⟩,tv,tv⟩ ?_
 refine swp_ret ?_
 exact ret_q [] ((True/\True)/\(bv (bif decide (lo<=n) then decide (n<=hi) else false)=bv (within n lo hi)/\nilN = [])/\T3) (by kernel_rfl) ⟨⟨tv,tv⟩,⟨(congrArg bv (o0)),rfl⟩,rfl,rfl,rfl⟩
theorem t24 (n lo hi:Int):Triple Try.prog 24 (s24 n lo hi):=by
 refine w24 n lo hi ?_
 unfold within; cases decide (lo<=n) <;> rfl
abbrev q51_1 (l:List Int) (n:Int) (C:Nat->Prop):Prop:=l.length<=1125899906842624 -> ∀ (x0:Nat),x0<=l.length/\isIn (List.take x0 l) n=false->decide ((x0:Int) < (↑(l.length):Int))=true->C x0
abbrev q51_2 (l:List Int) (n:Int) (C:Nat->Prop):Prop:=q51_1 l n fun x0=>decide (l.getD x0 0=n)=false->C x0
theorem w51 (l:List Int) (n:Int)
 (o0:List.length l<=1125899906842624->0=(↑0:Int))
 (o1:l.length<=1125899906842624->0<=l.length/\isIn (List.take 0 l) n=false)
 (o2:q51_1 l n fun x0=>0<=(x0:Int))
 (o3:q51_1 l n fun x0=>(x0:Int) < (↑(l.length):Int))
 (o4:q51_1 l n fun x0=>decide (l.getD x0 0=n)=true->true=isIn l n)
 (o5:q51_2 l n fun x0=>inI ((x0:Int) + 1))
 (o6:q51_2 l n fun x0=>(x0:Int) + 1=(↑(x0 + 1):Int))
 (o7:q51_2 l n fun x0=>x0 + 1<=l.length/\isIn (List.take (x0 + 1) l) n=false)
 (o8:q51_2 l n fun x0=>l.length - (x0 + 1) < l.length - x0)
 (o9:l.length<=1125899906842624 -> ∀ (x0:Nat),x0<=l.length/\isIn (List.take x0 l) n=false->decide ((x0:Int) < (↑(l.length):Int))=false->false=isIn l n) :
  Triple Try.prog 51 (s51 l n):=by
 refine triple_of Try.func51 rfl Try.call51 T0_ok _ rfl rfl rfl rfl (Nat.le_of_ble_eq_true (by kernel_rfl)) (fun _ _ _ _ h=>h) ?_
 intro hp C hC _ hE
 obtain ⟨P,w0,E0,av,hA⟩:=C
 subst hC
 refine swp_seq ?_
 refine sR (kt:=[0,1]) (kh:=[]) (q:=True/\True) (st':=ASt.mk [(0,aInts l),(1,iv n)] [] 8) (by kernel_rfl) ⟨tv,tv⟩ ?_
 refine swp_seq (swp_seq ?_)
 refine sR (kt:=[0,1,5]) (kh:=[]) (q:=True/\True) (st':=ASt.mk [(0,aInts l),(1,iv n),(5,iv 0)] [] 16) (by kernel_rfl) ⟨tv,tv⟩ ?_
 refine swp_block ?_
 refine swp_loopA (Hint.ann (h51 l n) [(0,aInts l),(1,iv n)] [] 10016) (ent_q hE [] [] [0,1] [] (((aInts l=aInts l/\true=true)/\(iv n=iv n/\true=true)/\(iv 0=iv (↑0:Int)/\nilN = [])/\True)/\True/\T2) (by kernel_rfl) (by kernel_rfl) ⟨⟨⟨rfl,rfl⟩,⟨rfl,rfl⟩,⟨(congrArg iv (o0 hp)),rfl⟩,tv⟩,tv,rfl,rfl⟩) (o1 hp) (fun (x0:Nat) hx0 => ?_)
 refine swp_seq (swp_seq ?_)
 refine sR (kt:=[0,1,5,9]) (kh:=[]) (q:=True/\True/\True/\True/\True) (st':=ASt.mk [(0,aInts l),(1,iv n),(5,iv (x0:Int)),(9,bv (decide ((x0:Int) < (↑(l.length):Int))))] [] 10048) (by kernel_rfl) ⟨tv,tv,tv,tv,tv⟩ ?_
 refine swp_cond (decide ((x0:Int) < (↑(l.length):Int))) (by kernel_rfl) (fun h1 => ?_) (fun h1 => ?_)
 ·refine swp_skip (swp_seq (swp_block (swp_seq ?_)))
  refine sR (kt:=[0,1,5,17]) (kh:=[]) (q:=True/\True/\(0<=(x0:Int)/\(x0:Int) < (↑(l.length):Int))/\True/\True/\True/\True) (st':=ASt.mk [(0,aInts l),(1,iv n),(5,iv (x0:Int)),(17,bv (decide (l.getD x0 0=n)))] [] 10096) (by kernel_rfl) ⟨tv,tv,⟨(o2 hp x0 hx0 h1),(o3 hp x0 hx0 h1)⟩,tv,tv,tv,tv⟩ ?_
  refine swp_cond (decide (l.getD x0 0=n)) (by kernel_rfl) (fun h2 => ?_) (fun h2 => ?_)
  ·refine swp_seq ?_
   refine sR (kt:=[4]) (kh:=[]) (q:=True/\True) (st':=ASt.mk [(4,bv true)] [] 10104) (by kernel_rfl) ⟨tv,tv⟩ ?_
   refine swp_ret ?_
   exact ret_q [] ((True/\True)/\(bv true=bv (isIn l n)/\nilN = [])/\T3) (by kernel_rfl) ⟨⟨tv,tv⟩,⟨(congrArg bv (o4 hp x0 hx0 h1 h2)),rfl⟩,rfl,rfl,rfl⟩
  ·refine swp_skip ?_
   refine sR (kt:=[0,1,5]) (kh:=[]) (q:=True/\inI ((x0:Int) + 1)/\True/\True) (st':=ASt.mk [(0,aInts l),(1,iv n),(5,iv ((x0:Int) + 1))] [] 10120) (by kernel_rfl) ⟨tv,(o5 hp x0 hx0 h1 h2),tv,tv⟩ ?_
   exact loop_next (Hint.ann (h51 l n) [(0,aInts l),(1,iv n)] [] 10016) x0 (ent_q hE [] [] [0,1] [] (((aInts l=aInts l/\true=true)/\(iv n=iv n/\true=true)/\(iv ((x0:Int) + 1)=iv (↑(x0 + 1):Int)/\nilN = [])/\True)/\True/\T2) (by kernel_rfl) (by kernel_rfl) ⟨⟨⟨rfl,rfl⟩,⟨rfl,rfl⟩,⟨(congrArg iv (o6 hp x0 hx0 h1 h2)),rfl⟩,tv⟩,tv,rfl,rfl⟩) (o7 hp x0 hx0 h1 h2) (o8 hp x0 hx0 h1 h2)
 ·refine swp_exit (swp_seq ?_)
  refine sR (kt:=[4]) (kh:=[]) (q:=True/\True) (st':=ASt.mk [(4,bv false)] [] 10056) (by kernel_rfl) ⟨tv,tv⟩ ?_
  refine swp_ret ?_
  exact ret_q [] ((True/\True)/\(bv false=bv (isIn l n)/\nilN = [])/\T3) (by kernel_rfl) ⟨⟨tv,tv⟩,⟨(congrArg bv (o9 hp x0 hx0 h1)),rfl⟩,rfl,rfl,rfl⟩
theorem t51 (l:List Int) (n:Int):Triple Try.prog 51 (s51 l n):=by
 apply w51
 case o1=>intro _; exact ⟨Nat.zero_le _,rfl⟩
 case o4 =>
  intro hp x hx h h2
  simp only [decide_eq_true_eq] at h
  exact (some_any l 0 _ (by omega) h2).symm
 case o7 =>
  intro hp x hx h h2
  simp only [decide_eq_true_eq] at h
  refine ⟨by omega,?_⟩
  rw [take_succ l 0 (by omega)]
  have h3:=hx.2
  unfold isIn at h3 ⊢
  rw [List.any_append,h3]; simpa using h2
 case o9 =>
  intro hp x hx h
  simp only [decide_eq_false_iff_not] at h
  have h3:=hx.2
  rw [List.take_of_length_le (by omega)] at h3
  exact h3.symm
 all_goals (try ((repeat intro _) <;> (try simp only [v0,v1,v2,v3,v4,v5,v6,v7,v8,v9,inI,fits,Go.Sh.small] at *) <;> first | (exact rfl) | omega | exact vz | (simp_all; done) | (simp_all; omega)))
abbrev q37_1 (a:List Int) (b:List Int) (C:Prop):Prop:=a.length<=1125899906842624->(!decide ((↑(a.length):Int)=(↑(b.length):Int)))=false->C
abbrev q37_2 (a:List Int) (b:List Int) (C:Nat->Prop):Prop:=q37_1 a b (∀ (x1:Nat),x1<=a.length/\List.take x1 a=List.take x1 b->decide ((x1:Int) < (↑(a.length):Int))=true->C x1)
abbrev q37_3 (a:List Int) (b:List Int) (C:Nat->Prop):Prop:=q37_2 a b fun x1=>(!decide (a.getD x1 0=b.getD x1 0))=false->C x1
theorem w37 (a:List Int) (b:List Int)
 (o0:a.length<=1125899906842624->(!decide ((↑(a.length):Int)=(↑(b.length):Int)))->false=sameInts a b)
 (o1:q37_1 a b (0=(↑0:Int)))
 (o2:q37_1 a b (0<=a.length/\List.take 0 a=List.take 0 b))
 (o3:q37_2 a b fun x1=>0<=(x1:Int))
 (o4:q37_2 a b fun x1=>(x1:Int) < (↑(a.length):Int))
 (o5:q37_2 a b fun x1=>0<=(x1:Int))
 (o6:q37_2 a b fun x1=>(x1:Int) < (↑(b.length):Int))
 (o7:q37_2 a b fun x1=>(!decide (a.getD x1 0=b.getD x1 0))->false=sameInts a b)
 (o8:q37_3 a b fun x1=>inI ((x1:Int) + 1))
 (o9:q37_3 a b fun x1=>(x1:Int) + 1=(↑(x1 + 1):Int))
 (o10:q37_3 a b fun x1=>x1 + 1<=a.length/\List.take (x1 + 1) a=List.take (x1 + 1) b)
 (o11:q37_3 a b fun x1=>a.length - (x1 + 1) < a.length - x1)
 (o12:q37_1 a b (∀ (x1:Nat),x1<=a.length/\List.take x1 a=List.take x1 b->decide ((x1:Int) < (↑(a.length):Int))=false->true=sameInts a b)) :
  Triple Try.prog 37 (s37 a b):=by
 refine triple_of Try.func37 rfl Try.call37 T0_ok _ rfl rfl rfl rfl (Nat.le_of_ble_eq_true (by kernel_rfl)) (fun _ _ _ _ h=>h) ?_
 intro hp C hC _ hE
 obtain ⟨P,w0,E0,av,hA⟩:=C
 subst hC
 refine swp_seq ?_
 refine sR (kt:=[0,1]) (kh:=[]) (q:=True/\True) (st':=ASt.mk [(0,aInts a),(1,aInts b)] [] 8) (by kernel_rfl) ⟨tv,tv⟩ ?_
 refine swp_seq (swp_seq ?_)
 refine sR (kt:=[0,1,10]) (kh:=[]) (q:=True/\True/\True/\True/\True/\True) (st':=ASt.mk [(0,aInts a),(1,aInts b),(10,bv !decide ((↑(a.length):Int)=(↑(b.length):Int)))] [] 48) (by kernel_rfl) ⟨tv,tv,tv,tv,tv,tv⟩ ?_
 refine swp_cond (!decide ((↑(a.length):Int)=(↑(b.length):Int))) (by kernel_rfl) (fun h0 => ?_) (fun h0 => ?_)
 ·refine swp_seq ?_
  refine sR (kt:=[4]) (kh:=[]) (q:=True/\True) (st':=ASt.mk [(4,bv false)] [] 56) (by kernel_rfl) ⟨tv,tv⟩ ?_
  refine swp_ret ?_
  exact ret_q [] ((True/\True)/\(bv false=bv (sameInts a b)/\nilN = [])/\T3) (by kernel_rfl) ⟨⟨tv,tv⟩,⟨(congrArg bv (o0 hp h0)),rfl⟩,rfl,rfl,rfl⟩
 ·refine swp_skip (swp_seq (swp_seq ?_))
  refine sR (kt:=[0,1,5]) (kh:=[]) (q:=True/\True) (st':=ASt.mk [(0,aInts a),(1,aInts b),(5,iv 0)] [] 56) (by kernel_rfl) ⟨tv,tv⟩ ?_
  refine swp_block ?_
  refine swp_loopA (Hint.ann (h37 a b) [(0,aInts a),(1,aInts b)] [] 10056) (ent_q hE [] [] [0,1] [] (((aInts a=aInts a/\true=true)/\(aInts b=aInts b/\true=true)/\(iv 0=iv (↑0:Int)/\nilN = [])/\True)/\True/\T2) (by kernel_rfl) (by kernel_rfl) ⟨⟨⟨rfl,rfl⟩,⟨rfl,rfl⟩,⟨(congrArg iv (o1 hp h0)),rfl⟩,tv⟩,tv,rfl,rfl⟩) (o2 hp h0) (fun (x1:Nat) hx1 => ?_)
  refine swp_seq (swp_seq ?_)
  refine sR (kt:=[0,1,5,14]) (kh:=[]) (q:=True/\True/\True/\True/\True) (st':=ASt.mk [(0,aInts a),(1,aInts b),(5,iv (x1:Int)),(14,bv (decide ((x1:Int) < (↑(a.length):Int))))] [] 10088) (by kernel_rfl) ⟨tv,tv,tv,tv,tv⟩ ?_
  refine swp_cond (decide ((x1:Int) < (↑(a.length):Int))) (by kernel_rfl) (fun h2 => ?_) (fun h2 => ?_)
  ·refine swp_skip (swp_seq (swp_block (swp_seq ?_)))
   refine sR (kt:=[0,1,5,25]) (kh:=[]) (q:=True/\True/\(0<=(x1:Int)/\(x1:Int) < (↑(a.length):Int))/\True/\True/\True/\(0<=(x1:Int)/\(x1:Int) < (↑(b.length):Int))/\True/\True/\True) (st':=ASt.mk [(0,aInts a),(1,aInts b),(5,iv (x1:Int)),(25,bv !decide (a.getD x1 0=b.getD x1 0))] [] 10160) (by kernel_rfl) ⟨tv,tv,⟨(o3 hp h0 x1 hx1 h2),(o4 hp h0 x1 hx1 h2)⟩,tv,tv,tv,⟨(o5 hp h0 x1 hx1 h2),(o6 hp h0 x1 hx1 h2)⟩,tv,tv,tv⟩ ?_
   refine swp_cond (!decide (a.getD x1 0=b.getD x1 0)) (by kernel_rfl) (fun h3 => ?_) (fun h3 => ?_)
   ·refine swp_seq ?_
    refine sR (kt:=[4]) (kh:=[]) (q:=True/\True) (st':=ASt.mk [(4,bv false)] [] 10168) (by kernel_rfl) ⟨tv,tv⟩ ?_
    refine swp_ret ?_
    exact ret_q [] ((True/\True)/\(bv false=bv (sameInts a b)/\nilN = [])/\T3) (by kernel_rfl) ⟨⟨tv,tv⟩,⟨(congrArg bv (o7 hp h0 x1 hx1 h2 h3)),rfl⟩,rfl,rfl,rfl⟩
   ·refine swp_skip ?_
    refine sR (kt:=[0,1,5]) (kh:=[]) (q:=True/\inI ((x1:Int) + 1)/\True/\True) (st':=ASt.mk [(0,aInts a),(1,aInts b),(5,iv ((x1:Int) + 1))] [] 10184) (by kernel_rfl) ⟨tv,(o8 hp h0 x1 hx1 h2 h3),tv,tv⟩ ?_
    exact loop_next (Hint.ann (h37 a b) [(0,aInts a),(1,aInts b)] [] 10056) x1 (ent_q hE [] [] [0,1] [] (((aInts a=aInts a/\true=true)/\(aInts b=aInts b/\true=true)/\(iv ((x1:Int) + 1)=iv (↑(x1 + 1):Int)/\nilN = [])/\True)/\True/\T2) (by kernel_rfl) (by kernel_rfl) ⟨⟨⟨rfl,rfl⟩,⟨rfl,rfl⟩,⟨(congrArg iv (o9 hp h0 x1 hx1 h2 h3)),rfl⟩,tv⟩,tv,rfl,rfl⟩) (o10 hp h0 x1 hx1 h2 h3) (o11 hp h0 x1 hx1 h2 h3)
  ·refine swp_exit (swp_seq ?_)
   refine sR (kt:=[4]) (kh:=[]) (q:=True/\True) (st':=ASt.mk [(4,bv true)] [] 10096) (by kernel_rfl) ⟨tv,tv⟩ ?_
   refine swp_ret ?_
   exact ret_q [] ((True/\True)/\(bv true=bv (sameInts a b)/\nilN = [])/\T3) (by kernel_rfl) ⟨⟨tv,tv⟩,⟨(congrArg bv (o12 hp h0 x1 hx1 h2)),rfl⟩,rfl,rfl,rfl⟩
theorem t37 (a b:List Int):Triple Try.prog 37 (s37 a b):=by
 apply w37
 case o0 =>
  intro hp h
  simp only [Bool.not_eq_true',decide_eq_false_iff_not] at h
  symm
  simp only [sameInts,decide_eq_false_iff_not]
  intro e; rw [e] at h; exact h rfl
 case o6=>intro hp h x hx hl; simp only [Bool.not_eq_false',decide_eq_true_eq] at *; omega
 case o7 =>
  intro hp h x hx hl h2
  simp only [Bool.not_eq_true',decide_eq_false_iff_not] at h2
  symm
  simp only [sameInts,decide_eq_false_iff_not]
  intro e; rw [e] at h2; exact h2 rfl
 case o10 =>
  intro hp h x hx hl h2
  simp only [Bool.not_eq_false',decide_eq_true_eq] at *
  refine ⟨by omega,?_⟩
  rw [take_succ a 0 (by omega),take_succ b 0 (by omega),hx.2,h2]
 case o12 =>
  intro hp h x hx hl
  simp only [Bool.not_eq_false',decide_eq_true_eq,decide_eq_false_iff_not] at *
  symm
  simp only [sameInts,decide_eq_true_eq]
  have h1:=hx.2
  rwa [List.take_of_length_le (by omega),List.take_of_length_le (by omega)] at h1
 all_goals (try ((repeat intro _) <;> (try simp only [v0,v1,v2,v3,v4,v5,v6,v7,v8,v9,inI,fits,Go.Sh.small] at *) <;> first | (exact rfl) | omega | exact vz | (simp_all; done) | (simp_all; omega)))
abbrev q52_1 (l:List Int) (lo:Int) (hi:Int) (C:Nat->Prop):Prop:=l.length<=1125899906842624 -> ∀ (x0:Nat),(x0<=l.length /\ ∀ (j:Nat),j < x0->risAt l lo hi j=true)->C x0
abbrev q52_2 (l:List Int) (lo:Int) (hi:Int) (C:Nat->Prop):Prop:=q52_1 l lo hi fun x0=>decide ((x0:Int) < (↑(l.length):Int))=true->C x0
abbrev q52_3 (l:List Int) (lo:Int) (hi:Int) (C:Nat->Prop):Prop:=q52_2 l lo hi fun x0=>(!!within (l.getD x0 0) lo hi && decide (0 < (x0:Int)))=true->C x0
abbrev q52_4 (l:List Int) (lo:Int) (hi:Int) (C:Nat->Prop):Prop:=q52_2 l lo hi fun x0=>(bif !within (l.getD x0 0) lo hi then true else bif decide (0 < (x0:Int)) then decide (l.getD x0 0<=l.getD ((x0:Int) - 1).toNat 0) else false)=false->C x0
theorem w52 (l:List Int) (lo:Int) (hi:Int)
 (o0:List.length l<=1125899906842624->0=(↑0:Int))
 (o1:l.length<=1125899906842624->0<=l.length /\ ∀ (j:Nat),j < 0->risAt l lo hi j=true)
 (o2:q52_2 l lo hi fun x0=>0<=(x0:Int))
 (o3:q52_2 l lo hi fun x0=>(x0:Int) < (↑(l.length):Int))
 (o4:q52_3 l lo hi fun x0=>0<=(x0:Int))
 (o5:q52_3 l lo hi fun x0=>(x0:Int) < (↑(l.length):Int))
 (o6:q52_3 l lo hi fun x0=>inI ((x0:Int) - 1))
 (o7:q52_3 l lo hi fun x0=>0<=(x0:Int) - 1)
 (o8:q52_3 l lo hi fun x0=>(x0:Int) - 1 < (↑(l.length):Int))
 (o9:q52_2 l lo hi fun x0=>(!!within (l.getD x0 0) lo hi)=true->decide (0 < (x0:Int))=true->(!!within (l.getD x0 0) lo hi && decide (0 < (x0:Int)))=true)
 (o10:q52_2 l lo hi fun x0=>(!within (l.getD x0 0) lo hi)=false->(!!within (l.getD x0 0) lo hi)=true)
 (o11:q52_2 l lo hi fun x0=>(bif !within (l.getD x0 0) lo hi then true else bif decide (0 < (x0:Int)) then decide (l.getD x0 0<=l.getD ((x0:Int) - 1).toNat 0) else false)=true->false=rising l lo hi)
 (o12:q52_4 l lo hi fun x0=>inI ((x0:Int) + 1))
 (o13:q52_4 l lo hi fun x0=>(x0:Int) + 1=(↑(x0 + 1):Int))
 (o14:q52_4 l lo hi fun x0=>x0 + 1<=l.length /\ ∀ (j:Nat),j < x0 + 1->risAt l lo hi j=true)
 (o15:q52_4 l lo hi fun x0=>l.length - (x0 + 1) < l.length - x0)
 (o16:q52_1 l lo hi fun x0=>decide ((x0:Int) < (↑(l.length):Int))=false->true=rising l lo hi) :
  Triple Try.prog 52 (s52 l lo hi):=by
 refine triple_of Try.func52 rfl Try.call52 T0_ok _ rfl rfl rfl rfl (Nat.le_of_ble_eq_true (by kernel_rfl)) (fun _ _ _ _ h=>h) ?_
 intro hp C hC _ hE
 obtain ⟨P,w0,E0,av,hA⟩:=C
 subst hC
 refine swp_seq ?_
 refine sR (kt:=[0,1,2]) (kh:=[]) (q:=True/\True) (st':=ASt.mk [(0,aInts l),(1,iv lo),(2,iv hi)] [] 8) (by kernel_rfl) ⟨tv,tv⟩ ?_
 refine swp_seq (swp_seq ?_)
 refine sR (kt:=[0,1,2,7]) (kh:=[]) (q:=True/\True) (st':=ASt.mk [(0,aInts l),(1,iv lo),(2,iv hi),(7,iv 0)] [] 16) (by kernel_rfl) ⟨tv,tv⟩ ?_
 refine swp_block ?_
 refine swp_loopA (Hint.ann (h52 l lo hi) [(0,aInts l),(1,iv lo),(2,iv hi)] [] 10016) (ent_q hE [] [] [0,1,2] [] (((aInts l=aInts l/\true=true)/\(iv lo=iv lo/\true=true)/\(iv hi=iv hi/\true=true)/\(iv 0=iv (↑0:Int)/\nilN = [])/\True)/\True/\T2) (by kernel_rfl) (by kernel_rfl) ⟨⟨⟨rfl,rfl⟩,⟨rfl,rfl⟩,⟨rfl,rfl⟩,⟨(congrArg iv (o0 hp)),rfl⟩,tv⟩,tv,rfl,rfl⟩) (o1 hp) (fun (x0:Nat) hx0 => ?_)
 refine swp_seq (swp_seq ?_)
 refine sR (kt:=[0,1,2,7,11]) (kh:=[]) (q:=True/\True/\True/\True/\True) (st':=ASt.mk [(0,aInts l),(1,iv lo),(2,iv hi),(7,iv (x0:Int)),(11,bv (decide ((x0:Int) < (↑(l.length):Int))))] [] 10048) (by kernel_rfl) ⟨tv,tv,tv,tv,tv⟩ ?_
 refine swp_cond (decide ((x0:Int) < (↑(l.length):Int))) (by kernel_rfl) (fun h1 => ?_) (fun h1 => ?_)
 ·refine swp_skip (swp_seq (swp_block (swp_seq ?_)))
  refine swp_region T0_ok mixed (cs:=[(6,CallSpec.eq (s24 (l.getD x0 0) lo hi) [true,true,true])]) (kt:=[0,1,2,7,37]) (kh:=[]) (q:=True/\True/\(0<=(x0:Int)/\(x0:Int) < (↑(l.length):Int))/\True/\True/\True/\((iv (l.getD x0 0)=iv (l.getD x0 0)/\iv lo=iv lo/\iv hi=iv hi/\True)/\Triple Try.prog 24 (s24 (l.getD x0 0) lo hi)/\True/\True /\ ∀ (i2:Env),True)/\True/\True/\((!!within (l.getD x0 0) lo hi)=true->(True/\True)/\True)/\((!!within (l.getD x0 0) lo hi)=true->(((!!within (l.getD x0 0) lo hi)=true->(!!within (l.getD x0 0) lo hi)=true)/\True/\True)/\True)/\((!!within (l.getD x0 0) lo hi)=true->(((!!within (l.getD x0 0) lo hi)=true->(!!within (l.getD x0 0) lo hi)=true)/\True)/\True)/\((!!within (l.getD x0 0) lo hi && decide (0 < (x0:Int)))=true->(True/\True)/\True)/\((!!within (l.getD x0 0) lo hi && decide (0 < (x0:Int)))=true->(True/\True)/\True)/\((!!within (l.getD x0 0) lo hi && decide (0 < (x0:Int)))=true->(((!!within (l.getD x0 0) lo hi && decide (0 < (x0:Int)))=true->(!!within (l.getD x0 0) lo hi && decide (0 < (x0:Int)))=true)/\((!!within (l.getD x0 0) lo hi && decide (0 < (x0:Int)))=true->(!!within (l.getD x0 0) lo hi && decide (0 < (x0:Int)))=true)/\True)/\0<=(x0:Int)/\(x0:Int) < (↑(l.length):Int))/\((!!within (l.getD x0 0) lo hi && decide (0 < (x0:Int)))=true->(((!!within (l.getD x0 0) lo hi && decide (0 < (x0:Int)))=true->(!!within (l.getD x0 0) lo hi && decide (0 < (x0:Int)))=true)/\True)/\True)/\((!!within (l.getD x0 0) lo hi && decide (0 < (x0:Int)))=true->(True/\True)/\True)/\((!!within (l.getD x0 0) lo hi && decide (0 < (x0:Int)))=true->(True/\True)/\True)/\((!!within (l.getD x0 0) lo hi && decide (0 < (x0:Int)))=true->(((!!within (l.getD x0 0) lo hi && decide (0 < (x0:Int)))=true->(!!within (l.getD x0 0) lo hi && decide (0 < (x0:Int)))=true)/\True/\True)/\inI ((x0:Int) - 1))/\((!!within (l.getD x0 0) lo hi && decide (0 < (x0:Int)))=true->(((!!within (l.getD x0 0) lo hi && decide (0 < (x0:Int)))=true->(!!within (l.getD x0 0) lo hi && decide (0 < (x0:Int)))=true)/\((!!within (l.getD x0 0) lo hi && decide (0 < (x0:Int)))=true->(!!within (l.getD x0 0) lo hi && decide (0 < (x0:Int)))=true)/\True)/\0<=(x0:Int) - 1/\(x0:Int) - 1 < (↑(l.length):Int))/\((!!within (l.getD x0 0) lo hi && decide (0 < (x0:Int)))=true->(((!!within (l.getD x0 0) lo hi && decide (0 < (x0:Int)))=true->(!!within (l.getD x0 0) lo hi && decide (0 < (x0:Int)))=true)/\True)/\True)/\((!!within (l.getD x0 0) lo hi && decide (0 < (x0:Int)))=true->(((!!within (l.getD x0 0) lo hi && decide (0 < (x0:Int)))=true->(!!within (l.getD x0 0) lo hi && decide (0 < (x0:Int)))=true)/\((!!within (l.getD x0 0) lo hi && decide (0 < (x0:Int)))=true->(!!within (l.getD x0 0) lo hi && decide (0 < (x0:Int)))=true)/\True)/\True)/\((!!within (l.getD x0 0) lo hi)=true->(((!!within (l.getD x0 0) lo hi)=true->(!!within (l.getD x0 0) lo hi)=true)/\True)/\(decide (0 < (x0:Int))=true->(!!within (l.getD x0 0) lo hi && decide (0 < (x0:Int)))=true)/\(decide (0 < (x0:Int))=false->True))/\(((!within (l.getD x0 0) lo hi)=true->True)/\((!within (l.getD x0 0) lo hi)=false->(!!within (l.getD x0 0) lo hi)=true))/\True) (st':=ASt.mk [(0,aInts l),(1,iv lo),(2,iv hi),(7,iv (x0:Int)),(37,bv (bif !within (l.getD x0 0) lo hi then true else bif decide (0 < (x0:Int)) then decide (l.getD x0 0<=l.getD ((x0:Int) - 1).toNat 0) else false))] [] 10240) (by kernel_rfl) ⟨tv,tv,⟨(o2 hp x0 hx0 h1),(o3 hp x0 hx0 h1)⟩,tv,tv,tv,⟨⟨rfl,rfl,rfl,tv⟩,(t24 (l.getD x0 0) (lo) (hi)),tv,tv,(fun i2=>tv)⟩,tv,tv,(fun h3=>⟨⟨tv,tv⟩,tv⟩),(fun h4=>⟨⟨(fun h5=>h4),tv,tv⟩,tv⟩),(fun h6=>⟨⟨(fun h7=>h6),tv⟩,tv⟩),(fun h8=>⟨⟨tv,tv⟩,tv⟩),(fun h9=>⟨⟨tv,tv⟩,tv⟩),(fun h10=>⟨⟨(fun h11=>h10),(fun h12=>h10),tv⟩,(o4 hp x0 hx0 h1 h10),(o5 hp x0 hx0 h1 h10)⟩),(fun h13=>⟨⟨(fun h14=>h13),tv⟩,tv⟩),(fun h15=>⟨⟨tv,tv⟩,tv⟩),(fun h16=>⟨⟨tv,tv⟩,tv⟩),(fun h17=>⟨⟨(fun h18=>h17),tv,tv⟩,(o6 hp x0 hx0 h1 h17)⟩),(fun h19=>⟨⟨(fun h20=>h19),(fun h21=>h19),tv⟩,(o7 hp x0 hx0 h1 h19),(o8 hp x0 hx0 h1 h19)⟩),(fun h22=>⟨⟨(fun h23=>h22),tv⟩,tv⟩),(fun h24=>⟨⟨(fun h25=>h24),(fun h26=>h24),tv⟩,tv⟩),(fun h27=>⟨⟨(fun h28=>h27),tv⟩,(fun h29=>(o9 hp x0 hx0 h1 h27 h29)),(fun h30=>tv)⟩),⟨(fun h31=>tv),(fun h32=>(o10 hp x0 hx0 h1 h32))⟩,tv⟩ ?_
  refine swp_cond (bif !within (l.getD x0 0) lo hi then true else bif decide (0 < (x0:Int)) then decide (l.getD x0 0<=l.getD ((x0:Int) - 1).toNat 0) else false) (by kernel_rfl) (fun h33 => ?_) (fun h33 => ?_)
  ·refine swp_seq ?_
   refine sR (kt:=[6]) (kh:=[]) (q:=True/\True) (st':=ASt.mk [(6,bv false)] [] 10248) (by kernel_rfl) ⟨tv,tv⟩ ?_
   refine swp_ret ?_
   exact ret_q [] ((True/\True)/\(bv false=bv (rising l lo hi)/\nilN = [])/\T3) (by kernel_rfl) ⟨⟨tv,tv⟩,⟨(congrArg bv (o11 hp x0 hx0 h1 h33)),rfl⟩,rfl,rfl,rfl⟩
  ·refine swp_skip ?_
   refine sR (kt:=[0,1,2,7]) (kh:=[]) (q:=True/\inI ((x0:Int) + 1)/\True/\True) (st':=ASt.mk [(0,aInts l),(1,iv lo),(2,iv hi),(7,iv ((x0:Int) + 1))] [] 10264) (by kernel_rfl) ⟨tv,(o12 hp x0 hx0 h1 h33),tv,tv⟩ ?_
   exact loop_next (Hint.ann (h52 l lo hi) [(0,aInts l),(1,iv lo),(2,iv hi)] [] 10016) x0 (ent_q hE [] [] [0,1,2] [] (((aInts l=aInts l/\true=true)/\(iv lo=iv lo/\true=true)/\(iv hi=iv hi/\true=true)/\(iv ((x0:Int) + 1)=iv (↑(x0 + 1):Int)/\nilN = [])/\True)/\True/\T2) (by kernel_rfl) (by kernel_rfl) ⟨⟨⟨rfl,rfl⟩,⟨rfl,rfl⟩,⟨rfl,rfl⟩,⟨(congrArg iv (o13 hp x0 hx0 h1 h33)),rfl⟩,tv⟩,tv,rfl,rfl⟩) (o14 hp x0 hx0 h1 h33) (o15 hp x0 hx0 h1 h33)
 ·refine swp_exit (swp_seq ?_)
  refine sR (kt:=[6]) (kh:=[]) (q:=True/\True) (st':=ASt.mk [(6,bv true)] [] 10056) (by kernel_rfl) ⟨tv,tv⟩ ?_
  refine swp_ret ?_
  exact ret_q [] ((True/\True)/\(bv true=bv (rising l lo hi)/\nilN = [])/\T3) (by kernel_rfl) ⟨⟨tv,tv⟩,⟨(congrArg bv (o16 hp x0 hx0 h1)),rfl⟩,rfl,rfl,rfl⟩
theorem t52 (l:List Int) (lo hi:Int):Triple Try.prog 52 (s52 l lo hi):=by
 apply w52
 case o11 =>
  intro hp x hx h h2
  simp only [decide_eq_true_eq] at h
  symm
  unfold rising
  rw [List.all_eq_false]
  refine ⟨x,List.mem_range.2 (by omega),?_⟩
  simp only [risAt]
  have e:Int.toNat ((x:Int) - 1)=x - 1:=by omega
  rw [e] at h2
  generalize l.getD x 0=a at *
  generalize l.getD (x - 1) 0=b at *
  cases e2:within a lo hi
  ·simp
  ·simp only [e2,Bool.not_true,cond_false,Bool.cond_false_right,Bool.and_eq_true,decide_eq_true_eq] at h2
   have h3:(x:Int) > 0:=h2.1
   simp [h2.2]; omega
 case o14 =>
  intro hp x hx h h2
  simp only [decide_eq_true_eq] at h
  refine ⟨by omega,lt_succ_cases hx.2 ?_⟩
  simp only [risAt]
  have e:Int.toNat ((x:Int) - 1)=x - 1:=by omega
  rw [e] at h2
  generalize l.getD x 0=a at *
  generalize l.getD (x - 1) 0=b at *
  cases e2:within a lo hi
  ·simp [e2] at h2
  ·simp only [e2,Bool.not_true,cond_false,Bool.cond_false_right,Bool.and_eq_false_imp,decide_eq_true_eq,decide_eq_false_iff_not] at h2
   simp only [Bool.true_and,Bool.or_eq_true,Bool.not_eq_true',decide_eq_false_iff_not]
   by_cases e:(x:Int) > 0
   ·exact .inr (h2 (by omega))
   ·exact .inl e
 case o16 =>
  intro hp x hx h
  simp only [decide_eq_false_iff_not] at h
  symm
  unfold rising
  rw [List.all_eq_true]
  intro j hj
  exact hx.2 j (by have:=List.mem_range.1 hj; omega)
 all_goals (try ((repeat intro _) <;> (try simp only [v0,v1,v2,v3,v4,v5,v6,v7,v8,v9,inI,fits,Go.Sh.small] at *) <;> first | (exact rfl) | omega | exact vz | (simp_all; done) | (simp_all; omega)))
theorem w105 (s:Span) (most:Int)
  (o0:(bif within s.hi 0 most then within s.lo 0 s.hi else false)=isSpan s most) :
  Triple Try.prog 105 (s105 s most):=by
 refine triple_of Try.func105 rfl Try.call105 T0_ok _ rfl rfl rfl rfl (Nat.le_of_ble_eq_true (by kernel_rfl)) (fun _ _ _ _ h=>h) ?_
 intro _ C hC _ hE
 obtain ⟨P,w0,E0,av,hA⟩:=C
 subst hC
 refine swp_seq ?_
 refine sR (kt:=[1,2]) (kh:=[0]) (q:=True/\True/\True) (st':=ASt.mk [(1,iv most),(2,.ptr 0 [])] [(0,.cells 37 (cSpan s))] 16) (by kernel_rfl) ⟨tv,tv,tv⟩ ?_
 refine swp_seq ?_
 refine swp_region T0_ok mixed (cs:=[(3,CallSpec.eq (s24 s.hi 0 most) [true,true,true]),(9,CallSpec.eq (s24 s.lo 0 s.hi) [true,true,true])]) (kt:=[4]) (kh:=[]) (q:=True/\True/\True/\((iv s.hi=iv s.hi/\iv 0=iv 0/\iv most=iv most/\True)/\Triple Try.prog 24 (s24 s.hi 0 most)/\True/\True /\ ∀ (i0:Env),True)/\True/\(within s.hi 0 most=true->(True/\True)/\True)/\(within s.hi 0 most=true->((within s.hi 0 most=true->within s.hi 0 most=true)/\True)/\True)/\(within s.hi 0 most=true->(True/\True)/\True)/\(within s.hi 0 most=true->((within s.hi 0 most=true->within s.hi 0 most=true)/\True)/\True)/\(within s.hi 0 most=true->(True/\(within s.hi 0 most=true->within s.hi 0 most=true)/\True/\(within s.hi 0 most=true->within s.hi 0 most=true)/\True)/\(iv s.lo=iv s.lo/\iv 0=iv 0/\iv s.hi=iv s.hi/\True)/\Triple Try.prog 24 (s24 s.lo 0 s.hi)/\True/\True /\ ∀ (i10:Env),True)/\((within s.hi 0 most=true->within s.hi 0 most=true)/\(within s.hi 0 most=false->True))/\True/\True) (st':=ASt.mk [(4,bv (bif within s.hi 0 most then within s.lo 0 s.hi else false))] [] 112) (by kernel_rfl) ⟨tv,tv,tv,⟨⟨rfl,rfl,rfl,tv⟩,(t24 s.hi (0) (most)),tv,tv,(fun i0=>tv)⟩,tv,(fun h1=>⟨⟨tv,tv⟩,tv⟩),(fun h2=>⟨⟨(fun h3=>h2),tv⟩,tv⟩),(fun h4=>⟨⟨tv,tv⟩,tv⟩),(fun h5=>⟨⟨(fun h6=>h5),tv⟩,tv⟩),(fun h7=>⟨⟨tv,(fun h8=>h7),tv,(fun h9=>h7),tv⟩,⟨rfl,rfl,rfl,tv⟩,(t24 s.lo (0) s.hi),tv,tv,(fun i10=>tv)⟩),⟨(fun h11=>h11),(fun h12=>tv)⟩,tv,tv⟩ ?_
 refine swp_ret ?_
 exact ret_q [] ((True/\True)/\(bv (bif within s.hi 0 most then within s.lo 0 s.hi else false)=bv (isSpan s most)/\nilN = [])/\T3) (by kernel_rfl) ⟨⟨tv,tv⟩,⟨(congrArg bv (o0)),rfl⟩,rfl,rfl,rfl⟩
theorem t105 (s:Span) (most:Int):Triple Try.prog 105 (s105 s most):=by
 apply w105
 unfold isSpan; cases within s.hi 0 most <;> rfl
theorem w76 (n:Int) (lo:Int) (hi:Int) :
  Triple Try.prog 76 (s76 n lo hi):=by
 refine triple_of Try.func76 rfl Try.call76 T0_ok _ rfl rfl rfl rfl (Nat.le_of_ble_eq_true (by kernel_rfl)) (fun _ _ _ _ h=>h) ?_
 intro _ C hC _ hE
 obtain ⟨P,w0,E0,av,hA⟩:=C
 subst hC
 refine swp_seq ?_
 refine sR (kt:=[0,1,2]) (kh:=[]) (q:=True/\True) (st':=ASt.mk [(0,iv n),(1,iv lo),(2,iv hi)] [] 8) (by kernel_rfl) ⟨tv,tv⟩ ?_
 refine swp_seq ?_
 refine swp_region T0_ok mixed (cs:=[(3,CallSpec.eq (s24 n lo hi) [true,true,true])]) (kt:=[6]) (kh:=[]) (q:=True/\True/\True/\((iv n=iv n/\iv lo=iv lo/\iv hi=iv hi/\True)/\Triple Try.prog 24 (s24 n lo hi)/\True/\True /\ ∀ (i0:Env),True)/\True/\True) (st':=ASt.mk [(6,bv (within n lo hi))] [] 48) (by kernel_rfl) ⟨tv,tv,tv,⟨⟨rfl,rfl,rfl,tv⟩,(t24 (n) (lo) (hi)),tv,tv,(fun i0=>tv)⟩,tv,tv⟩ ?_
 refine swp_ret ?_
 exact ret_q [] ((True/\True)/\(bv (within n lo hi)=bv (within n lo hi)/\nilN = [])/\T3) (by kernel_rfl) ⟨⟨tv,tv⟩,⟨rfl,rfl⟩,rfl,rfl,rfl⟩
theorem t76 (n lo hi:Int):Triple Try.prog 76 (s76 n lo hi):=w76 n lo hi
theorem w112 (n:Int) (lo:Int) (hi:Int)
  (o0:(bif decide (lo<=n) then decide (n<=hi) else false)=within n lo hi) :
  Triple Try.prog 112 (s112 n lo hi):=by
 refine triple_of Try.func112 rfl Try.call112 T0_ok _ rfl rfl rfl rfl (Nat.le_of_ble_eq_true (by kernel_rfl)) (fun _ _ _ _ h=>h) ?_
 intro _ C hC _ hE
 obtain ⟨P,w0,E0,av,hA⟩:=C
 subst hC
 refine swp_seq ?_
 refine sR (kt:=[0,1,2]) (kh:=[]) (q:=True/\True) (st':=ASt.mk [(0,iv n),(1,iv lo),(2,iv hi)] [] 8) (by kernel_rfl) ⟨tv,tv⟩ ?_
 refine swp_seq ?_
 refine sR (kt:=[6]) (kh:=[]) (q:=True/\True/\True/\True/\(decide (lo<=n)=true->(True/\True)/\True)/\(decide (lo<=n)=true->(True/\True)/\True)/\(decide (lo<=n)=true->((decide (lo<=n)=true->decide (lo<=n)=true)/\(decide (lo<=n)=true->decide (lo<=n)=true)/\True)/\True)/\((decide (lo<=n)=true->decide (lo<=n)=true)/\(decide (lo<=n)=false->True))/\True/\True) (st':=ASt.mk [(6,bv (bif decide (lo<=n) then decide (n<=hi) else false))] [] 80) (by kernel_rfl) ⟨tv,tv,tv,tv,(fun h0=>⟨⟨tv,tv⟩,tv⟩),(fun h1=>⟨⟨tv,tv⟩,tv⟩),(fun h2=>⟨⟨(fun h3=>h2),(fun h4=>h2),tv⟩,tv⟩),⟨(fun h5=>h5),(fun h6=>tv)⟩,tv,tv⟩ ?_
 refine swp_ret ?_
 exact ret_q [] ((True/\True)/\(bv (bif decide (lo<=n) then decide (n<=hi) else false)=bv (within n lo hi)/\nilN = [])/\T3) (by kernel_rfl) ⟨⟨tv,tv⟩,⟨(congrArg bv (o0)),rfl⟩,rfl,rfl,rfl⟩
theorem t112 (n lo hi:Int):Triple Try.prog 112 (s112 n lo hi):=by
 refine w112 n lo hi ?_
 unfold within; cases decide (lo<=n) <;> rfl
theorem w18 (r:Run) (n:Int)
  (o0:fits r->inI ((↑(r.machines.length):Int) - 1))
  (o1:fits r->within n 0 ((↑(r.machines.length):Int) - 1)=isMachine r n) :
  Triple Try.prog 18 (s18 r n):=by
 refine triple_of Try.func18 rfl Try.call18 T0_ok _ rfl rfl rfl rfl (Nat.le_of_ble_eq_true (by kernel_rfl)) (fun _ _ _ _ h=>h) ?_
 intro hp C hC _ hE
 obtain ⟨P,w0,E0,av,hA⟩:=C
 subst hC
 refine swp_seq ?_
 refine sR (kt:=[1,2]) (kh:=[0]) (q:=True/\True/\True) (st':=ASt.mk [(1,iv n),(2,.ptr 0 [])] [(0,.cells 25 (cRun r))] 16) (by kernel_rfl) ⟨tv,tv,tv⟩ ?_
 refine swp_seq ?_
 refine swp_region T0_ok mixed (cs:=[(5,CallSpec.eq (s76 n 0 ((↑(r.machines.length):Int) - 1)) [true,true,true])]) (kt:=[4]) (kh:=[]) (q:=True/\True/\True/\True/\inI ((↑(r.machines.length):Int) - 1)/\((iv n=iv n/\iv 0=iv 0/\iv ((↑(r.machines.length):Int) - 1)=iv ((↑(r.machines.length):Int) - 1)/\True)/\Triple Try.prog 76 (s76 n 0 ((↑(r.machines.length):Int) - 1))/\True/\True /\ ∀ (i0:Env),True)/\True/\True) (st':=ASt.mk [(4,bv (within n 0 ((↑(r.machines.length):Int) - 1)))] [] 72) (by kernel_rfl) ⟨tv,tv,tv,tv,(o0 hp),⟨⟨rfl,rfl,rfl,tv⟩,(t76 (n) (0) ((↑(r.machines.length):Int) - 1)),tv,tv,(fun i0=>tv)⟩,tv,tv⟩ ?_
 refine swp_ret ?_
 exact ret_q [] ((True/\True)/\(bv (within n 0 ((↑(r.machines.length):Int) - 1))=bv (isMachine r n)/\nilN = [])/\T3) (by kernel_rfl) ⟨⟨tv,tv⟩,⟨(congrArg bv (o1 hp)),rfl⟩,rfl,rfl,rfl⟩
theorem t18 (r:Run) (n:Int):Triple Try.prog 18 (s18 r n):=by
 apply w18
 all_goals (try ((repeat intro _) <;> (try simp only [v0,v1,v2,v3,v4,v5,v6,v7,v8,v9,inI,fits,Go.Sh.small] at *) <;> first | (exact rfl) | omega | exact vz | (simp_all; done) | (simp_all; omega)))
theorem w25 (r:Run) (n:Int)
  (o0:fits r->within n 0 (wr (r.plates - 1))=isPlate r n) :
  Triple Try.prog 25 (s25 r n):=by
 refine triple_of Try.func25 rfl Try.call25 T0_ok _ rfl rfl rfl rfl (Nat.le_of_ble_eq_true (by kernel_rfl)) (fun _ _ _ _ h=>h) ?_
 intro hp C hC _ hE
 obtain ⟨P,w0,E0,av,hA⟩:=C
 subst hC
 refine swp_seq ?_
 refine sR (kt:=[1,2]) (kh:=[0]) (q:=True/\True/\True) (st':=ASt.mk [(1,iv n),(2,.ptr 0 [])] [(0,.cells 25 (cRun r))] 16) (by kernel_rfl) ⟨tv,tv,tv⟩ ?_
 refine swp_seq ?_
 refine swp_region T0_ok mixed (cs:=[(3,wrapS),(4,CallSpec.eq (s76 n 0 (wr (r.plates - 1))) [true,true,true])]) (kt:=[4]) (kh:=[]) (q:=True/\True/\True/\True/\((iv n=iv n/\iv 0=iv 0/\iv (wr (r.plates - 1))=iv (wr (r.plates - 1))/\True)/\Triple Try.prog 76 (s76 n 0 (wr (r.plates - 1)))/\True/\True /\ ∀ (i0:Env),True)/\True/\True) (st':=ASt.mk [(4,bv (within n 0 (wr (r.plates - 1))))] [] 64) (by kernel_rfl) ⟨tv,tv,tv,tv,⟨⟨rfl,rfl,rfl,tv⟩,(t76 (n) (0) (wr (r.plates - 1))),tv,tv,(fun i0=>tv)⟩,tv,tv⟩ ?_
 refine swp_ret ?_
 exact ret_q [] ((True/\True)/\(bv (within n 0 (wr (r.plates - 1)))=bv (isPlate r n)/\nilN = [])/\T3) (by kernel_rfl) ⟨⟨tv,tv⟩,⟨(congrArg bv (o0 hp)),rfl⟩,rfl,rfl,rfl⟩
theorem t25 (r:Run) (n:Int):Triple Try.prog 25 (s25 r n):=by
 apply w25
 all_goals (try ((repeat intro _) <;> (try simp only [v0,v1,v2,v3,v4,v5,v6,v7,v8,v9,inI,fits,Go.Sh.small] at *) <;> first | (exact rfl) | omega | exact vz | (simp_all; done) | (simp_all; omega)))
theorem w45 (r:Run) (n:Int)
  (o0:fits r->inI ((↑(r.found.length):Int) - 1))
  (o1:fits r->within n 0 ((↑(r.found.length):Int) - 1)=isFound r n) :
  Triple Try.prog 45 (s45 r n):=by
 refine triple_of Try.func45 rfl Try.call45 T0_ok _ rfl rfl rfl rfl (Nat.le_of_ble_eq_true (by kernel_rfl)) (fun _ _ _ _ h=>h) ?_
 intro hp C hC _ hE
 obtain ⟨P,w0,E0,av,hA⟩:=C
 subst hC
 refine swp_seq ?_
 refine sR (kt:=[1,2]) (kh:=[0]) (q:=True/\True/\True) (st':=ASt.mk [(1,iv n),(2,.ptr 0 [])] [(0,.cells 25 (cRun r))] 16) (by kernel_rfl) ⟨tv,tv,tv⟩ ?_
 refine swp_seq ?_
 refine swp_region T0_ok mixed (cs:=[(5,CallSpec.eq (s76 n 0 ((↑(r.found.length):Int) - 1)) [true,true,true])]) (kt:=[4]) (kh:=[]) (q:=True/\True/\True/\True/\inI ((↑(r.found.length):Int) - 1)/\((iv n=iv n/\iv 0=iv 0/\iv ((↑(r.found.length):Int) - 1)=iv ((↑(r.found.length):Int) - 1)/\True)/\Triple Try.prog 76 (s76 n 0 ((↑(r.found.length):Int) - 1))/\True/\True /\ ∀ (i0:Env),True)/\True/\True) (st':=ASt.mk [(4,bv (within n 0 ((↑(r.found.length):Int) - 1)))] [] 72) (by kernel_rfl) ⟨tv,tv,tv,tv,(o0 hp),⟨⟨rfl,rfl,rfl,tv⟩,(t76 (n) (0) ((↑(r.found.length):Int) - 1)),tv,tv,(fun i0=>tv)⟩,tv,tv⟩ ?_
 refine swp_ret ?_
 exact ret_q [] ((True/\True)/\(bv (within n 0 ((↑(r.found.length):Int) - 1))=bv (isFound r n)/\nilN = [])/\T3) (by kernel_rfl) ⟨⟨tv,tv⟩,⟨(congrArg bv (o1 hp)),rfl⟩,rfl,rfl,rfl⟩
theorem t45 (r:Run) (n:Int):Triple Try.prog 45 (s45 r n):=by
 apply w45
 all_goals (try ((repeat intro _) <;> (try simp only [v0,v1,v2,v3,v4,v5,v6,v7,v8,v9,inI,fits,Go.Sh.small] at *) <;> first | (exact rfl) | omega | exact vz | (simp_all; done) | (simp_all; omega)))
theorem w79 (r:Run) (n:Int)
  (o0:fits r->inI ((↑(r.machines.length):Int) - 1))
  (o1:fits r->within n 0 ((↑(r.machines.length):Int) - 1)=isMachine r n) :
  Triple Try.prog 79 (s79 r n):=by
 refine triple_of Try.func79 rfl Try.call79 T0_ok _ rfl rfl rfl rfl (Nat.le_of_ble_eq_true (by kernel_rfl)) (fun _ _ _ _ h=>h) ?_
 intro hp C hC _ hE
 obtain ⟨P,w0,E0,av,hA⟩:=C
 subst hC
 refine swp_seq ?_
 refine sR (kt:=[1,2]) (kh:=[0]) (q:=True/\True/\True) (st':=ASt.mk [(1,iv n),(2,.ptr 0 [])] [(0,.cells 25 (cRun r))] 16) (by kernel_rfl) ⟨tv,tv,tv⟩ ?_
 refine swp_seq ?_
 refine swp_region T0_ok mixed (cs:=[(5,CallSpec.eq (s112 n 0 ((↑(r.machines.length):Int) - 1)) [true,true,true])]) (kt:=[4]) (kh:=[]) (q:=True/\True/\True/\True/\inI ((↑(r.machines.length):Int) - 1)/\((iv n=iv n/\iv 0=iv 0/\iv ((↑(r.machines.length):Int) - 1)=iv ((↑(r.machines.length):Int) - 1)/\True)/\Triple Try.prog 112 (s112 n 0 ((↑(r.machines.length):Int) - 1))/\True/\True /\ ∀ (i0:Env),True)/\True/\True) (st':=ASt.mk [(4,bv (within n 0 ((↑(r.machines.length):Int) - 1)))] [] 72) (by kernel_rfl) ⟨tv,tv,tv,tv,(o0 hp),⟨⟨rfl,rfl,rfl,tv⟩,(t112 (n) (0) ((↑(r.machines.length):Int) - 1)),tv,tv,(fun i0=>tv)⟩,tv,tv⟩ ?_
 refine swp_ret ?_
 exact ret_q [] ((True/\True)/\(bv (within n 0 ((↑(r.machines.length):Int) - 1))=bv (isMachine r n)/\nilN = [])/\T3) (by kernel_rfl) ⟨⟨tv,tv⟩,⟨(congrArg bv (o1 hp)),rfl⟩,rfl,rfl,rfl⟩
theorem t79 (r:Run) (n:Int):Triple Try.prog 79 (s79 r n):=by
 apply w79
 all_goals (try ((repeat intro _) <;> (try simp only [v0,v1,v2,v3,v4,v5,v6,v7,v8,v9,inI,fits,Go.Sh.small] at *) <;> first | (exact rfl) | omega | exact vz | (simp_all; done) | (simp_all; omega)))
theorem w80 (r:Run) (n:Int)
  (o0:fits r->within n 0 (wr (r.plates - 1))=isPlate r n) :
  Triple Try.prog 80 (s80 r n):=by
 refine triple_of Try.func80 rfl Try.call80 T0_ok _ rfl rfl rfl rfl (Nat.le_of_ble_eq_true (by kernel_rfl)) (fun _ _ _ _ h=>h) ?_
 intro hp C hC _ hE
 obtain ⟨P,w0,E0,av,hA⟩:=C
 subst hC
 refine swp_seq ?_
 refine sR (kt:=[1,2]) (kh:=[0]) (q:=True/\True/\True) (st':=ASt.mk [(1,iv n),(2,.ptr 0 [])] [(0,.cells 25 (cRun r))] 16) (by kernel_rfl) ⟨tv,tv,tv⟩ ?_
 refine swp_seq ?_
 refine swp_region T0_ok mixed (cs:=[(3,wrapS),(4,CallSpec.eq (s112 n 0 (wr (r.plates - 1))) [true,true,true])]) (kt:=[4]) (kh:=[]) (q:=True/\True/\True/\True/\((iv n=iv n/\iv 0=iv 0/\iv (wr (r.plates - 1))=iv (wr (r.plates - 1))/\True)/\Triple Try.prog 112 (s112 n 0 (wr (r.plates - 1)))/\True/\True /\ ∀ (i0:Env),True)/\True/\True) (st':=ASt.mk [(4,bv (within n 0 (wr (r.plates - 1))))] [] 64) (by kernel_rfl) ⟨tv,tv,tv,tv,⟨⟨rfl,rfl,rfl,tv⟩,(t112 (n) (0) (wr (r.plates - 1))),tv,tv,(fun i0=>tv)⟩,tv,tv⟩ ?_
 refine swp_ret ?_
 exact ret_q [] ((True/\True)/\(bv (within n 0 (wr (r.plates - 1)))=bv (isPlate r n)/\nilN = [])/\T3) (by kernel_rfl) ⟨⟨tv,tv⟩,⟨(congrArg bv (o0 hp)),rfl⟩,rfl,rfl,rfl⟩
theorem t80 (r:Run) (n:Int):Triple Try.prog 80 (s80 r n):=by
 apply w80
 all_goals (try ((repeat intro _) <;> (try simp only [v0,v1,v2,v3,v4,v5,v6,v7,v8,v9,inI,fits,Go.Sh.small] at *) <;> first | (exact rfl) | omega | exact vz | (simp_all; done) | (simp_all; omega)))
theorem w85 (r:Run) (n:Int)
  (o0:fits r->inI ((↑(r.found.length):Int) - 1))
  (o1:fits r->within n 0 ((↑(r.found.length):Int) - 1)=isFound r n) :
  Triple Try.prog 85 (s85 r n):=by
 refine triple_of Try.func85 rfl Try.call85 T0_ok _ rfl rfl rfl rfl (Nat.le_of_ble_eq_true (by kernel_rfl)) (fun _ _ _ _ h=>h) ?_
 intro hp C hC _ hE
 obtain ⟨P,w0,E0,av,hA⟩:=C
 subst hC
 refine swp_seq ?_
 refine sR (kt:=[1,2]) (kh:=[0]) (q:=True/\True/\True) (st':=ASt.mk [(1,iv n),(2,.ptr 0 [])] [(0,.cells 25 (cRun r))] 16) (by kernel_rfl) ⟨tv,tv,tv⟩ ?_
 refine swp_seq ?_
 refine swp_region T0_ok mixed (cs:=[(5,CallSpec.eq (s112 n 0 ((↑(r.found.length):Int) - 1)) [true,true,true])]) (kt:=[4]) (kh:=[]) (q:=True/\True/\True/\True/\inI ((↑(r.found.length):Int) - 1)/\((iv n=iv n/\iv 0=iv 0/\iv ((↑(r.found.length):Int) - 1)=iv ((↑(r.found.length):Int) - 1)/\True)/\Triple Try.prog 112 (s112 n 0 ((↑(r.found.length):Int) - 1))/\True/\True /\ ∀ (i0:Env),True)/\True/\True) (st':=ASt.mk [(4,bv (within n 0 ((↑(r.found.length):Int) - 1)))] [] 72) (by kernel_rfl) ⟨tv,tv,tv,tv,(o0 hp),⟨⟨rfl,rfl,rfl,tv⟩,(t112 (n) (0) ((↑(r.found.length):Int) - 1)),tv,tv,(fun i0=>tv)⟩,tv,tv⟩ ?_
 refine swp_ret ?_
 exact ret_q [] ((True/\True)/\(bv (within n 0 ((↑(r.found.length):Int) - 1))=bv (isFound r n)/\nilN = [])/\T3) (by kernel_rfl) ⟨⟨tv,tv⟩,⟨(congrArg bv (o1 hp)),rfl⟩,rfl,rfl,rfl⟩
theorem t85 (r:Run) (n:Int):Triple Try.prog 85 (s85 r n):=by
 apply w85
 all_goals (try ((repeat intro _) <;> (try simp only [v0,v1,v2,v3,v4,v5,v6,v7,v8,v9,inI,fits,Go.Sh.small] at *) <;> first | (exact rfl) | omega | exact vz | (simp_all; done) | (simp_all; omega)))
theorem w86 (so:Int) (not:Int) (all:Int)
 (o0:decide (all=so)=true->1=known3 so not all)
 (o1:decide (all=so)=false->decide (all=not)=true->2=known3 so not all)
 (o2:decide (all=so)=false->decide (all=not)=false->3=known3 so not all) :
  Triple Try.prog 86 (s86 so not all):=by
 refine triple_of Try.func86 rfl Try.call86 T0_ok _ rfl rfl rfl rfl (Nat.le_of_ble_eq_true (by kernel_rfl)) (fun _ _ _ _ h=>h) ?_
 intro _ C hC _ hE
 obtain ⟨P,w0,E0,av,hA⟩:=C
 subst hC
 refine swp_seq ?_
 refine sR (kt:=[0,1,2]) (kh:=[]) (q:=True/\True) (st':=ASt.mk [(0,iv so),(1,iv not),(2,iv all)] [] 8) (by kernel_rfl) ⟨tv,tv⟩ ?_
 refine swp_seq (swp_seq ?_)
 refine sR (kt:=[0,1,7]) (kh:=[]) (q:=True/\True) (st':=ASt.mk [(0,iv so),(1,iv not),(7,iv all)] [] 16) (by kernel_rfl) ⟨tv,tv⟩ ?_
 refine swp_block (swp_seq ?_)
 refine sR (kt:=[1,7,8]) (kh:=[]) (q:=True/\True/\True/\True) (st':=ASt.mk [(1,iv not),(7,iv all),(8,bv (decide (all=so)))] [] 40) (by kernel_rfl) ⟨tv,tv,tv,tv⟩ ?_
 refine swp_cond (decide (all=so)) (by kernel_rfl) (fun h0 => ?_) (fun h0 => ?_)
 ·refine swp_seq ?_
  refine sR (kt:=[6]) (kh:=[]) (q:=True/\True) (st':=ASt.mk [(6,iv 1)] [] 48) (by kernel_rfl) ⟨tv,tv⟩ ?_
  refine swp_ret ?_
  exact ret_q [] ((True/\True)/\(iv 1=iv (known3 so not all)/\nilN = [])/\T3) (by kernel_rfl) ⟨⟨tv,tv⟩,⟨(congrArg iv (o0 h0)),rfl⟩,rfl,rfl,rfl⟩
 ·refine swp_seq ?_
  refine sR (kt:=[11]) (kh:=[]) (q:=True/\True/\True/\True) (st':=ASt.mk [(11,bv (decide (all=not)))] [] 64) (by kernel_rfl) ⟨tv,tv,tv,tv⟩ ?_
  refine swp_cond (decide (all=not)) (by kernel_rfl) (fun h1 => ?_) (fun h1 => ?_)
  ·refine swp_seq ?_
   refine sR (kt:=[6]) (kh:=[]) (q:=True/\True) (st':=ASt.mk [(6,iv 2)] [] 72) (by kernel_rfl) ⟨tv,tv⟩ ?_
   refine swp_ret ?_
   exact ret_q [] ((True/\True)/\(iv 2=iv (known3 so not all)/\nilN = [])/\T3) (by kernel_rfl) ⟨⟨tv,tv⟩,⟨(congrArg iv (o1 h0 h1)),rfl⟩,rfl,rfl,rfl⟩
  ·refine swp_skip (swp_seq ?_)
   refine sR (kt:=[6]) (kh:=[]) (q:=True/\True) (st':=ASt.mk [(6,iv 3)] [] 72) (by kernel_rfl) ⟨tv,tv⟩ ?_
   refine swp_ret ?_
   exact ret_q [] ((True/\True)/\(iv 3=iv (known3 so not all)/\nilN = [])/\T3) (by kernel_rfl) ⟨⟨tv,tv⟩,⟨(congrArg iv (o2 h0 h1)),rfl⟩,rfl,rfl,rfl⟩
theorem t86 (so not all:Int):Triple Try.prog 86 (s86 so not all):=by
 apply w86 <;> ((repeat intro _); simp_all [known3])
theorem w29 (lo:Int) (hi:Int) :
  Triple Try.prog 29 (s29 lo hi):=by
 refine triple_of Try.func29 rfl Try.call29 T0_ok _ rfl rfl rfl rfl (Nat.le_of_ble_eq_true (by kernel_rfl)) (fun _ _ _ _ h=>h) ?_
 intro _ C hC _ hE
 obtain ⟨P,w0,E0,av,hA⟩:=C
 subst hC
 refine swp_seq ?_
 refine sR (kt:=[0,1,4]) (kh:=[0]) (q:=True/\True) (st':=ASt.mk [(0,iv lo),(1,iv hi),(4,.ptr 0 [])] [(0,.cells 37 [iv 0,iv 0])] 8) (by kernel_rfl) ⟨tv,tv⟩ ?_
 refine swp_seq ?_
 refine sR (kt:=[4]) (kh:=[0]) (q:=True/\True/\True/\True/\True) (st':=ASt.mk [(4,.ptr 0 [])] [(0,.cells 37 [iv lo,iv hi])] 40) (by kernel_rfl) ⟨tv,tv,tv,tv,tv⟩ ?_
 refine swp_ret ?_
 exact ret_q [] ((True/\True)/\((iv lo=iv lo/\nilN = [])/\(iv hi=iv hi/\nilN = [])/\True)/\T3) (by kernel_rfl) ⟨⟨tv,tv⟩,⟨⟨rfl,rfl⟩,⟨rfl,rfl⟩,tv⟩,rfl,rfl,rfl⟩
theorem t29 (lo hi:Int):Triple Try.prog 29 (s29 lo hi):=w29 lo hi
theorem w28 (a:Span) (b:Span)
  (o0:(bif bif decide (b.lo<=a.lo) then decide (a.lo<=a.hi) else false then decide (a.hi<=b.hi) else false)=inside a b) :
  Triple Try.prog 28 (s28 a b):=by
 refine triple_of Try.func28 rfl Try.call28 T0_ok _ rfl rfl rfl rfl (Nat.le_of_ble_eq_true (by kernel_rfl)) (fun _ _ _ _ h=>h) ?_
 intro _ C hC _ hE
 obtain ⟨P,w0,E0,av,hA⟩:=C
 subst hC
 refine swp_seq ?_
 refine sR (kt:=[2,3]) (kh:=[0,8]) (q:=True/\True/\True/\True) (st':=ASt.mk [(2,.ptr 0 []),(3,.ptr 8 [])] [(0,.cells 37 (cSpan a)),(8,.cells 37 (cSpan b))] 24) (by kernel_rfl) ⟨tv,tv,tv,tv⟩ ?_
 refine swp_seq ?_
 refine sR (kt:=[4]) (kh:=[]) (q:=True/\True/\True/\True/\True/\True/\(decide (b.lo<=a.lo)=true->(True/\True)/\True)/\(decide (b.lo<=a.lo)=true->((decide (b.lo<=a.lo)=true->decide (b.lo<=a.lo)=true)/\True)/\True)/\(decide (b.lo<=a.lo)=true->(True/\True)/\True)/\(decide (b.lo<=a.lo)=true->((decide (b.lo<=a.lo)=true->decide (b.lo<=a.lo)=true)/\True)/\True)/\(decide (b.lo<=a.lo)=true->((decide (b.lo<=a.lo)=true->decide (b.lo<=a.lo)=true)/\(decide (b.lo<=a.lo)=true->decide (b.lo<=a.lo)=true)/\True)/\True)/\((decide (b.lo<=a.lo)=true->decide (b.lo<=a.lo)=true)/\(decide (b.lo<=a.lo)=false->True))/\True/\((bif decide (b.lo<=a.lo) then decide (a.lo<=a.hi) else false)=true->(True/\True)/\True)/\((bif decide (b.lo<=a.lo) then decide (a.lo<=a.hi) else false)=true->(((bif decide (b.lo<=a.lo) then decide (a.lo<=a.hi) else false)=true->(bif decide (b.lo<=a.lo) then decide (a.lo<=a.hi) else false)=true)/\True)/\True)/\((bif decide (b.lo<=a.lo) then decide (a.lo<=a.hi) else false)=true->(True/\True)/\True)/\((bif decide (b.lo<=a.lo) then decide (a.lo<=a.hi) else false)=true->(((bif decide (b.lo<=a.lo) then decide (a.lo<=a.hi) else false)=true->(bif decide (b.lo<=a.lo) then decide (a.lo<=a.hi) else false)=true)/\True)/\True)/\((bif decide (b.lo<=a.lo) then decide (a.lo<=a.hi) else false)=true->(((bif decide (b.lo<=a.lo) then decide (a.lo<=a.hi) else false)=true->(bif decide (b.lo<=a.lo) then decide (a.lo<=a.hi) else false)=true)/\((bif decide (b.lo<=a.lo) then decide (a.lo<=a.hi) else false)=true->(bif decide (b.lo<=a.lo) then decide (a.lo<=a.hi) else false)=true)/\True)/\True)/\(((bif decide (b.lo<=a.lo) then decide (a.lo<=a.hi) else false)=true->(bif decide (b.lo<=a.lo) then decide (a.lo<=a.hi) else false)=true)/\((bif decide (b.lo<=a.lo) then decide (a.lo<=a.hi) else false)=false->True))/\True/\True) (st':=ASt.mk [(4,bv (bif bif decide (b.lo<=a.lo) then decide (a.lo<=a.hi) else false then decide (a.hi<=b.hi) else false))] [] 184) (by kernel_rfl) ⟨tv,tv,tv,tv,tv,tv,(fun h0=>⟨⟨tv,tv⟩,tv⟩),(fun h1=>⟨⟨(fun h2=>h1),tv⟩,tv⟩),(fun h3=>⟨⟨tv,tv⟩,tv⟩),(fun h4=>⟨⟨(fun h5=>h4),tv⟩,tv⟩),(fun h6=>⟨⟨(fun h7=>h6),(fun h8=>h6),tv⟩,tv⟩),⟨(fun h9=>h9),(fun h10=>tv)⟩,tv,(fun h11=>⟨⟨tv,tv⟩,tv⟩),(fun h12=>⟨⟨(fun h13=>h12),tv⟩,tv⟩),(fun h14=>⟨⟨tv,tv⟩,tv⟩),(fun h15=>⟨⟨(fun h16=>h15),tv⟩,tv⟩),(fun h17=>⟨⟨(fun h18=>h17),(fun h19=>h17),tv⟩,tv⟩),⟨(fun h20=>h20),(fun h21=>tv)⟩,tv,tv⟩ ?_
 refine swp_ret ?_
 exact ret_q [] ((True/\True)/\(bv (bif bif decide (b.lo<=a.lo) then decide (a.lo<=a.hi) else false then decide (a.hi<=b.hi) else false)=bv (inside a b)/\nilN = [])/\T3) (by kernel_rfl) ⟨⟨tv,tv⟩,⟨(congrArg bv (o0)),rfl⟩,rfl,rfl,rfl⟩
theorem t28 (a b:Span):Triple Try.prog 28 (s28 a b):=by
 apply w28
 unfold inside; cases decide (b.lo<=a.lo) <;> cases decide (a.lo<=a.hi) <;> rfl
abbrev q46_1 (r:Run) (C:Prop):Prop:=fits r->(bif decide (40 < (↑(r.machines.length):Int)) then true else decide (40 < (↑(r.found.length):Int)))=false->C
abbrev q46_2 (r:Run) (C:Nat->Prop):Prop:=q46_1 r (∀ (x10:Nat),(x10<=r.machines.length /\ ∀ (j:Nat),j < x10->hugeM (mach r j)=false)->decide ((x10:Int) < (↑(r.machines.length):Int))=true->C x10)
abbrev q46_3 (r:Run) (C:Nat->Prop):Prop:=q46_2 r fun x10=>decide (40 < (↑((mach r x10).changes.length):Int))=false->C x10
abbrev q46_4 (r:Run) (C:Nat->Prop):Prop:=q46_1 r (∀ (x10:Nat),(x10<=r.machines.length /\ ∀ (j:Nat),j < x10->hugeM (mach r j)=false)->decide ((x10:Int) < (↑(r.machines.length):Int))=false->C x10)
abbrev q46_5 (r:Run) (C:Nat->Nat->Prop):Prop:=q46_4 r fun x10 => ∀ (x13:Nat),(x13<=r.found.length /\ ∀ (j:Nat),j < x13->hugeF (fnd r j)=false)->decide ((x13:Int) < (↑(r.found.length):Int))=true->C x10 x13
abbrev q46_6 (r:Run) (C:Nat->Nat->Prop):Prop:=q46_5 r fun x10 x13=>(bif decide (40 < (↑((fnd r x13).new.length):Int)) then true else decide (40 < (↑((fnd r x13).frm.length):Int)))=false->C x10 x13
theorem w46 (r:Run)
 (o0:fits r->decide (40 < (↑(r.machines.length):Int))=false->(!decide (40 < (↑(r.machines.length):Int)))=true)
 (o1:fits r->(bif decide (40 < (↑(r.machines.length):Int)) then true else decide (40 < (↑(r.found.length):Int)))=true->true=huge r)
 (o2:q46_1 r (0=(↑0:Int)))
 (o3:q46_1 r (0<=r.machines.length /\ ∀ (j:Nat),j < 0->hugeM (mach r j)=false))
 (o4:q46_2 r fun x10=>0<=(x10:Int))
 (o5:q46_2 r fun x10=>(x10:Int) < (↑(r.machines.length):Int))
 (o6:q46_2 r fun x10=>decide (40 < (↑((mach r x10).changes.length):Int))=true->true=huge r)
 (o7:q46_3 r fun x10=>inI ((x10:Int) + 1))
 (o8:q46_3 r fun x10=>(x10:Int) + 1=(↑(x10 + 1):Int))
 (o9:q46_3 r fun x10=>x10 + 1<=r.machines.length /\ ∀ (j:Nat),j < x10 + 1->hugeM (mach r j)=false)
 (o10:q46_3 r fun x10=>r.machines.length - (x10 + 1) < r.machines.length - x10)
 (o11:q46_4 r fun x10=>0=(↑0:Int))
 (o12:q46_4 r fun x10=>0<=r.found.length /\ ∀ (j:Nat),j < 0->hugeF (fnd r j)=false)
 (o13:q46_5 r fun x10 x13=>0<=(x13:Int))
 (o14:q46_5 r fun x10 x13=>(x13:Int) < (↑(r.found.length):Int))
 (o15:q46_5 r fun x10 x13=>(!decide (40 < (↑((fnd r x13).new.length):Int)))->0<=(x13:Int))
 (o16:q46_5 r fun x10 x13=>(!decide (40 < (↑((fnd r x13).new.length):Int)))->(x13:Int) < (↑(r.found.length):Int))
 (o17:q46_5 r fun x10 x13=>decide (40 < (↑((fnd r x13).new.length):Int))=false->(!decide (40 < (↑((fnd r x13).new.length):Int)))=true)
 (o18:q46_5 r fun x10 x13=>(bif decide (40 < (↑((fnd r x13).new.length):Int)) then true else decide (40 < (↑((fnd r x13).frm.length):Int)))=true->true=huge r)
 (o19:q46_6 r fun x10 x13=>inI ((x13:Int) + 1))
 (o20:q46_6 r fun x10 x13=>(x13:Int) + 1=(↑(x13 + 1):Int))
 (o21:q46_6 r fun x10 x13=>x13 + 1<=r.found.length /\ ∀ (j:Nat),j < x13 + 1->hugeF (fnd r j)=false)
 (o22:q46_6 r fun x10 x13=>r.found.length - (x13 + 1) < r.found.length - x13)
 (o23:q46_4 r fun x10 => ∀ (x13:Nat),(x13<=r.found.length /\ ∀ (j:Nat),j < x13->hugeF (fnd r j)=false)->decide ((x13:Int) < (↑(r.found.length):Int))=false->false=huge r) :
  Triple Try.prog 46 (s46 r):=by
 refine triple_of Try.func46 rfl Try.call46 T0_ok _ rfl rfl rfl rfl (Nat.le_of_ble_eq_true (by kernel_rfl)) (fun _ _ _ _ h=>h) ?_
 intro hp C hC _ hE
 obtain ⟨P,w0,E0,av,hA⟩:=C
 subst hC
 refine swp_seq ?_
 refine sR (kt:=[1]) (kh:=[0]) (q:=True/\True/\True) (st':=ASt.mk [(1,.ptr 0 [])] [(0,.cells 25 (cRun r))] 16) (by kernel_rfl) ⟨tv,tv,tv⟩ ?_
 refine swp_seq (swp_seq ?_)
 refine sR (kt:=[1,14]) (kh:=[0]) (q:=True/\True/\True/\True/\True/\((!decide (40 < (↑(r.machines.length):Int)))->(True/\True)/\True)/\((!decide (40 < (↑(r.machines.length):Int)))->(((!decide (40 < (↑(r.machines.length):Int)))->(!decide (40 < (↑(r.machines.length):Int)))=true)/\True)/\True)/\((!decide (40 < (↑(r.machines.length):Int)))->(((!decide (40 < (↑(r.machines.length):Int)))->(!decide (40 < (↑(r.machines.length):Int)))=true)/\True)/\True)/\((!decide (40 < (↑(r.machines.length):Int)))->(((!decide (40 < (↑(r.machines.length):Int)))->(!decide (40 < (↑(r.machines.length):Int)))=true)/\True/\True)/\True)/\((decide (40 < (↑(r.machines.length):Int))=true->True)/\(decide (40 < (↑(r.machines.length):Int))=false->(!decide (40 < (↑(r.machines.length):Int)))=true))/\True) (st':=ASt.mk [(1,.ptr 0 []),(14,bv (bif decide (40 < (↑(r.machines.length):Int)) then true else decide (40 < (↑(r.found.length):Int))))] [(0,.cells 25 (cRun r))] 96) (by kernel_rfl) ⟨tv,tv,tv,tv,tv,(fun h0=>⟨⟨tv,tv⟩,tv⟩),(fun h1=>⟨⟨(fun h2=>h1),tv⟩,tv⟩),(fun h3=>⟨⟨(fun h4=>h3),tv⟩,tv⟩),(fun h5=>⟨⟨(fun h6=>h5),tv,tv⟩,tv⟩),⟨(fun h7=>tv),(fun h8=>(o0 hp h8))⟩,tv⟩ ?_
 refine swp_cond (bif decide (40 < (↑(r.machines.length):Int)) then true else decide (40 < (↑(r.found.length):Int))) (by kernel_rfl) (fun h9 => ?_) (fun h9 => ?_)
 ·refine swp_seq ?_
  refine sR (kt:=[2]) (kh:=[]) (q:=True/\True) (st':=ASt.mk [(2,bv true)] [] 104) (by kernel_rfl) ⟨tv,tv⟩ ?_
  refine swp_ret ?_
  exact ret_q [] ((True/\True)/\(bv true=bv (huge r)/\nilN = [])/\T3) (by kernel_rfl) ⟨⟨tv,tv⟩,⟨(congrArg bv (o1 hp h9)),rfl⟩,rfl,rfl,rfl⟩
 ·refine swp_skip (swp_seq (swp_seq ?_))
  refine sR (kt:=[1,3]) (kh:=[0]) (q:=True/\True) (st':=ASt.mk [(1,.ptr 0 []),(3,iv 0)] [(0,.cells 25 (cRun r))] 104) (by kernel_rfl) ⟨tv,tv⟩ ?_
  refine swp_block ?_
  refine swp_loopA (Hint.ann (h46a r) [(1,AV.ptr 0 [])] [(0,OB.cells 25 (cRun r))] 10104) (ent_q hE [] [(0,.same 0)] [] [0] (((some (Src.same 0)=some (Src.same 0)/\nilP = [])/\(iv 0=iv (↑0:Int)/\nilN = [])/\True)/\((OB.cells 25 (cRun r)=OB.cells 25 (cRun r)/\true=true)/\True)/\T2) (by kernel_rfl) (by kernel_rfl) ⟨⟨⟨rfl,rfl⟩,⟨(congrArg iv (o2 hp h9)),rfl⟩,tv⟩,⟨⟨rfl,rfl⟩,tv⟩,rfl,rfl⟩) (o3 hp h9) (fun (x10:Nat) hx10 => ?_)
  refine swp_seq (swp_seq ?_)
  refine sR (kt:=[1,3,19]) (kh:=[0]) (q:=True/\True/\True/\True/\True/\True) (st':=ASt.mk [(1,.ptr 0 []),(3,iv (x10:Int)),(19,bv (decide ((x10:Int) < (↑(r.machines.length):Int))))] [(0,.cells 25 (cRun r))] 10144) (by kernel_rfl) ⟨tv,tv,tv,tv,tv,tv⟩ ?_
  refine swp_cond (decide ((x10:Int) < (↑(r.machines.length):Int))) (by kernel_rfl) (fun h11 => ?_) (fun h11 => ?_)
  ·refine swp_skip (swp_seq (swp_block (swp_seq ?_)))
   refine sR (kt:=[1,3,29]) (kh:=[0]) (q:=True/\True/\True/\(0<=(x10:Int)/\(x10:Int) < (↑(r.machines.length):Int))/\True/\True/\True/\True/\True) (st':=ASt.mk [(1,.ptr 0 []),(3,iv (x10:Int)),(29,bv (decide (40 < (↑((mach r x10).changes.length):Int))))] [(0,.cells 25 (cRun r))] 10208) (by kernel_rfl) ⟨tv,tv,tv,⟨(o4 hp h9 x10 hx10 h11),(o5 hp h9 x10 hx10 h11)⟩,tv,tv,tv,tv,tv⟩ ?_
   refine swp_cond (decide (40 < (↑((mach r x10).changes.length):Int))) (by kernel_rfl) (fun h12 => ?_) (fun h12 => ?_)
   ·refine swp_seq ?_
    refine sR (kt:=[2]) (kh:=[]) (q:=True/\True) (st':=ASt.mk [(2,bv true)] [] 10216) (by kernel_rfl) ⟨tv,tv⟩ ?_
    refine swp_ret ?_
    exact ret_q [] ((True/\True)/\(bv true=bv (huge r)/\nilN = [])/\T3) (by kernel_rfl) ⟨⟨tv,tv⟩,⟨(congrArg bv (o6 hp h9 x10 hx10 h11 h12)),rfl⟩,rfl,rfl,rfl⟩
   ·refine swp_skip ?_
    refine sR (kt:=[1,3]) (kh:=[0]) (q:=True/\inI ((x10:Int) + 1)/\True/\True) (st':=ASt.mk [(1,.ptr 0 []),(3,iv ((x10:Int) + 1))] [(0,.cells 25 (cRun r))] 10232) (by kernel_rfl) ⟨tv,(o7 hp h9 x10 hx10 h11 h12),tv,tv⟩ ?_
    exact loop_next (Hint.ann (h46a r) [(1,AV.ptr 0 [])] [(0,OB.cells 25 (cRun r))] 10104) x10 (ent_q hE [] [(0,.same 0)] [] [0] (((some (Src.same 0)=some (Src.same 0)/\nilP = [])/\(iv ((x10:Int) + 1)=iv (↑(x10 + 1):Int)/\nilN = [])/\True)/\((OB.cells 25 (cRun r)=OB.cells 25 (cRun r)/\true=true)/\True)/\T2) (by kernel_rfl) (by kernel_rfl) ⟨⟨⟨rfl,rfl⟩,⟨(congrArg iv (o8 hp h9 x10 hx10 h11 h12)),rfl⟩,tv⟩,⟨⟨rfl,rfl⟩,tv⟩,rfl,rfl⟩) (o9 hp h9 x10 hx10 h11 h12) (o10 hp h9 x10 hx10 h11 h12)
  ·refine swp_exit (swp_seq (swp_seq ?_))
   refine sR (kt:=[1,4]) (kh:=[0]) (q:=True/\True) (st':=ASt.mk [(1,.ptr 0 []),(4,iv 0)] [(0,.cells 25 (cRun r))] 10152) (by kernel_rfl) ⟨tv,tv⟩ ?_
   refine swp_block ?_
   refine swp_loopA (Hint.ann (h46b r) [(1,AV.ptr 0 [])] [(0,OB.cells 25 (cRun r))] 20152) (ent_q hE [] [(0,.same 0)] [] [0] (((some (Src.same 0)=some (Src.same 0)/\nilP = [])/\(iv 0=iv (↑0:Int)/\nilN = [])/\True)/\((OB.cells 25 (cRun r)=OB.cells 25 (cRun r)/\true=true)/\True)/\T2) (by kernel_rfl) (by kernel_rfl) ⟨⟨⟨rfl,rfl⟩,⟨(congrArg iv (o11 hp h9 x10 hx10 h11)),rfl⟩,tv⟩,⟨⟨rfl,rfl⟩,tv⟩,rfl,rfl⟩) (o12 hp h9 x10 hx10 h11) (fun (x13:Nat) hx13 => ?_)
   refine swp_seq (swp_seq ?_)
   refine sR (kt:=[1,4,34]) (kh:=[0]) (q:=True/\True/\True/\True/\True/\True) (st':=ASt.mk [(1,.ptr 0 []),(4,iv (x13:Int)),(34,bv (decide ((x13:Int) < (↑(r.found.length):Int))))] [(0,.cells 25 (cRun r))] 20192) (by kernel_rfl) ⟨tv,tv,tv,tv,tv,tv⟩ ?_
   refine swp_cond (decide ((x13:Int) < (↑(r.found.length):Int))) (by kernel_rfl) (fun h14 => ?_) (fun h14 => ?_)
   ·refine swp_skip (swp_seq (swp_block (swp_seq ?_)))
    refine sR (kt:=[1,4,54]) (kh:=[0]) (q:=True/\True/\True/\(0<=(x13:Int)/\(x13:Int) < (↑(r.found.length):Int))/\True/\True/\True/\True/\True/\((!decide (40 < (↑((fnd r x13).new.length):Int)))->(True/\True)/\True)/\((!decide (40 < (↑((fnd r x13).new.length):Int)))->(((!decide (40 < (↑((fnd r x13).new.length):Int)))->(!decide (40 < (↑((fnd r x13).new.length):Int)))=true)/\True)/\True)/\((!decide (40 < (↑((fnd r x13).new.length):Int)))->(True/\True)/\True)/\((!decide (40 < (↑((fnd r x13).new.length):Int)))->(((!decide (40 < (↑((fnd r x13).new.length):Int)))->(!decide (40 < (↑((fnd r x13).new.length):Int)))=true)/\((!decide (40 < (↑((fnd r x13).new.length):Int)))->(!decide (40 < (↑((fnd r x13).new.length):Int)))=true)/\True)/\0<=(x13:Int)/\(x13:Int) < (↑(r.found.length):Int))/\((!decide (40 < (↑((fnd r x13).new.length):Int)))->(((!decide (40 < (↑((fnd r x13).new.length):Int)))->(!decide (40 < (↑((fnd r x13).new.length):Int)))=true)/\True)/\True)/\((!decide (40 < (↑((fnd r x13).new.length):Int)))->(((!decide (40 < (↑((fnd r x13).new.length):Int)))->(!decide (40 < (↑((fnd r x13).new.length):Int)))=true)/\True)/\True)/\((!decide (40 < (↑((fnd r x13).new.length):Int)))->(((!decide (40 < (↑((fnd r x13).new.length):Int)))->(!decide (40 < (↑((fnd r x13).new.length):Int)))=true)/\True)/\True)/\((!decide (40 < (↑((fnd r x13).new.length):Int)))->(((!decide (40 < (↑((fnd r x13).new.length):Int)))->(!decide (40 < (↑((fnd r x13).new.length):Int)))=true)/\True/\True)/\True)/\((decide (40 < (↑((fnd r x13).new.length):Int))=true->True)/\(decide (40 < (↑((fnd r x13).new.length):Int))=false->(!decide (40 < (↑((fnd r x13).new.length):Int)))=true))/\True) (st':=ASt.mk [(1,.ptr 0 []),(4,iv (x13:Int)),(54,bv (bif decide (40 < (↑((fnd r x13).new.length):Int)) then true else decide (40 < (↑((fnd r x13).frm.length):Int))))] [(0,.cells 25 (cRun r))] 20336) (by kernel_rfl) ⟨tv,tv,tv,⟨(o13 hp h9 x10 hx10 h11 x13 hx13 h14),(o14 hp h9 x10 hx10 h11 x13 hx13 h14)⟩,tv,tv,tv,tv,tv,(fun h15=>⟨⟨tv,tv⟩,tv⟩),(fun h16=>⟨⟨(fun h17=>h16),tv⟩,tv⟩),(fun h18=>⟨⟨tv,tv⟩,tv⟩),(fun h19=>⟨⟨(fun h20=>h19),(fun h21=>h19),tv⟩,(o15 hp h9 x10 hx10 h11 x13 hx13 h14 h19),(o16 hp h9 x10 hx10 h11 x13 hx13 h14 h19)⟩),(fun h22=>⟨⟨(fun h23=>h22),tv⟩,tv⟩),(fun h24=>⟨⟨(fun h25=>h24),tv⟩,tv⟩),(fun h26=>⟨⟨(fun h27=>h26),tv⟩,tv⟩),(fun h28=>⟨⟨(fun h29=>h28),tv,tv⟩,tv⟩),⟨(fun h30=>tv),(fun h31=>(o17 hp h9 x10 hx10 h11 x13 hx13 h14 h31))⟩,tv⟩ ?_
    refine swp_cond (bif decide (40 < (↑((fnd r x13).new.length):Int)) then true else decide (40 < (↑((fnd r x13).frm.length):Int))) (by kernel_rfl) (fun h32 => ?_) (fun h32 => ?_)
    ·refine swp_seq ?_
     refine sR (kt:=[2]) (kh:=[]) (q:=True/\True) (st':=ASt.mk [(2,bv true)] [] 20344) (by kernel_rfl) ⟨tv,tv⟩ ?_
     refine swp_ret ?_
     exact ret_q [] ((True/\True)/\(bv true=bv (huge r)/\nilN = [])/\T3) (by kernel_rfl) ⟨⟨tv,tv⟩,⟨(congrArg bv (o18 hp h9 x10 hx10 h11 x13 hx13 h14 h32)),rfl⟩,rfl,rfl,rfl⟩
    ·refine swp_skip ?_
     refine sR (kt:=[1,4]) (kh:=[0]) (q:=True/\inI ((x13:Int) + 1)/\True/\True) (st':=ASt.mk [(1,.ptr 0 []),(4,iv ((x13:Int) + 1))] [(0,.cells 25 (cRun r))] 20360) (by kernel_rfl) ⟨tv,(o19 hp h9 x10 hx10 h11 x13 hx13 h14 h32),tv,tv⟩ ?_
     exact loop_next (Hint.ann (h46b r) [(1,AV.ptr 0 [])] [(0,OB.cells 25 (cRun r))] 20152) x13 (ent_q hE [] [(0,.same 0)] [] [0] (((some (Src.same 0)=some (Src.same 0)/\nilP = [])/\(iv ((x13:Int) + 1)=iv (↑(x13 + 1):Int)/\nilN = [])/\True)/\((OB.cells 25 (cRun r)=OB.cells 25 (cRun r)/\true=true)/\True)/\T2) (by kernel_rfl) (by kernel_rfl) ⟨⟨⟨rfl,rfl⟩,⟨(congrArg iv (o20 hp h9 x10 hx10 h11 x13 hx13 h14 h32)),rfl⟩,tv⟩,⟨⟨rfl,rfl⟩,tv⟩,rfl,rfl⟩) (o21 hp h9 x10 hx10 h11 x13 hx13 h14 h32) (o22 hp h9 x10 hx10 h11 x13 hx13 h14 h32)
   ·refine swp_exit (swp_seq ?_)
    refine sR (kt:=[2]) (kh:=[]) (q:=True/\True) (st':=ASt.mk [(2,bv false)] [] 20200) (by kernel_rfl) ⟨tv,tv⟩ ?_
    refine swp_ret ?_
    exact ret_q [] ((True/\True)/\(bv false=bv (huge r)/\nilN = [])/\T3) (by kernel_rfl) ⟨⟨tv,tv⟩,⟨(congrArg bv (o23 hp h9 x10 hx10 h11 x13 hx13 h14)),rfl⟩,rfl,rfl,rfl⟩
theorem t46 (r:Run):Triple Try.prog 46 (s46 r):=by
 apply w46
 case o1=>intro _ h; rw [bor] at h; exact (huge_head h).symm
 case o6=>intro _ _ x hx hl h; exact (huge_mach (by simpa using hl) h).symm
 case o9=>intro _ _ x hx hl h; exact ⟨by simp only [decide_eq_true_eq] at hl; omega,lt_succ_cases hx.2 h⟩
 case o18=>intro _ _ x hx hl y hy hyl h; rw [bor] at h; exact (huge_fnd (by simpa using hyl) h).symm
 case o21=>intro _ _ x hx hl y hy hyl h; rw [bor] at h; exact ⟨by simp only [decide_eq_true_eq] at hyl; omega,lt_succ_cases hy.2 h⟩
 case o23 =>
  intro _ h x hx hl y hy hyl
  rw [bor] at h
  simp only [decide_eq_false_iff_not] at hl hyl
  exact (not_huge h (fun j hj=>hx.2 j (by omega)) (fun j hj=>hy.2 j (by omega))).symm
 all_goals ((repeat intro _) <;> (try simp only [v0,v1,v2,v3,v4,v5,v6,v7,v8,v9,inI,fits,Go.Sh.small] at *) <;> first | (exact rfl) | omega | exact vz | (simp_all; done) | (simp_all; omega))
abbrev q63_1 (r:Run) (C:Prop):Prop:=fits r->(bif bif bif !within r.plates 1 3 then true else !within r.last 1 30 then true else !within (↑(r.machines.length):Int) 1 3 then true else decide (6 < (↑(r.found.length):Int)))=false->C
abbrev q63_2 (r:Run) (C:Nat->Prop):Prop:=q63_1 r (∀ (x33:Nat),(x33<=r.machines.length /\ ∀ (j:Nat),j < x33->okMachA r (mach r j)=true)->decide ((x33:Int) < (↑(r.machines.length):Int))=true->C x33)
abbrev q63_3 (r:Run) (C:Nat->Prop):Prop:=q63_2 r fun x33=>(bif !decide ((↑((mach r x33).changes.length):Int)=r.plates) then true else !within (mach r x33).rate 0 9)=false->C x33
abbrev q63_4 (r:Run) (C:Nat->Nat->Prop):Prop:=q63_3 r fun x33 => ∀ (x46:Nat),(x46<=(mach r x33).changes.length /\ ∀ (j:Nat),j < x46->isSpan (chg (mach r x33) j) r.last=true)->C x33 x46
abbrev q63_5 (r:Run) (C:Nat->Nat->Prop):Prop:=q63_4 r fun x33 x46=>decide ((x46:Int) < (↑((mach r x33).changes.length):Int))=true->C x33 x46
abbrev q63_6 (r:Run) (C:Nat->Nat->Prop):Prop:=q63_5 r fun x33 x46=>(!isSpan ((mach r x33).changes.getD x46 default) r.last)=false->C x33 x46
abbrev q63_7 (r:Run) (C:Nat->Nat->Prop):Prop:=q63_4 r fun x33 x46=>decide ((x46:Int) < (↑((mach r x33).changes.length):Int))=false->C x33 x46
abbrev q63_8 (r:Run) (C:Nat->Prop):Prop:=q63_1 r (∀ (x33:Nat),(x33<=r.machines.length /\ ∀ (j:Nat),j < x33->okMachA r (mach r j)=true)->decide ((x33:Int) < (↑(r.machines.length):Int))=false->C x33)
abbrev q63_9 (r:Run) (C:Nat->Nat->Prop):Prop:=q63_8 r fun x33 => ∀ (x50:Nat),(x50<=r.found.length /\ ∀ (j:Nat),j < x50->okFndA r (fnd r j)=true)->decide ((x50:Int) < (↑(r.found.length):Int))=true->C x33 x50
abbrev q63_10 (r:Run) (C:Nat->Nat->Prop):Prop:=q63_9 r fun x33 x50=>(!bif bif !within (fnd r x50).minute 0 (r.last - 1) then true else !decide ((↑((fnd r x50).new.length):Int)=r.plates) then true else decide ((↑((fnd r x50).frm.length):Int)=0))=true->C x33 x50
abbrev q63_11 (r:Run) (C:Nat->Nat->Prop):Prop:=q63_9 r fun x33 x50=>(bif bif bif !within (fnd r x50).minute 0 (r.last - 1) then true else !decide ((↑((fnd r x50).new.length):Int)=r.plates) then true else decide ((↑((fnd r x50).frm.length):Int)=0) then true else !rising (fnd r x50).frm 0 ((↑(r.machines.length):Int) - 1))=false->C x33 x50
abbrev q63_12 (r:Run) (C:Nat->Nat->Nat->Prop):Prop:=q63_11 r fun x33 x50 => ∀ (x94:Nat),(x94<=(fnd r x50).new.length /\ ∀ (j:Nat),j < x94->within ((fnd r x50).new.getD j 0) (-1) 1=true)->decide ((x94:Int) < (↑((fnd r x50).new.length):Int))=true->C x33 x50 x94
abbrev q63_13 (r:Run) (C:Nat->Nat->Nat->Prop):Prop:=q63_12 r fun x33 x50 x94=>(!within ((fnd r x50).new.getD x94 0) (-1) 1)=false->C x33 x50 x94
abbrev q63_14 (r:Run) (C:Nat->Nat->Nat->Prop):Prop:=q63_11 r fun x33 x50 => ∀ (x94:Nat),(x94<=(fnd r x50).new.length /\ ∀ (j:Nat),j < x94->within ((fnd r x50).new.getD j 0) (-1) 1=true)->decide ((x94:Int) < (↑((fnd r x50).new.length):Int))=false->C x33 x50 x94
theorem w63 (r:Run)
 (o0:fits r->(!within r.plates 1 3)=false->(!!within r.plates 1 3)=true)
 (o1:fits r->(bif !within r.plates 1 3 then true else !within r.last 1 30)=false->(!bif !within r.plates 1 3 then true else !within r.last 1 30)=true)
 (o2:fits r->(bif bif !within r.plates 1 3 then true else !within r.last 1 30 then true else !within (↑(r.machines.length):Int) 1 3)=false->(!bif bif !within r.plates 1 3 then true else !within r.last 1 30 then true else !within (↑(r.machines.length):Int) 1 3)=true)
 (o3:fits r->(bif bif bif !within r.plates 1 3 then true else !within r.last 1 30 then true else !within (↑(r.machines.length):Int) 1 3 then true else decide (6 < (↑(r.found.length):Int)))=true->60=check r)
 (o4:q63_1 r (0=(↑0:Int)))
 (o5:q63_1 r (0<=r.machines.length /\ ∀ (j:Nat),j < 0->okMachA r (mach r j)=true))
 (o6:q63_2 r fun x33=>0<=(x33:Int))
 (o7:q63_2 r fun x33=>(x33:Int) < (↑(r.machines.length):Int))
 (o8:q63_2 r fun x33=>(!decide ((↑((mach r x33).changes.length):Int)=r.plates))=false->(!!decide ((↑((mach r x33).changes.length):Int)=r.plates))=true)
 (o9:q63_2 r fun x33=>(bif !decide ((↑((mach r x33).changes.length):Int)=r.plates) then true else !within (mach r x33).rate 0 9)=true->60=check r)
 (o10:q63_3 r fun x33=>0=(↑0:Int))
 (o11:q63_3 r fun x33=>0<=(mach r x33).changes.length /\ ∀ (j:Nat),j < 0->isSpan (chg (mach r x33) j) r.last=true)
 (o12:q63_5 r fun x33 x46=>0<=(x46:Int))
 (o13:q63_5 r fun x33 x46=>(x46:Int) < (↑((mach r x33).changes.length):Int))
 (o14:q63_5 r fun x33 x46=>(!isSpan ((mach r x33).changes.getD x46 default) r.last)=true->60=check r)
 (o15:q63_6 r fun x33 x46=>inI ((x46:Int) + 1))
 (o16:q63_6 r fun x33 x46=>(x46:Int) + 1=(↑(x46 + 1):Int))
 (o17:q63_6 r fun x33 x46=>x46 + 1<=(mach r x33).changes.length /\ ∀ (j:Nat),j < x46 + 1->isSpan (chg (mach r x33) j) r.last=true)
 (o18:q63_6 r fun x33 x46=>(mach r x33).changes.length - (x46 + 1) < (mach r x33).changes.length - x46)
 (o19:q63_7 r fun x33 x46=>inI ((x33:Int) + 1))
 (o20:q63_7 r fun x33 x46=>(x33:Int) + 1=(↑(x33 + 1):Int))
 (o21:q63_7 r fun x33 x46=>x33 + 1<=r.machines.length /\ ∀ (j:Nat),j < x33 + 1->okMachA r (mach r j)=true)
 (o22:q63_7 r fun x33 x46=>r.machines.length - (x33 + 1) < r.machines.length - x33)
 (o23:q63_8 r fun x33=>0=(↑0:Int))
 (o24:q63_8 r fun x33=>0<=r.found.length /\ ∀ (j:Nat),j < 0->okFndA r (fnd r j)=true)
 (o25:q63_9 r fun x33 x50=>0<=(x50:Int))
 (o26:q63_9 r fun x33 x50=>(x50:Int) < (↑(r.found.length):Int))
 (o27:q63_9 r fun x33 x50=>inI (r.last - 1))
 (o28:q63_9 r fun x33 x50=>(!within (fnd r x50).minute 0 (r.last - 1))=false->(!!within (fnd r x50).minute 0 (r.last - 1))=true)
 (o29:q63_9 r fun x33 x50=>(bif !within (fnd r x50).minute 0 (r.last - 1) then true else !decide ((↑((fnd r x50).new.length):Int)=r.plates))=false->(!bif !within (fnd r x50).minute 0 (r.last - 1) then true else !decide ((↑((fnd r x50).new.length):Int)=r.plates))=true)
 (o30:q63_10 r fun x33 x50=>inI ((↑(r.machines.length):Int) - 1))
 (o31:q63_10 r fun x33 x50=>(fnd r x50).frm.length<=1125899906842624)
 (o32:q63_9 r fun x33 x50=>(bif bif !within (fnd r x50).minute 0 (r.last - 1) then true else !decide ((↑((fnd r x50).new.length):Int)=r.plates) then true else decide ((↑((fnd r x50).frm.length):Int)=0))=false->(!bif bif !within (fnd r x50).minute 0 (r.last - 1) then true else !decide ((↑((fnd r x50).new.length):Int)=r.plates) then true else decide ((↑((fnd r x50).frm.length):Int)=0))=true)
 (o33:q63_9 r fun x33 x50=>(bif bif bif !within (fnd r x50).minute 0 (r.last - 1) then true else !decide ((↑((fnd r x50).new.length):Int)=r.plates) then true else decide ((↑((fnd r x50).frm.length):Int)=0) then true else !rising (fnd r x50).frm 0 ((↑(r.machines.length):Int) - 1))=true->60=check r)
 (o34:q63_11 r fun x33 x50=>0=(↑0:Int))
 (o35:q63_11 r fun x33 x50=>0<=(fnd r x50).new.length /\ ∀ (j:Nat),j < 0->within ((fnd r x50).new.getD j 0) (-1) 1=true)
 (o36:q63_12 r fun x33 x50 x94=>0<=(x94:Int))
 (o37:q63_12 r fun x33 x50 x94=>(x94:Int) < (↑((fnd r x50).new.length):Int))
 (o38:q63_12 r fun x33 x50 x94=>(!within ((fnd r x50).new.getD x94 0) (-1) 1)=true->60=check r)
 (o39:q63_13 r fun x33 x50 x94=>inI ((x94:Int) + 1))
 (o40:q63_13 r fun x33 x50 x94=>(x94:Int) + 1=(↑(x94 + 1):Int))
 (o41:q63_13 r fun x33 x50 x94=>x94 + 1<=(fnd r x50).new.length /\ ∀ (j:Nat),j < x94 + 1->within ((fnd r x50).new.getD j 0) (-1) 1=true)
 (o42:q63_13 r fun x33 x50 x94=>(fnd r x50).new.length - (x94 + 1) < (fnd r x50).new.length - x94)
 (o43:q63_14 r fun x33 x50 x94=>inI ((x50:Int) + 1))
 (o44:q63_14 r fun x33 x50 x94=>(x50:Int) + 1=(↑(x50 + 1):Int))
 (o45:q63_14 r fun x33 x50 x94=>x50 + 1<=r.found.length /\ ∀ (j:Nat),j < x50 + 1->okFndA r (fnd r j)=true)
 (o46:q63_14 r fun x33 x50 x94=>r.found.length - (x50 + 1) < r.found.length - x50)
 (o47:q63_8 r fun x33 => ∀ (x50:Nat),(x50<=r.found.length /\ ∀ (j:Nat),j < x50->okFndA r (fnd r j)=true)->decide ((x50:Int) < (↑(r.found.length):Int))=false->0=check r) :
  Triple Try.prog 63 (s63 r):=by
 refine triple_of Try.func63 rfl Try.call63 T0_ok _ rfl rfl rfl rfl (Nat.le_of_ble_eq_true (by kernel_rfl)) (fun _ _ _ _ h=>h) ?_
 intro hp C hC _ hE
 obtain ⟨P,w0,E0,av,hA⟩:=C
 subst hC
 refine swp_seq ?_
 refine sR (kt:=[1]) (kh:=[0]) (q:=True/\True/\True) (st':=ASt.mk [(1,.ptr 0 [])] [(0,.cells 25 (cRun r))] 16) (by kernel_rfl) ⟨tv,tv,tv⟩ ?_
 refine swp_seq (swp_seq ?_)
 refine swp_region T0_ok mixed (cs:=[(2,CallSpec.eq (s76 r.plates 1 3) [true,true,true]),(7,CallSpec.eq (s76 r.last 1 30) [true,true,true]),(14,CallSpec.eq (s76 (↑(r.machines.length):Int) 1 3) [true,true,true])]) (kt:=[1,31]) (kh:=[0]) (q:=True/\True/\((iv r.plates=iv r.plates/\iv 1=iv 1/\iv 3=iv 3/\True)/\Triple Try.prog 76 (s76 r.plates 1 3)/\True/\True /\ ∀ (i0:Env),True)/\True/\True/\((!!within r.plates 1 3)=true->(True/\True)/\True)/\((!!within r.plates 1 3)=true->(((!!within r.plates 1 3)=true->(!!within r.plates 1 3)=true)/\True)/\True)/\((!!within r.plates 1 3)=true->(True/\((!!within r.plates 1 3)=true->(!!within r.plates 1 3)=true)/\True/\True/\True)/\(iv r.last=iv r.last/\iv 1=iv 1/\iv 30=iv 30/\True)/\Triple Try.prog 76 (s76 r.last 1 30)/\True/\True /\ ∀ (i6:Env),True)/\((!!within r.plates 1 3)=true->(((!!within r.plates 1 3)=true->(!!within r.plates 1 3)=true)/\True)/\True)/\(((!within r.plates 1 3)=true->True)/\((!within r.plates 1 3)=false->(!!within r.plates 1 3)=true))/\True/\((!bif !within r.plates 1 3 then true else !within r.last 1 30)=true->(True/\True)/\True)/\((!bif !within r.plates 1 3 then true else !within r.last 1 30)=true->(((!bif !within r.plates 1 3 then true else !within r.last 1 30)=true->(!bif !within r.plates 1 3 then true else !within r.last 1 30)=true)/\True)/\True)/\((!bif !within r.plates 1 3 then true else !within r.last 1 30)=true->(((!bif !within r.plates 1 3 then true else !within r.last 1 30)=true->(!bif !within r.plates 1 3 then true else !within r.last 1 30)=true)/\True)/\True)/\((!bif !within r.plates 1 3 then true else !within r.last 1 30)=true->(True/\((!bif !within r.plates 1 3 then true else !within r.last 1 30)=true->(!bif !within r.plates 1 3 then true else !within r.last 1 30)=true)/\True/\True/\True)/\(iv (↑(r.machines.length):Int)=iv (↑(r.machines.length):Int)/\iv 1=iv 1/\iv 3=iv 3/\True)/\Triple Try.prog 76 (s76 (↑(r.machines.length):Int) 1 3)/\True/\True /\ ∀ (i18:Env),True)/\((!bif !within r.plates 1 3 then true else !within r.last 1 30)=true->(((!bif !within r.plates 1 3 then true else !within r.last 1 30)=true->(!bif !within r.plates 1 3 then true else !within r.last 1 30)=true)/\True)/\True)/\(((bif !within r.plates 1 3 then true else !within r.last 1 30)=true->True)/\((bif !within r.plates 1 3 then true else !within r.last 1 30)=false->(!bif !within r.plates 1 3 then true else !within r.last 1 30)=true))/\True/\((!bif bif !within r.plates 1 3 then true else !within r.last 1 30 then true else !within (↑(r.machines.length):Int) 1 3)=true->(True/\True)/\True)/\((!bif bif !within r.plates 1 3 then true else !within r.last 1 30 then true else !within (↑(r.machines.length):Int) 1 3)=true->(((!bif bif !within r.plates 1 3 then true else !within r.last 1 30 then true else !within (↑(r.machines.length):Int) 1 3)=true->(!bif bif !within r.plates 1 3 then true else !within r.last 1 30 then true else !within (↑(r.machines.length):Int) 1 3)=true)/\True)/\True)/\((!bif bif !within r.plates 1 3 then true else !within r.last 1 30 then true else !within (↑(r.machines.length):Int) 1 3)=true->(((!bif bif !within r.plates 1 3 then true else !within r.last 1 30 then true else !within (↑(r.machines.length):Int) 1 3)=true->(!bif bif !within r.plates 1 3 then true else !within r.last 1 30 then true else !within (↑(r.machines.length):Int) 1 3)=true)/\True)/\True)/\((!bif bif !within r.plates 1 3 then true else !within r.last 1 30 then true else !within (↑(r.machines.length):Int) 1 3)=true->(((!bif bif !within r.plates 1 3 then true else !within r.last 1 30 then true else !within (↑(r.machines.length):Int) 1 3)=true->(!bif bif !within r.plates 1 3 then true else !within r.last 1 30 then true else !within (↑(r.machines.length):Int) 1 3)=true)/\True/\True)/\True)/\(((bif bif !within r.plates 1 3 then true else !within r.last 1 30 then true else !within (↑(r.machines.length):Int) 1 3)=true->True)/\((bif bif !within r.plates 1 3 then true else !within r.last 1 30 then true else !within (↑(r.machines.length):Int) 1 3)=false->(!bif bif !within r.plates 1 3 then true else !within r.last 1 30 then true else !within (↑(r.machines.length):Int) 1 3)=true))/\True) (st':=ASt.mk [(1,.ptr 0 []),(31,bv (bif bif bif !within r.plates 1 3 then true else !within r.last 1 30 then true else !within (↑(r.machines.length):Int) 1 3 then true else decide (6 < (↑(r.found.length):Int))))] [(0,.cells 25 (cRun r))] 200) (by kernel_rfl) ⟨tv,tv,⟨⟨rfl,rfl,rfl,tv⟩,(t76 r.plates (1) (3)),tv,tv,(fun i0=>tv)⟩,tv,tv,(fun h1=>⟨⟨tv,tv⟩,tv⟩),(fun h2=>⟨⟨(fun h3=>h2),tv⟩,tv⟩),(fun h4=>⟨⟨tv,(fun h5=>h4),tv,tv,tv⟩,⟨rfl,rfl,rfl,tv⟩,(t76 r.last (1) (30)),tv,tv,(fun i6=>tv)⟩),(fun h7=>⟨⟨(fun h8=>h7),tv⟩,tv⟩),⟨(fun h9=>tv),(fun h10=>(o0 hp h10))⟩,tv,(fun h11=>⟨⟨tv,tv⟩,tv⟩),(fun h12=>⟨⟨(fun h13=>h12),tv⟩,tv⟩),(fun h14=>⟨⟨(fun h15=>h14),tv⟩,tv⟩),(fun h16=>⟨⟨tv,(fun h17=>h16),tv,tv,tv⟩,⟨rfl,rfl,rfl,tv⟩,(t76 ((↑(r.machines.length):Int)) (1) (3)),tv,tv,(fun i18=>tv)⟩),(fun h19=>⟨⟨(fun h20=>h19),tv⟩,tv⟩),⟨(fun h21=>tv),(fun h22=>(o1 hp h22))⟩,tv,(fun h23=>⟨⟨tv,tv⟩,tv⟩),(fun h24=>⟨⟨(fun h25=>h24),tv⟩,tv⟩),(fun h26=>⟨⟨(fun h27=>h26),tv⟩,tv⟩),(fun h28=>⟨⟨(fun h29=>h28),tv,tv⟩,tv⟩),⟨(fun h30=>tv),(fun h31=>(o2 hp h31))⟩,tv⟩ ?_
 refine swp_cond (bif bif bif !within r.plates 1 3 then true else !within r.last 1 30 then true else !within (↑(r.machines.length):Int) 1 3 then true else decide (6 < (↑(r.found.length):Int))) (by kernel_rfl) (fun h32 => ?_) (fun h32 => ?_)
 ·refine swp_seq ?_
  refine sR (kt:=[2]) (kh:=[]) (q:=True/\True) (st':=ASt.mk [(2,iv 60)] [] 208) (by kernel_rfl) ⟨tv,tv⟩ ?_
  refine swp_ret ?_
  exact ret_q [] ((True/\True)/\(iv 60=iv (check r)/\nilN = [])/\T3) (by kernel_rfl) ⟨⟨tv,tv⟩,⟨(congrArg iv (o3 hp h32)),rfl⟩,rfl,rfl,rfl⟩
 ·refine swp_skip (swp_seq (swp_seq ?_))
  refine sR (kt:=[1,3]) (kh:=[0]) (q:=True/\True) (st':=ASt.mk [(1,.ptr 0 []),(3,iv 0)] [(0,.cells 25 (cRun r))] 208) (by kernel_rfl) ⟨tv,tv⟩ ?_
  refine swp_block ?_
  refine swp_loopA (Hint.ann (h63a r) [(1,AV.ptr 0 [])] [(0,OB.cells 25 (cRun r))] 10208) (ent_q hE [] [(0,.same 0)] [] [0] (((some (Src.same 0)=some (Src.same 0)/\nilP = [])/\(iv 0=iv (↑0:Int)/\nilN = [])/\True)/\((OB.cells 25 (cRun r)=OB.cells 25 (cRun r)/\true=true)/\True)/\T2) (by kernel_rfl) (by kernel_rfl) ⟨⟨⟨rfl,rfl⟩,⟨(congrArg iv (o4 hp h32)),rfl⟩,tv⟩,⟨⟨rfl,rfl⟩,tv⟩,rfl,rfl⟩) (o5 hp h32) (fun (x33:Nat) hx33 => ?_)
  refine swp_seq (swp_seq ?_)
  refine sR (kt:=[1,3,36]) (kh:=[0]) (q:=True/\True/\True/\True/\True/\True) (st':=ASt.mk [(1,.ptr 0 []),(3,iv (x33:Int)),(36,bv (decide ((x33:Int) < (↑(r.machines.length):Int))))] [(0,.cells 25 (cRun r))] 10248) (by kernel_rfl) ⟨tv,tv,tv,tv,tv,tv⟩ ?_
  refine swp_cond (decide ((x33:Int) < (↑(r.machines.length):Int))) (by kernel_rfl) (fun h34 => ?_) (fun h34 => ?_)
  ·refine swp_skip (swp_seq (swp_block (swp_seq ?_)))
   refine sR (kt:=[1,3,4]) (kh:=[0,10288]) (q:=True/\True/\True/\(0<=(x33:Int)/\(x33:Int) < (↑(r.machines.length):Int))/\True/\True/\True/\True) (st':=ASt.mk [(1,.ptr 0 []),(3,iv (x33:Int)),(4,.ptr 10288 [])] [(0,.cells 25 (cRun r)),(10288,.cells 42 (cMach (mach r x33)))] 10304) (by kernel_rfl) ⟨tv,tv,tv,⟨(o6 hp h32 x33 hx33 h34),(o7 hp h32 x33 hx33 h34)⟩,tv,tv,tv,tv⟩ ?_
   refine swp_seq (swp_seq ?_)
   refine swp_region T0_ok mixed (cs:=[(9,CallSpec.eq (s76 (mach r x33).rate 0 9) [true,true,true])]) (kt:=[1,3,4,55]) (kh:=[0,10288]) (q:=True/\True/\True/\True/\True/\True/\True/\((!!decide ((↑((mach r x33).changes.length):Int)=r.plates))->(True/\True)/\True)/\((!!decide ((↑((mach r x33).changes.length):Int)=r.plates))->(((!!decide ((↑((mach r x33).changes.length):Int)=r.plates))->(!!decide ((↑((mach r x33).changes.length):Int)=r.plates))=true)/\True)/\True)/\((!!decide ((↑((mach r x33).changes.length):Int)=r.plates))->(True/\((!!decide ((↑((mach r x33).changes.length):Int)=r.plates))->(!!decide ((↑((mach r x33).changes.length):Int)=r.plates))=true)/\True/\True/\True)/\(iv (mach r x33).rate=iv (mach r x33).rate/\iv 0=iv 0/\iv 9=iv 9/\True)/\Triple Try.prog 76 (s76 (mach r x33).rate 0 9)/\True/\True /\ ∀ (i40:Env),True)/\((!!decide ((↑((mach r x33).changes.length):Int)=r.plates))->(((!!decide ((↑((mach r x33).changes.length):Int)=r.plates))->(!!decide ((↑((mach r x33).changes.length):Int)=r.plates))=true)/\True)/\True)/\(((!decide ((↑((mach r x33).changes.length):Int)=r.plates))->True)/\((!decide ((↑((mach r x33).changes.length):Int)=r.plates))=false->(!!decide ((↑((mach r x33).changes.length):Int)=r.plates))=true))/\True) (st':=ASt.mk [(1,.ptr 0 []),(3,iv (x33:Int)),(4,.ptr 10288 []),(55,bv (bif !decide ((↑((mach r x33).changes.length):Int)=r.plates) then true else !within (mach r x33).rate 0 9))] [(0,.cells 25 (cRun r)),(10288,.cells 42 (cMach (mach r x33)))] 10400) (by kernel_rfl) ⟨tv,tv,tv,tv,tv,tv,tv,(fun h35=>⟨⟨tv,tv⟩,tv⟩),(fun h36=>⟨⟨(fun h37=>h36),tv⟩,tv⟩),(fun h38=>⟨⟨tv,(fun h39=>h38),tv,tv,tv⟩,⟨rfl,rfl,rfl,tv⟩,(t76 (mach r x33).rate (0) (9)),tv,tv,(fun i40=>tv)⟩),(fun h41=>⟨⟨(fun h42=>h41),tv⟩,tv⟩),⟨(fun h43=>tv),(fun h44=>(o8 hp h32 x33 hx33 h34 h44))⟩,tv⟩ ?_
   refine swp_cond (bif !decide ((↑((mach r x33).changes.length):Int)=r.plates) then true else !within (mach r x33).rate 0 9) (by kernel_rfl) (fun h45 => ?_) (fun h45 => ?_)
   ·refine swp_seq ?_
    refine sR (kt:=[2]) (kh:=[]) (q:=True/\True) (st':=ASt.mk [(2,iv 60)] [] 10408) (by kernel_rfl) ⟨tv,tv⟩ ?_
    refine swp_ret ?_
    exact ret_q [] ((True/\True)/\(iv 60=iv (check r)/\nilN = [])/\T3) (by kernel_rfl) ⟨⟨tv,tv⟩,⟨(congrArg iv (o9 hp h32 x33 hx33 h34 h45)),rfl⟩,rfl,rfl,rfl⟩
   ·refine swp_skip (swp_seq ?_)
    refine sR (kt:=[1,3,4,5]) (kh:=[0,10288]) (q:=True/\True) (st':=ASt.mk [(1,.ptr 0 []),(3,iv (x33:Int)),(4,.ptr 10288 []),(5,iv 0)] [(0,.cells 25 (cRun r)),(10288,.cells 42 (cMach (mach r x33)))] 10408) (by kernel_rfl) ⟨tv,tv⟩ ?_
    refine swp_block ?_
    refine swp_loopA (Hint.ann (h63b r x33) [(1,AV.ptr 0 []),(3,iv (x33:Int)),(4,AV.ptr 10288 [])] [(0,OB.cells 25 (cRun r)),(10288,OB.cells 42 (cMach (mach r x33)))] 20408) (ent_q hE [] [(0,.same 0),(10288,.same 10288)] [3] [0,10288] (((some (Src.same 0)=some (Src.same 0)/\nilP = [])/\(iv (x33:Int)=iv (x33:Int)/\true=true)/\(some (Src.same 10288)=some (Src.same 10288)/\nilP = [])/\(iv 0=iv (↑0:Int)/\nilN = [])/\True)/\((OB.cells 25 (cRun r)=OB.cells 25 (cRun r)/\true=true)/\(OB.cells 42 (cMach (mach r x33))=OB.cells 42 (cMach (mach r x33))/\true=true)/\True)/\T2) (by kernel_rfl) (by kernel_rfl) ⟨⟨⟨rfl,rfl⟩,⟨rfl,rfl⟩,⟨rfl,rfl⟩,⟨(congrArg iv (o10 hp h32 x33 hx33 h34 h45)),rfl⟩,tv⟩,⟨⟨rfl,rfl⟩,⟨rfl,rfl⟩,tv⟩,rfl,rfl⟩) (o11 hp h32 x33 hx33 h34 h45) (fun (x46:Nat) hx46 => ?_)
    refine swp_seq (swp_seq ?_)
    refine sR (kt:=[1,3,4,5,60]) (kh:=[0,10288]) (q:=True/\True/\True/\True/\True/\True) (st':=ASt.mk [(1,.ptr 0 []),(3,iv (x33:Int)),(4,.ptr 10288 []),(5,iv (x46:Int)),(60,bv (decide ((x46:Int) < (↑((mach r x33).changes.length):Int))))] [(0,.cells 25 (cRun r)),(10288,.cells 42 (cMach (mach r x33)))] 20448) (by kernel_rfl) ⟨tv,tv,tv,tv,tv,tv⟩ ?_
    refine swp_cond (decide ((x46:Int) < (↑((mach r x33).changes.length):Int))) (by kernel_rfl) (fun h47 => ?_) (fun h47 => ?_)
    ·refine swp_skip (swp_seq (swp_block (swp_seq ?_)))
     refine swp_region T0_ok mixed (cs:=[(7,CallSpec.eq (s105 ((mach r x33).changes.getD x46 default) r.last) [true,true])]) (kt:=[1,3,4,5,71]) (kh:=[0,10288]) (q:=True/\True/\True/\(0<=(x46:Int)/\(x46:Int) < (↑((mach r x33).changes.length):Int))/\True/\True/\True/\((AV.agg (cSpan ((mach r x33).changes.getD x46 default))=AV.agg (cSpan ((mach r x33).changes.getD x46 default))/\iv r.last=iv r.last/\True)/\Triple Try.prog 105 (s105 ((mach r x33).changes.getD x46 default) r.last)/\True/\True /\ ∀ (i48:Env),True)/\True/\True) (st':=ASt.mk [(1,.ptr 0 []),(3,iv (x33:Int)),(4,.ptr 10288 []),(5,iv (x46:Int)),(71,bv !isSpan ((mach r x33).changes.getD x46 default) r.last)] [(0,.cells 25 (cRun r)),(10288,.cells 42 (cMach (mach r x33)))] 20520) (by kernel_rfl) ⟨tv,tv,tv,⟨(o12 hp h32 x33 hx33 h34 h45 x46 hx46 h47),(o13 hp h32 x33 hx33 h34 h45 x46 hx46 h47)⟩,tv,tv,tv,⟨⟨rfl,rfl,tv⟩,(t105 ((mach r x33).changes.getD x46 default) r.last),tv,tv,(fun i48=>tv)⟩,tv,tv⟩ ?_
     refine swp_cond (!isSpan ((mach r x33).changes.getD x46 default) r.last) (by kernel_rfl) (fun h49 => ?_) (fun h49 => ?_)
     ·refine swp_seq ?_
      refine sR (kt:=[2]) (kh:=[]) (q:=True/\True) (st':=ASt.mk [(2,iv 60)] [] 20528) (by kernel_rfl) ⟨tv,tv⟩ ?_
      refine swp_ret ?_
      exact ret_q [] ((True/\True)/\(iv 60=iv (check r)/\nilN = [])/\T3) (by kernel_rfl) ⟨⟨tv,tv⟩,⟨(congrArg iv (o14 hp h32 x33 hx33 h34 h45 x46 hx46 h47 h49)),rfl⟩,rfl,rfl,rfl⟩
     ·refine swp_skip ?_
      refine sR (kt:=[1,3,4,5]) (kh:=[0,10288]) (q:=True/\inI ((x46:Int) + 1)/\True/\True) (st':=ASt.mk [(1,.ptr 0 []),(3,iv (x33:Int)),(4,.ptr 10288 []),(5,iv ((x46:Int) + 1))] [(0,.cells 25 (cRun r)),(10288,.cells 42 (cMach (mach r x33)))] 20544) (by kernel_rfl) ⟨tv,(o15 hp h32 x33 hx33 h34 h45 x46 hx46 h47 h49),tv,tv⟩ ?_
      exact loop_next (Hint.ann (h63b r x33) [(1,AV.ptr 0 []),(3,iv (x33:Int)),(4,AV.ptr 10288 [])] [(0,OB.cells 25 (cRun r)),(10288,OB.cells 42 (cMach (mach r x33)))] 20408) x46 (ent_q hE [] [(0,.same 0),(10288,.same 10288)] [3] [0,10288] (((some (Src.same 0)=some (Src.same 0)/\nilP = [])/\(iv (x33:Int)=iv (x33:Int)/\true=true)/\(some (Src.same 10288)=some (Src.same 10288)/\nilP = [])/\(iv ((x46:Int) + 1)=iv (↑(x46 + 1):Int)/\nilN = [])/\True)/\((OB.cells 25 (cRun r)=OB.cells 25 (cRun r)/\true=true)/\(OB.cells 42 (cMach (mach r x33))=OB.cells 42 (cMach (mach r x33))/\true=true)/\True)/\T2) (by kernel_rfl) (by kernel_rfl) ⟨⟨⟨rfl,rfl⟩,⟨rfl,rfl⟩,⟨rfl,rfl⟩,⟨(congrArg iv (o16 hp h32 x33 hx33 h34 h45 x46 hx46 h47 h49)),rfl⟩,tv⟩,⟨⟨rfl,rfl⟩,⟨rfl,rfl⟩,tv⟩,rfl,rfl⟩) (o17 hp h32 x33 hx33 h34 h45 x46 hx46 h47 h49) (o18 hp h32 x33 hx33 h34 h45 x46 hx46 h47 h49)
    ·refine swp_exit ?_
     refine sR (kt:=[1,3]) (kh:=[0]) (q:=True/\inI ((x33:Int) + 1)/\True/\True) (st':=ASt.mk [(1,.ptr 0 []),(3,iv ((x33:Int) + 1))] [(0,.cells 25 (cRun r))] 20472) (by kernel_rfl) ⟨tv,(o19 hp h32 x33 hx33 h34 h45 x46 hx46 h47),tv,tv⟩ ?_
     exact loop_next (Hint.ann (h63a r) [(1,AV.ptr 0 [])] [(0,OB.cells 25 (cRun r))] 10208) x33 (ent_q hE [] [(0,.same 0)] [] [0] (((some (Src.same 0)=some (Src.same 0)/\nilP = [])/\(iv ((x33:Int) + 1)=iv (↑(x33 + 1):Int)/\nilN = [])/\True)/\((OB.cells 25 (cRun r)=OB.cells 25 (cRun r)/\true=true)/\True)/\T2) (by kernel_rfl) (by kernel_rfl) ⟨⟨⟨rfl,rfl⟩,⟨(congrArg iv (o20 hp h32 x33 hx33 h34 h45 x46 hx46 h47)),rfl⟩,tv⟩,⟨⟨rfl,rfl⟩,tv⟩,rfl,rfl⟩) (o21 hp h32 x33 hx33 h34 h45 x46 hx46 h47) (o22 hp h32 x33 hx33 h34 h45 x46 hx46 h47)
  ·refine swp_exit (swp_seq (swp_seq ?_))
   refine sR (kt:=[1,6]) (kh:=[0]) (q:=True/\True) (st':=ASt.mk [(1,.ptr 0 []),(6,iv 0)] [(0,.cells 25 (cRun r))] 10256) (by kernel_rfl) ⟨tv,tv⟩ ?_
   refine swp_block ?_
   refine swp_loopA (Hint.ann (h63c r) [(1,AV.ptr 0 [])] [(0,OB.cells 25 (cRun r))] 20256) (ent_q hE [] [(0,.same 0)] [] [0] (((some (Src.same 0)=some (Src.same 0)/\nilP = [])/\(iv 0=iv (↑0:Int)/\nilN = [])/\True)/\((OB.cells 25 (cRun r)=OB.cells 25 (cRun r)/\true=true)/\True)/\T2) (by kernel_rfl) (by kernel_rfl) ⟨⟨⟨rfl,rfl⟩,⟨(congrArg iv (o23 hp h32 x33 hx33 h34)),rfl⟩,tv⟩,⟨⟨rfl,rfl⟩,tv⟩,rfl,rfl⟩) (o24 hp h32 x33 hx33 h34) (fun (x50:Nat) hx50 => ?_)
   refine swp_seq (swp_seq ?_)
   refine sR (kt:=[1,6,76]) (kh:=[0]) (q:=True/\True/\True/\True/\True/\True) (st':=ASt.mk [(1,.ptr 0 []),(6,iv (x50:Int)),(76,bv (decide ((x50:Int) < (↑(r.found.length):Int))))] [(0,.cells 25 (cRun r))] 20296) (by kernel_rfl) ⟨tv,tv,tv,tv,tv,tv⟩ ?_
   refine swp_cond (decide ((x50:Int) < (↑(r.found.length):Int))) (by kernel_rfl) (fun h51 => ?_) (fun h51 => ?_)
   ·refine swp_skip (swp_seq (swp_block (swp_seq ?_)))
    refine sR (kt:=[1,6,7]) (kh:=[0,20336]) (q:=True/\True/\True/\(0<=(x50:Int)/\(x50:Int) < (↑(r.found.length):Int))/\True/\True/\True/\True) (st':=ASt.mk [(1,.ptr 0 []),(6,iv (x50:Int)),(7,.ptr 20336 [])] [(0,.cells 25 (cRun r)),(20336,.cells 32 (cFnd (fnd r x50)))] 20352) (by kernel_rfl) ⟨tv,tv,tv,⟨(o25 hp h32 x33 hx33 h34 x50 hx50 h51),(o26 hp h32 x33 hx33 h34 x50 hx50 h51)⟩,tv,tv,tv,tv⟩ ?_
    refine swp_seq (swp_seq ?_)
    refine swp_region T0_ok mixed (cs:=[(5,CallSpec.eq (s76 (fnd r x50).minute 0 (r.last - 1)) [true,true,true]),(28,CallSpec.eq (s52 (fnd r x50).frm 0 ((↑(r.machines.length):Int) - 1)) [true,true,true])]) (kt:=[1,6,7,114]) (kh:=[0,20336]) (q:=True/\True/\True/\True/\inI (r.last - 1)/\((iv (fnd r x50).minute=iv (fnd r x50).minute/\iv 0=iv 0/\iv (r.last - 1)=iv (r.last - 1)/\True)/\Triple Try.prog 76 (s76 (fnd r x50).minute 0 (r.last - 1))/\True/\True /\ ∀ (i52:Env),True)/\True/\True/\((!!within (fnd r x50).minute 0 (r.last - 1))=true->(True/\True)/\True)/\((!!within (fnd r x50).minute 0 (r.last - 1))=true->(((!!within (fnd r x50).minute 0 (r.last - 1))=true->(!!within (fnd r x50).minute 0 (r.last - 1))=true)/\True)/\True)/\((!!within (fnd r x50).minute 0 (r.last - 1))=true->(((!!within (fnd r x50).minute 0 (r.last - 1))=true->(!!within (fnd r x50).minute 0 (r.last - 1))=true)/\True)/\True)/\((!!within (fnd r x50).minute 0 (r.last - 1))=true->(True/\True)/\True)/\((!!within (fnd r x50).minute 0 (r.last - 1))=true->(((!!within (fnd r x50).minute 0 (r.last - 1))=true->(!!within (fnd r x50).minute 0 (r.last - 1))=true)/\True)/\True)/\((!!within (fnd r x50).minute 0 (r.last - 1))=true->(((!!within (fnd r x50).minute 0 (r.last - 1))=true->(!!within (fnd r x50).minute 0 (r.last - 1))=true)/\((!!within (fnd r x50).minute 0 (r.last - 1))=true->(!!within (fnd r x50).minute 0 (r.last - 1))=true)/\True)/\True)/\(((!within (fnd r x50).minute 0 (r.last - 1))=true->True)/\((!within (fnd r x50).minute 0 (r.last - 1))=false->(!!within (fnd r x50).minute 0 (r.last - 1))=true))/\True/\((!bif !within (fnd r x50).minute 0 (r.last - 1) then true else !decide ((↑((fnd r x50).new.length):Int)=r.plates))=true->(True/\True)/\True)/\((!bif !within (fnd r x50).minute 0 (r.last - 1) then true else !decide ((↑((fnd r x50).new.length):Int)=r.plates))=true->(((!bif !within (fnd r x50).minute 0 (r.last - 1) then true else !decide ((↑((fnd r x50).new.length):Int)=r.plates))=true->(!bif !within (fnd r x50).minute 0 (r.last - 1) then true else !decide ((↑((fnd r x50).new.length):Int)=r.plates))=true)/\True)/\True)/\((!bif !within (fnd r x50).minute 0 (r.last - 1) then true else !decide ((↑((fnd r x50).new.length):Int)=r.plates))=true->(((!bif !within (fnd r x50).minute 0 (r.last - 1) then true else !decide ((↑((fnd r x50).new.length):Int)=r.plates))=true->(!bif !within (fnd r x50).minute 0 (r.last - 1) then true else !decide ((↑((fnd r x50).new.length):Int)=r.plates))=true)/\True)/\True)/\((!bif !within (fnd r x50).minute 0 (r.last - 1) then true else !decide ((↑((fnd r x50).new.length):Int)=r.plates))=true->(((!bif !within (fnd r x50).minute 0 (r.last - 1) then true else !decide ((↑((fnd r x50).new.length):Int)=r.plates))=true->(!bif !within (fnd r x50).minute 0 (r.last - 1) then true else !decide ((↑((fnd r x50).new.length):Int)=r.plates))=true)/\True/\True)/\True)/\(((bif !within (fnd r x50).minute 0 (r.last - 1) then true else !decide ((↑((fnd r x50).new.length):Int)=r.plates))=true->True)/\((bif !within (fnd r x50).minute 0 (r.last - 1) then true else !decide ((↑((fnd r x50).new.length):Int)=r.plates))=false->(!bif !within (fnd r x50).minute 0 (r.last - 1) then true else !decide ((↑((fnd r x50).new.length):Int)=r.plates))=true))/\True/\((!bif bif !within (fnd r x50).minute 0 (r.last - 1) then true else !decide ((↑((fnd r x50).new.length):Int)=r.plates) then true else decide ((↑((fnd r x50).frm.length):Int)=0))=true->(True/\True)/\True)/\((!bif bif !within (fnd r x50).minute 0 (r.last - 1) then true else !decide ((↑((fnd r x50).new.length):Int)=r.plates) then true else decide ((↑((fnd r x50).frm.length):Int)=0))=true->(((!bif bif !within (fnd r x50).minute 0 (r.last - 1) then true else !decide ((↑((fnd r x50).new.length):Int)=r.plates) then true else decide ((↑((fnd r x50).frm.length):Int)=0))=true->(!bif bif !within (fnd r x50).minute 0 (r.last - 1) then true else !decide ((↑((fnd r x50).new.length):Int)=r.plates) then true else decide ((↑((fnd r x50).frm.length):Int)=0))=true)/\True)/\True)/\((!bif bif !within (fnd r x50).minute 0 (r.last - 1) then true else !decide ((↑((fnd r x50).new.length):Int)=r.plates) then true else decide ((↑((fnd r x50).frm.length):Int)=0))=true->(True/\True)/\True)/\((!bif bif !within (fnd r x50).minute 0 (r.last - 1) then true else !decide ((↑((fnd r x50).new.length):Int)=r.plates) then true else decide ((↑((fnd r x50).frm.length):Int)=0))=true->(((!bif bif !within (fnd r x50).minute 0 (r.last - 1) then true else !decide ((↑((fnd r x50).new.length):Int)=r.plates) then true else decide ((↑((fnd r x50).frm.length):Int)=0))=true->(!bif bif !within (fnd r x50).minute 0 (r.last - 1) then true else !decide ((↑((fnd r x50).new.length):Int)=r.plates) then true else decide ((↑((fnd r x50).frm.length):Int)=0))=true)/\True)/\True)/\((!bif bif !within (fnd r x50).minute 0 (r.last - 1) then true else !decide ((↑((fnd r x50).new.length):Int)=r.plates) then true else decide ((↑((fnd r x50).frm.length):Int)=0))=true->(((!bif bif !within (fnd r x50).minute 0 (r.last - 1) then true else !decide ((↑((fnd r x50).new.length):Int)=r.plates) then true else decide ((↑((fnd r x50).frm.length):Int)=0))=true->(!bif bif !within (fnd r x50).minute 0 (r.last - 1) then true else !decide ((↑((fnd r x50).new.length):Int)=r.plates) then true else decide ((↑((fnd r x50).frm.length):Int)=0))=true)/\True)/\True)/\((!bif bif !within (fnd r x50).minute 0 (r.last - 1) then true else !decide ((↑((fnd r x50).new.length):Int)=r.plates) then true else decide ((↑((fnd r x50).frm.length):Int)=0))=true->(((!bif bif !within (fnd r x50).minute 0 (r.last - 1) then true else !decide ((↑((fnd r x50).new.length):Int)=r.plates) then true else decide ((↑((fnd r x50).frm.length):Int)=0))=true->(!bif bif !within (fnd r x50).minute 0 (r.last - 1) then true else !decide ((↑((fnd r x50).new.length):Int)=r.plates) then true else decide ((↑((fnd r x50).frm.length):Int)=0))=true)/\True/\True)/\inI ((↑(r.machines.length):Int) - 1))/\((!bif bif !within (fnd r x50).minute 0 (r.last - 1) then true else !decide ((↑((fnd r x50).new.length):Int)=r.plates) then true else decide ((↑((fnd r x50).frm.length):Int)=0))=true->(True/\((!bif bif !within (fnd r x50).minute 0 (r.last - 1) then true else !decide ((↑((fnd r x50).new.length):Int)=r.plates) then true else decide ((↑((fnd r x50).frm.length):Int)=0))=true->(!bif bif !within (fnd r x50).minute 0 (r.last - 1) then true else !decide ((↑((fnd r x50).new.length):Int)=r.plates) then true else decide ((↑((fnd r x50).frm.length):Int)=0))=true)/\True/\((!bif bif !within (fnd r x50).minute 0 (r.last - 1) then true else !decide ((↑((fnd r x50).new.length):Int)=r.plates) then true else decide ((↑((fnd r x50).frm.length):Int)=0))=true->(!bif bif !within (fnd r x50).minute 0 (r.last - 1) then true else !decide ((↑((fnd r x50).new.length):Int)=r.plates) then true else decide ((↑((fnd r x50).frm.length):Int)=0))=true)/\True)/\(aInts (fnd r x50).frm=aInts (fnd r x50).frm/\iv 0=iv 0/\iv ((↑(r.machines.length):Int) - 1)=iv ((↑(r.machines.length):Int) - 1)/\True)/\Triple Try.prog 52 (s52 (fnd r x50).frm 0 ((↑(r.machines.length):Int) - 1))/\(fnd r x50).frm.length<=1125899906842624/\True /\ ∀ (i88:Env),True)/\((!bif bif !within (fnd r x50).minute 0 (r.last - 1) then true else !decide ((↑((fnd r x50).new.length):Int)=r.plates) then true else decide ((↑((fnd r x50).frm.length):Int)=0))=true->(((!bif bif !within (fnd r x50).minute 0 (r.last - 1) then true else !decide ((↑((fnd r x50).new.length):Int)=r.plates) then true else decide ((↑((fnd r x50).frm.length):Int)=0))=true->(!bif bif !within (fnd r x50).minute 0 (r.last - 1) then true else !decide ((↑((fnd r x50).new.length):Int)=r.plates) then true else decide ((↑((fnd r x50).frm.length):Int)=0))=true)/\True)/\True)/\(((bif bif !within (fnd r x50).minute 0 (r.last - 1) then true else !decide ((↑((fnd r x50).new.length):Int)=r.plates) then true else decide ((↑((fnd r x50).frm.length):Int)=0))=true->True)/\((bif bif !within (fnd r x50).minute 0 (r.last - 1) then true else !decide ((↑((fnd r x50).new.length):Int)=r.plates) then true else decide ((↑((fnd r x50).frm.length):Int)=0))=false->(!bif bif !within (fnd r x50).minute 0 (r.last - 1) then true else !decide ((↑((fnd r x50).new.length):Int)=r.plates) then true else decide ((↑((fnd r x50).frm.length):Int)=0))=true))/\True) (st':=ASt.mk [(1,.ptr 0 []),(6,iv (x50:Int)),(7,.ptr 20336 []),(114,bv (bif bif bif !within (fnd r x50).minute 0 (r.last - 1) then true else !decide ((↑((fnd r x50).new.length):Int)=r.plates) then true else decide ((↑((fnd r x50).frm.length):Int)=0) then true else !rising (fnd r x50).frm 0 ((↑(r.machines.length):Int) - 1)))] [(0,.cells 25 (cRun r)),(20336,.cells 32 (cFnd (fnd r x50)))] 20600) (by kernel_rfl) ⟨tv,tv,tv,tv,(o27 hp h32 x33 hx33 h34 x50 hx50 h51),⟨⟨rfl,rfl,rfl,tv⟩,(t76 (fnd r x50).minute (0) (r.last - 1)),tv,tv,(fun i52=>tv)⟩,tv,tv,(fun h53=>⟨⟨tv,tv⟩,tv⟩),(fun h54=>⟨⟨(fun h55=>h54),tv⟩,tv⟩),(fun h56=>⟨⟨(fun h57=>h56),tv⟩,tv⟩),(fun h58=>⟨⟨tv,tv⟩,tv⟩),(fun h59=>⟨⟨(fun h60=>h59),tv⟩,tv⟩),(fun h61=>⟨⟨(fun h62=>h61),(fun h63=>h61),tv⟩,tv⟩),⟨(fun h64=>tv),(fun h65=>(o28 hp h32 x33 hx33 h34 x50 hx50 h51 h65))⟩,tv,(fun h66=>⟨⟨tv,tv⟩,tv⟩),(fun h67=>⟨⟨(fun h68=>h67),tv⟩,tv⟩),(fun h69=>⟨⟨(fun h70=>h69),tv⟩,tv⟩),(fun h71=>⟨⟨(fun h72=>h71),tv,tv⟩,tv⟩),⟨(fun h73=>tv),(fun h74=>(o29 hp h32 x33 hx33 h34 x50 hx50 h51 h74))⟩,tv,(fun h75=>⟨⟨tv,tv⟩,tv⟩),(fun h76=>⟨⟨(fun h77=>h76),tv⟩,tv⟩),(fun h78=>⟨⟨tv,tv⟩,tv⟩),(fun h79=>⟨⟨(fun h80=>h79),tv⟩,tv⟩),(fun h81=>⟨⟨(fun h82=>h81),tv⟩,tv⟩),(fun h83=>⟨⟨(fun h84=>h83),tv,tv⟩,(o30 hp h32 x33 hx33 h34 x50 hx50 h51 h83)⟩),(fun h85=>⟨⟨tv,(fun h86=>h85),tv,(fun h87=>h85),tv⟩,⟨rfl,rfl,rfl,tv⟩,(t52 (fnd r x50).frm (0) ((↑(r.machines.length):Int) - 1)),(o31 hp h32 x33 hx33 h34 x50 hx50 h51 h85),tv,(fun i88=>tv)⟩),(fun h89=>⟨⟨(fun h90=>h89),tv⟩,tv⟩),⟨(fun h91=>tv),(fun h92=>(o32 hp h32 x33 hx33 h34 x50 hx50 h51 h92))⟩,tv⟩ ?_
    refine swp_cond (bif bif bif !within (fnd r x50).minute 0 (r.last - 1) then true else !decide ((↑((fnd r x50).new.length):Int)=r.plates) then true else decide ((↑((fnd r x50).frm.length):Int)=0) then true else !rising (fnd r x50).frm 0 ((↑(r.machines.length):Int) - 1)) (by kernel_rfl) (fun h93 => ?_) (fun h93 => ?_)
    ·refine swp_seq ?_
     refine sR (kt:=[2]) (kh:=[]) (q:=True/\True) (st':=ASt.mk [(2,iv 60)] [] 20608) (by kernel_rfl) ⟨tv,tv⟩ ?_
     refine swp_ret ?_
     exact ret_q [] ((True/\True)/\(iv 60=iv (check r)/\nilN = [])/\T3) (by kernel_rfl) ⟨⟨tv,tv⟩,⟨(congrArg iv (o33 hp h32 x33 hx33 h34 x50 hx50 h51 h93)),rfl⟩,rfl,rfl,rfl⟩
    ·refine swp_skip (swp_seq ?_)
     refine sR (kt:=[1,6,7,8]) (kh:=[0,20336]) (q:=True/\True) (st':=ASt.mk [(1,.ptr 0 []),(6,iv (x50:Int)),(7,.ptr 20336 []),(8,iv 0)] [(0,.cells 25 (cRun r)),(20336,.cells 32 (cFnd (fnd r x50)))] 20608) (by kernel_rfl) ⟨tv,tv⟩ ?_
     refine swp_block ?_
     refine swp_loopA (Hint.ann (h63d r x50) [(1,AV.ptr 0 []),(6,iv (x50:Int)),(7,AV.ptr 20336 [])] [(0,OB.cells 25 (cRun r)),(20336,OB.cells 32 (cFnd (fnd r x50)))] 30608) (ent_q hE [] [(0,.same 0),(20336,.same 20336)] [6] [0,20336] (((some (Src.same 0)=some (Src.same 0)/\nilP = [])/\(iv (x50:Int)=iv (x50:Int)/\true=true)/\(some (Src.same 20336)=some (Src.same 20336)/\nilP = [])/\(iv 0=iv (↑0:Int)/\nilN = [])/\True)/\((OB.cells 25 (cRun r)=OB.cells 25 (cRun r)/\true=true)/\(OB.cells 32 (cFnd (fnd r x50))=OB.cells 32 (cFnd (fnd r x50))/\true=true)/\True)/\T2) (by kernel_rfl) (by kernel_rfl) ⟨⟨⟨rfl,rfl⟩,⟨rfl,rfl⟩,⟨rfl,rfl⟩,⟨(congrArg iv (o34 hp h32 x33 hx33 h34 x50 hx50 h51 h93)),rfl⟩,tv⟩,⟨⟨rfl,rfl⟩,⟨rfl,rfl⟩,tv⟩,rfl,rfl⟩) (o35 hp h32 x33 hx33 h34 x50 hx50 h51 h93) (fun (x94:Nat) hx94 => ?_)
     refine swp_seq (swp_seq ?_)
     refine sR (kt:=[1,6,7,8,119]) (kh:=[0,20336]) (q:=True/\True/\True/\True/\True/\True) (st':=ASt.mk [(1,.ptr 0 []),(6,iv (x50:Int)),(7,.ptr 20336 []),(8,iv (x94:Int)),(119,bv (decide ((x94:Int) < (↑((fnd r x50).new.length):Int))))] [(0,.cells 25 (cRun r)),(20336,.cells 32 (cFnd (fnd r x50)))] 30648) (by kernel_rfl) ⟨tv,tv,tv,tv,tv,tv⟩ ?_
     refine swp_cond (decide ((x94:Int) < (↑((fnd r x50).new.length):Int))) (by kernel_rfl) (fun h95 => ?_) (fun h95 => ?_)
     ·refine swp_skip (swp_seq (swp_block (swp_seq ?_)))
      refine swp_region T0_ok mixed (cs:=[(5,CallSpec.eq (s76 ((fnd r x50).new.getD x94 0) (-1) 1) [true,true,true])]) (kt:=[1,6,7,8,128]) (kh:=[0,20336]) (q:=True/\True/\True/\(0<=(x94:Int)/\(x94:Int) < (↑((fnd r x50).new.length):Int))/\True/\((iv ((fnd r x50).new.getD x94 0)=iv ((fnd r x50).new.getD x94 0)/\iv (-1)=iv (-1)/\iv 1=iv 1/\True)/\Triple Try.prog 76 (s76 ((fnd r x50).new.getD x94 0) (-1) 1)/\True/\True /\ ∀ (i96:Env),True)/\True/\True) (st':=ASt.mk [(1,.ptr 0 []),(6,iv (x50:Int)),(7,.ptr 20336 []),(8,iv (x94:Int)),(128,bv !within ((fnd r x50).new.getD x94 0) (-1) 1)] [(0,.cells 25 (cRun r)),(20336,.cells 32 (cFnd (fnd r x50)))] 30704) (by kernel_rfl) ⟨tv,tv,tv,⟨(o36 hp h32 x33 hx33 h34 x50 hx50 h51 h93 x94 hx94 h95),(o37 hp h32 x33 hx33 h34 x50 hx50 h51 h93 x94 hx94 h95)⟩,tv,⟨⟨rfl,rfl,rfl,tv⟩,(t76 ((fnd r x50).new.getD x94 0) (-1) (1)),tv,tv,(fun i96=>tv)⟩,tv,tv⟩ ?_
      refine swp_cond (!within ((fnd r x50).new.getD x94 0) (-1) 1) (by kernel_rfl) (fun h97 => ?_) (fun h97 => ?_)
      ·refine swp_seq ?_
       refine sR (kt:=[2]) (kh:=[]) (q:=True/\True) (st':=ASt.mk [(2,iv 60)] [] 30712) (by kernel_rfl) ⟨tv,tv⟩ ?_
       refine swp_ret ?_
       exact ret_q [] ((True/\True)/\(iv 60=iv (check r)/\nilN = [])/\T3) (by kernel_rfl) ⟨⟨tv,tv⟩,⟨(congrArg iv (o38 hp h32 x33 hx33 h34 x50 hx50 h51 h93 x94 hx94 h95 h97)),rfl⟩,rfl,rfl,rfl⟩
      ·refine swp_skip ?_
       refine sR (kt:=[1,6,7,8]) (kh:=[0,20336]) (q:=True/\inI ((x94:Int) + 1)/\True/\True) (st':=ASt.mk [(1,.ptr 0 []),(6,iv (x50:Int)),(7,.ptr 20336 []),(8,iv ((x94:Int) + 1))] [(0,.cells 25 (cRun r)),(20336,.cells 32 (cFnd (fnd r x50)))] 30728) (by kernel_rfl) ⟨tv,(o39 hp h32 x33 hx33 h34 x50 hx50 h51 h93 x94 hx94 h95 h97),tv,tv⟩ ?_
       exact loop_next (Hint.ann (h63d r x50) [(1,AV.ptr 0 []),(6,iv (x50:Int)),(7,AV.ptr 20336 [])] [(0,OB.cells 25 (cRun r)),(20336,OB.cells 32 (cFnd (fnd r x50)))] 30608) x94 (ent_q hE [] [(0,.same 0),(20336,.same 20336)] [6] [0,20336] (((some (Src.same 0)=some (Src.same 0)/\nilP = [])/\(iv (x50:Int)=iv (x50:Int)/\true=true)/\(some (Src.same 20336)=some (Src.same 20336)/\nilP = [])/\(iv ((x94:Int) + 1)=iv (↑(x94 + 1):Int)/\nilN = [])/\True)/\((OB.cells 25 (cRun r)=OB.cells 25 (cRun r)/\true=true)/\(OB.cells 32 (cFnd (fnd r x50))=OB.cells 32 (cFnd (fnd r x50))/\true=true)/\True)/\T2) (by kernel_rfl) (by kernel_rfl) ⟨⟨⟨rfl,rfl⟩,⟨rfl,rfl⟩,⟨rfl,rfl⟩,⟨(congrArg iv (o40 hp h32 x33 hx33 h34 x50 hx50 h51 h93 x94 hx94 h95 h97)),rfl⟩,tv⟩,⟨⟨rfl,rfl⟩,⟨rfl,rfl⟩,tv⟩,rfl,rfl⟩) (o41 hp h32 x33 hx33 h34 x50 hx50 h51 h93 x94 hx94 h95 h97) (o42 hp h32 x33 hx33 h34 x50 hx50 h51 h93 x94 hx94 h95 h97)
     ·refine swp_exit ?_
      refine sR (kt:=[1,6]) (kh:=[0]) (q:=True/\inI ((x50:Int) + 1)/\True/\True) (st':=ASt.mk [(1,.ptr 0 []),(6,iv ((x50:Int) + 1))] [(0,.cells 25 (cRun r))] 30672) (by kernel_rfl) ⟨tv,(o43 hp h32 x33 hx33 h34 x50 hx50 h51 h93 x94 hx94 h95),tv,tv⟩ ?_
      exact loop_next (Hint.ann (h63c r) [(1,AV.ptr 0 [])] [(0,OB.cells 25 (cRun r))] 20256) x50 (ent_q hE [] [(0,.same 0)] [] [0] (((some (Src.same 0)=some (Src.same 0)/\nilP = [])/\(iv ((x50:Int) + 1)=iv (↑(x50 + 1):Int)/\nilN = [])/\True)/\((OB.cells 25 (cRun r)=OB.cells 25 (cRun r)/\true=true)/\True)/\T2) (by kernel_rfl) (by kernel_rfl) ⟨⟨⟨rfl,rfl⟩,⟨(congrArg iv (o44 hp h32 x33 hx33 h34 x50 hx50 h51 h93 x94 hx94 h95)),rfl⟩,tv⟩,⟨⟨rfl,rfl⟩,tv⟩,rfl,rfl⟩) (o45 hp h32 x33 hx33 h34 x50 hx50 h51 h93 x94 hx94 h95) (o46 hp h32 x33 hx33 h34 x50 hx50 h51 h93 x94 hx94 h95)
   ·refine swp_exit (swp_seq ?_)
    refine sR (kt:=[2]) (kh:=[]) (q:=True/\True) (st':=ASt.mk [(2,iv 0)] [] 20304) (by kernel_rfl) ⟨tv,tv⟩ ?_
    refine swp_ret ?_
    exact ret_q [] ((True/\True)/\(iv 0=iv (check r)/\nilN = [])/\T3) (by kernel_rfl) ⟨⟨tv,tv⟩,⟨(congrArg iv (o47 hp h32 x33 hx33 h34 x50 hx50 h51)),rfl⟩,rfl,rfl,rfl⟩
theorem t63 (r:Run):Triple Try.prog 63 (s63 r):=by
 apply w63
 case o3=>intro _ h; rw [nbor4'] at h; exact (check_head (by rw [Bool.not_eq_true'] at h; exact h)).symm
 case o9 =>
  intro _ _ x hx hl h
  rw [nbor2] at h
  refine (check_mach (by simpa using hl) ?_).symm
  have h':okMach r (mach r x)=false:=by rw [Bool.not_eq_true'] at h; exact h
  simp [okMachA,h']
 case o14 =>
  intro _ _ x hx hl _ y hy hyl h
  refine (check_mach (by simpa using hl) ?_).symm
  have h':(mach r x).changes.all (fun s=>isSpan s r.last)=false:=not_all _ default _ (by simpa using hyl) (by simpa using h)
  simp [okMachA,h']
 case o15=>intro hf _ x hx hl _ y hy hyl _; have:=hf.2.2.1 x; simp only [decide_eq_true_eq] at hyl; simp only [inI]; omega
 case o17=>intro _ _ x hx hl _ y hy hyl h; exact ⟨by simp only [decide_eq_true_eq] at hyl; omega,lt_succ_cases hy.2 (by simpa [chg] using h)⟩
 case o21 =>
  intro _ _ x hx hl h y hy hyl
  refine ⟨by simp only [decide_eq_true_eq] at hl; omega,lt_succ_cases hx.2 ?_⟩
  rw [nbor2] at h
  have h1:okMach r (mach r x)=true:=by simpa [okMach] using h
  simp only [decide_eq_false_iff_not] at hyl
  have h2:(mach r x).changes.all (fun s=>isSpan s r.last)=true:=all_idx _ default _ (fun j hj=>hy.2 j (by omega))
  simp [okMachA,h1,h2]
 case o27 =>
  intro _ h
  rw [nbor4'] at h
  (repeat intro _)
  simp only [Bool.not_eq_false',Bool.and_eq_true,within_iff] at h
  simp only [inI]; omega
 case o33 =>
  intro _ _ _ _ _ x hx hl h
  rw [nbor4''] at h
  refine (check_fnd (by simpa using hl) ?_).symm
  have h':okFnd r (fnd r x)=false:=by rw [Bool.not_eq_true'] at h; exact h
  simp [okFndA,h']
 case o38 =>
  intro _ _ _ _ _ x hx hl _ y hy hyl h
  refine (check_fnd (by simpa using hl) ?_).symm
  have h':(fnd r x).new.all (fun n=>within n (-1) 1)=false:=not_all _ 0 _ (by simpa using hyl) (by simpa using h)
  simp [okFndA,h']
 case o39=>intro hf _ _ _ _ x hx hl _ y hy hyl _; have:=(hf.2.2.2 x).1; simp only [decide_eq_true_eq] at hyl; simp only [inI]; omega
 case o41=>intro _ _ _ _ _ x hx hl _ y hy hyl h; exact ⟨by simp only [decide_eq_true_eq] at hyl; omega,lt_succ_cases hy.2 (by simpa using h)⟩
 case o45 =>
  intro _ _ _ _ _ x hx hl h y hy hyl
  refine ⟨by simp only [decide_eq_true_eq] at hl; omega,lt_succ_cases hx.2 ?_⟩
  rw [nbor4''] at h
  have h1:okFnd r (fnd r x)=true:=by simpa [okFnd] using h
  simp only [decide_eq_false_iff_not] at hyl
  have h2:(fnd r x).new.all (fun n=>within n (-1) 1)=true:=all_idx _ 0 _ (fun j hj=>hy.2 j (by omega))
  simp [okFndA,h1,h2]
 case o47 =>
  intro _ h x hx hl y hy hyl
  rw [nbor4'] at h
  simp only [decide_eq_false_iff_not] at hl hyl
  have:=okRun_of (r:=r) (by simpa [okHead] using h) (fun j hj=>hx.2 j (by omega)) (fun j hj=>hy.2 j (by omega))
  exact (check_zero.2 this).symm
 all_goals (try ((repeat intro _) <;> (try simp only [v0,v1,v2,v3,v4,v5,v6,v7,v8,v9,inI,fits,Go.Sh.small] at *) <;> first | (exact rfl) | omega | exact vz | (simp_all; done) | (simp_all; omega)))
abbrev q30_1 (r:Run) (C:Prop):Prop:=fits r->huge r=false->(!decide (check r=0))=false->C
abbrev q30_2 (r:Run) (C:Nat->Prop):Prop:=q30_1 r (∀ (x4:Nat),x4<=r.found.length->decide ((x4:Int) < (↑(r.found.length):Int))=true->C x4)
theorem w30 (r:Run)
 (o0:fits r->huge r=true->true=far r)
 (o1:fits r->huge r=false->(!decide (check r=0))->false=far r)
 (o2:q30_1 r (1=prodTo r 0))
 (o3:q30_1 r (0=(↑0:Int)))
 (o4:q30_1 r (0<=r.found.length))
 (o5:q30_2 r fun x4=>0<=(x4:Int))
 (o6:q30_2 r fun x4=>(x4:Int) < (↑(r.found.length):Int))
 (o7:q30_2 r fun x4=>inI (prodTo r x4 * (↑((fnd r x4).frm.length):Int)))
 (o8:q30_2 r fun x4=>inI ((x4:Int) + 1))
 (o9:q30_2 r fun x4=>prodTo r x4 * (↑((fnd r x4).frm.length):Int)=prodTo r (x4 + 1))
 (o10:q30_2 r fun x4=>(x4:Int) + 1=(↑(x4 + 1):Int))
 (o11:q30_2 r fun x4=>x4 + 1<=r.found.length)
 (o12:q30_2 r fun x4=>r.found.length - (x4 + 1) < r.found.length - x4)
 (o13:q30_1 r (∀ (x4:Nat),x4<=r.found.length->decide ((x4:Int) < (↑(r.found.length):Int))=false->decide (100 < prodTo r x4)=far r)) :
  Triple Try.prog 30 (s30 r):=by
 refine triple_of Try.func30 rfl Try.call30 T0_ok _ rfl rfl rfl rfl (Nat.le_of_ble_eq_true (by kernel_rfl)) (fun _ _ _ _ h=>h) ?_
 intro hp C hC _ hE
 obtain ⟨P,w0,E0,av,hA⟩:=C
 subst hC
 refine swp_seq ?_
 refine sR (kt:=[1]) (kh:=[0]) (q:=True/\True/\True) (st':=ASt.mk [(1,.ptr 0 [])] [(0,.cells 25 (cRun r))] 16) (by kernel_rfl) ⟨tv,tv,tv⟩ ?_
 refine swp_seq (swp_seq ?_)
 refine swp_region T0_ok mixed (cs:=[(1,CallSpec.eq (s46 r) [true])]) (kt:=[1,6]) (kh:=[0]) (q:=True/\((AV.agg (cRun r)=AV.agg (cRun r)/\True)/\Triple Try.prog 46 (s46 r)/\fits r/\True /\ ∀ (i0:Env),True)/\True) (st':=ASt.mk [(1,.ptr 0 []),(6,bv (huge r))] [(0,.cells 25 (cRun r))] 32) (by kernel_rfl) ⟨tv,⟨⟨rfl,tv⟩,(t46 (r)),hp,tv,(fun i0=>tv)⟩,tv⟩ ?_
 refine swp_cond (huge r) (by kernel_rfl) (fun h1 => ?_) (fun h1 => ?_)
 ·refine swp_seq ?_
  refine sR (kt:=[2]) (kh:=[]) (q:=True/\True) (st':=ASt.mk [(2,bv true)] [] 40) (by kernel_rfl) ⟨tv,tv⟩ ?_
  refine swp_ret ?_
  exact ret_q [] ((True/\True)/\(bv true=bv (far r)/\nilN = [])/\T3) (by kernel_rfl) ⟨⟨tv,tv⟩,⟨(congrArg bv (o0 hp h1)),rfl⟩,rfl,rfl,rfl⟩
 ·refine swp_skip (swp_seq (swp_seq ?_))
  refine swp_region T0_ok mixed (cs:=[(1,CallSpec.eq (s63 r) [true])]) (kt:=[1,9]) (kh:=[0]) (q:=True/\((AV.agg (cRun r)=AV.agg (cRun r)/\True)/\Triple Try.prog 63 (s63 r)/\fits r/\True /\ ∀ (i2:Env),True)/\True/\True) (st':=ASt.mk [(1,.ptr 0 []),(9,bv !decide (check r=0))] [(0,.cells 25 (cRun r))] 56) (by kernel_rfl) ⟨tv,⟨⟨rfl,tv⟩,(t63 (r)),hp,tv,(fun i2=>tv)⟩,tv,tv⟩ ?_
  refine swp_cond (!decide (check r=0)) (by kernel_rfl) (fun h3 => ?_) (fun h3 => ?_)
  ·refine swp_seq ?_
   refine sR (kt:=[2]) (kh:=[]) (q:=True/\True) (st':=ASt.mk [(2,bv false)] [] 64) (by kernel_rfl) ⟨tv,tv⟩ ?_
   refine swp_ret ?_
   exact ret_q [] ((True/\True)/\(bv false=bv (far r)/\nilN = [])/\T3) (by kernel_rfl) ⟨⟨tv,tv⟩,⟨(congrArg bv (o1 hp h1 h3)),rfl⟩,rfl,rfl,rfl⟩
  ·refine swp_skip (swp_seq ?_)
   refine sR (kt:=[1,3]) (kh:=[0]) (q:=True/\True) (st':=ASt.mk [(1,.ptr 0 []),(3,iv 1)] [(0,.cells 25 (cRun r))] 64) (by kernel_rfl) ⟨tv,tv⟩ ?_
   refine swp_seq (swp_seq ?_)
   refine sR (kt:=[1,3,4]) (kh:=[0]) (q:=True/\True) (st':=ASt.mk [(1,.ptr 0 []),(3,iv 1),(4,iv 0)] [(0,.cells 25 (cRun r))] 72) (by kernel_rfl) ⟨tv,tv⟩ ?_
   refine swp_block ?_
   refine swp_loopA (Hint.ann (h30 r) [(1,AV.ptr 0 [])] [(0,OB.cells 25 (cRun r))] 10072) (ent_q hE [] [(0,.same 0)] [] [0] (((some (Src.same 0)=some (Src.same 0)/\nilP = [])/\(iv 1=iv (prodTo r 0)/\nilN = [])/\(iv 0=iv (↑0:Int)/\nilN = [])/\True)/\((OB.cells 25 (cRun r)=OB.cells 25 (cRun r)/\true=true)/\True)/\T2) (by kernel_rfl) (by kernel_rfl) ⟨⟨⟨rfl,rfl⟩,⟨(congrArg iv (o2 hp h1 h3)),rfl⟩,⟨(congrArg iv (o3 hp h1 h3)),rfl⟩,tv⟩,⟨⟨rfl,rfl⟩,tv⟩,rfl,rfl⟩) (o4 hp h1 h3) (fun (x4:Nat) hx4 => ?_)
   refine swp_seq (swp_seq ?_)
   refine sR (kt:=[1,3,4,14]) (kh:=[0]) (q:=True/\True/\True/\True/\True/\True) (st':=ASt.mk [(1,.ptr 0 []),(3,iv (prodTo r x4)),(4,iv (x4:Int)),(14,bv (decide ((x4:Int) < (↑(r.found.length):Int))))] [(0,.cells 25 (cRun r))] 10112) (by kernel_rfl) ⟨tv,tv,tv,tv,tv,tv⟩ ?_
   refine swp_cond (decide ((x4:Int) < (↑(r.found.length):Int))) (by kernel_rfl) (fun h5 => ?_) (fun h5 => ?_)
   ·refine swp_skip (swp_seq (swp_block ?_))
    refine sR (kt:=[1,3,4]) (kh:=[0]) (q:=True/\True/\True/\True/\(0<=(x4:Int)/\(x4:Int) < (↑(r.found.length):Int))/\True/\True/\True/\inI (prodTo r x4 * (↑((fnd r x4).frm.length):Int))/\True/\True) (st':=ASt.mk [(1,.ptr 0 []),(3,iv (prodTo r x4 * (↑((fnd r x4).frm.length):Int))),(4,iv (x4:Int))] [(0,.cells 25 (cRun r))] 10192) (by kernel_rfl) ⟨tv,tv,tv,tv,⟨(o5 hp h1 h3 x4 hx4 h5),(o6 hp h1 h3 x4 hx4 h5)⟩,tv,tv,tv,(o7 hp h1 h3 x4 hx4 h5),tv,tv⟩ ?_
    refine sR (kt:=[1,3,4]) (kh:=[0]) (q:=True/\inI ((x4:Int) + 1)/\True/\True) (st':=ASt.mk [(1,.ptr 0 []),(3,iv (prodTo r x4 * (↑((fnd r x4).frm.length):Int))),(4,iv ((x4:Int) + 1))] [(0,.cells 25 (cRun r))] 10216) (by kernel_rfl) ⟨tv,(o8 hp h1 h3 x4 hx4 h5),tv,tv⟩ ?_
    exact loop_next (Hint.ann (h30 r) [(1,AV.ptr 0 [])] [(0,OB.cells 25 (cRun r))] 10072) x4 (ent_q hE [] [(0,.same 0)] [] [0] (((some (Src.same 0)=some (Src.same 0)/\nilP = [])/\(iv (prodTo r x4 * (↑((fnd r x4).frm.length):Int))=iv (prodTo r (x4 + 1))/\nilN = [])/\(iv ((x4:Int) + 1)=iv (↑(x4 + 1):Int)/\nilN = [])/\True)/\((OB.cells 25 (cRun r)=OB.cells 25 (cRun r)/\true=true)/\True)/\T2) (by kernel_rfl) (by kernel_rfl) ⟨⟨⟨rfl,rfl⟩,⟨(congrArg iv (o9 hp h1 h3 x4 hx4 h5)),rfl⟩,⟨(congrArg iv (o10 hp h1 h3 x4 hx4 h5)),rfl⟩,tv⟩,⟨⟨rfl,rfl⟩,tv⟩,rfl,rfl⟩) (o11 hp h1 h3 x4 hx4 h5) (o12 hp h1 h3 x4 hx4 h5)
   ·refine swp_exit (swp_seq ?_)
    refine sR (kt:=[2]) (kh:=[]) (q:=True/\True/\True/\True) (st':=ASt.mk [(2,bv (decide (100 < prodTo r x4)))] [] 10136) (by kernel_rfl) ⟨tv,tv,tv,tv⟩ ?_
    refine swp_ret ?_
    exact ret_q [] ((True/\True)/\(bv (decide (100 < prodTo r x4))=bv (far r)/\nilN = [])/\T3) (by kernel_rfl) ⟨⟨tv,tv⟩,⟨(congrArg bv (o13 hp h1 h3 x4 hx4 h5)),rfl⟩,rfl,rfl,rfl⟩
theorem t30 (r:Run):Triple Try.prog 30 (s30 r):=by
 apply w30
 case o0=>intro _ h; simp [far,h]
 case o1 =>
  intro _ h h2
  have:okRun r=false:=by
   cases e:okRun r with
   | false=>rfl
   | true=>rw [check_zero.2 e] at h2; cases h2
  simp [far,h,this]
 case o7 =>
  intro _ _ hc x hx hl
  have ok:=ok_of (check_zero.1 (by simpa using hc))
  simp only [decide_eq_true_eq] at hl
  exact prod_in ok (by omega)
 case o9=>(repeat intro _); exact (prodTo_succ _ _).symm
 case o13 =>
  intro _ h hc x hx hl
  have ok:=check_zero.1 (by simpa using hc)
  simp only [decide_eq_false_iff_not] at hl
  have:x=r.found.length:=by omega
  subst this
  simp [far,h,ok]
 all_goals (try ((repeat intro _) <;> (try simp only [v0,v1,v2,v3,v4,v5,v6,v7,v8,v9,inI,fits,Go.Sh.small] at *) <;> first | (exact rfl) | omega | exact vz | (simp_all; done) | (simp_all; omega)))
theorem w17 (r:Run)
  (o0:fits r->(bif !far r then decide (check r=0) else false)=ready r) :
  Triple Try.prog 17 (s17 r):=by
 refine triple_of Try.func17 rfl Try.call17 T0_ok _ rfl rfl rfl rfl (Nat.le_of_ble_eq_true (by kernel_rfl)) (fun _ _ _ _ h=>h) ?_
 intro hp C hC _ hE
 obtain ⟨P,w0,E0,av,hA⟩:=C
 subst hC
 refine swp_seq ?_
 refine sR (kt:=[1]) (kh:=[0]) (q:=True/\True/\True) (st':=ASt.mk [(1,.ptr 0 [])] [(0,.cells 25 (cRun r))] 16) (by kernel_rfl) ⟨tv,tv,tv⟩ ?_
 refine swp_seq ?_
 refine swp_region T0_ok mixed (cs:=[(1,CallSpec.eq (s30 r) [true]),(5,CallSpec.eq (s63 r) [true])]) (kt:=[2]) (kh:=[]) (q:=True/\((AV.agg (cRun r)=AV.agg (cRun r)/\True)/\Triple Try.prog 30 (s30 r)/\fits r/\True /\ ∀ (i0:Env),True)/\True/\True/\((!far r)=true->(True/\True)/\True)/\((!far r)=true->(True/\((!far r)=true->(!far r)=true)/\True)/\(AV.agg (cRun r)=AV.agg (cRun r)/\True)/\Triple Try.prog 63 (s63 r)/\fits r/\True /\ ∀ (i4:Env),True)/\((!far r)=true->(((!far r)=true->(!far r)=true)/\True/\True)/\True)/\(((!far r)=true->(!far r)=true)/\((!far r)=false->True))/\True/\True) (st':=ASt.mk [(2,bv (bif !far r then decide (check r=0) else false))] [] 88) (by kernel_rfl) ⟨tv,⟨⟨rfl,tv⟩,(t30 (r)),hp,tv,(fun i0=>tv)⟩,tv,tv,(fun h1=>⟨⟨tv,tv⟩,tv⟩),(fun h2=>⟨⟨tv,(fun h3=>h2),tv⟩,⟨rfl,tv⟩,(t63 (r)),hp,tv,(fun i4=>tv)⟩),(fun h5=>⟨⟨(fun h6=>h5),tv,tv⟩,tv⟩),⟨(fun h7=>h7),(fun h8=>tv)⟩,tv,tv⟩ ?_
 refine swp_ret ?_
 exact ret_q [] ((True/\True)/\(bv (bif !far r then decide (check r=0) else false)=bv (ready r)/\nilN = [])/\T3) (by kernel_rfl) ⟨⟨tv,tv⟩,⟨(congrArg bv (o0 hp)),rfl⟩,rfl,rfl,rfl⟩
theorem t17 (r:Run):Triple Try.prog 17 (s17 r):=by
 apply w17
 all_goals (try ((repeat intro _) <;> (try simp only [v0,v1,v2,v3,v4,v5,v6,v7,v8,v9,inI,fits,Go.Sh.small] at *) <;> first | (exact rfl) | omega | exact vz | (simp_all; done) | (simp_all; omega)))
abbrev q88_1 (r:Run) (l:List Int) (m:Nat) (p:Nat) (C:Prop):Prop:=okRun r=true/\m < r.machines.length/\(p:Int) < r.plates/\l.length<=r.found.length->C
abbrev q88_2 (r:Run) (l:List Int) (m:Nat) (p:Nat) (C:Nat->Prop):Prop:=q88_1 r l m p (∀ (x0:Nat),x0<=l.length->decide ((x0:Int) < (↑(l.length):Int))=true->C x0)
abbrev q88_3 (r:Run) (l:List Int) (m:Nat) (p:Nat) (C:Nat->Prop):Prop:=q88_2 r l m p fun x0=>(!decide (l.getD x0 0=(m:Int)))->C x0
abbrev q88_4 (r:Run) (l:List Int) (m:Nat) (p:Nat) (C:Nat->Prop):Prop:=q88_2 r l m p fun x0=>(!decide (l.getD x0 0=(m:Int)))=false->C x0
abbrev q88_5 (r:Run) (l:List Int) (m:Nat) (p:Nat) (C:Nat->Prop):Prop:=q88_4 r l m p fun x0=>decide ((fnd r x0).new.getD p 0=1)=true->C x0
abbrev q88_6 (r:Run) (l:List Int) (m:Nat) (p:Nat) (C:Nat->Prop):Prop:=q88_4 r l m p fun x0=>decide ((fnd r x0).new.getD p 0=1)=false->decide ((fnd r x0).new.getD p 0=0)=true->C x0
abbrev q88_7 (r:Run) (l:List Int) (m:Nat) (p:Nat) (C:Nat->Prop):Prop:=q88_4 r l m p fun x0=>decide ((fnd r x0).new.getD p 0=1)=false->decide ((fnd r x0).new.getD p 0=0)=false->C x0
theorem w88 (r:Run) (l:List Int) (m:Nat) (p:Nat)
 (o0:q88_1 r l m p (0<=(m:Int)))
 (o1:q88_1 r l m p ((m:Int) < (↑(r.machines.length):Int)))
 (o2:q88_1 r l m p (0<=(p:Int)))
 (o3:q88_1 r l m p ((p:Int) < (↑((mach r m).changes.length):Int)))
 (o4:q88_1 r l m p (0=(↑0:Int)))
 (o5:q88_1 r l m p (((mach r m).changes.getD p default).lo=(spanTo r l m p 0).lo))
 (o6:q88_1 r l m p (((mach r m).changes.getD p default).hi=(spanTo r l m p 0).hi))
 (o7:q88_1 r l m p (0<=l.length))
 (o8:q88_2 r l m p fun x0=>0<=(x0:Int))
 (o9:q88_2 r l m p fun x0=>(x0:Int) < (↑(l.length):Int))
 (o10:q88_3 r l m p fun x0=>inI ((x0:Int) + 1))
 (o11:q88_3 r l m p fun x0=>(x0:Int) + 1=(↑(x0 + 1):Int))
 (o12:q88_3 r l m p fun x0=>(spanTo r l m p x0).lo=(spanTo r l m p (x0 + 1)).lo)
 (o13:q88_3 r l m p fun x0=>(spanTo r l m p x0).hi=(spanTo r l m p (x0 + 1)).hi)
 (o14:q88_3 r l m p fun x0=>x0 + 1<=l.length)
 (o15:q88_3 r l m p fun x0=>l.length - (x0 + 1) < l.length - x0)
 (o16:q88_4 r l m p fun x0=>0<=(x0:Int))
 (o17:q88_4 r l m p fun x0=>(x0:Int) < (↑(r.found.length):Int))
 (o18:q88_4 r l m p fun x0=>0<=(p:Int))
 (o19:q88_4 r l m p fun x0=>(p:Int) < (↑((fnd r x0).new.length):Int))
 (o20:q88_5 r l m p fun x0=>0<=(x0:Int))
 (o21:q88_5 r l m p fun x0=>(x0:Int) < (↑(r.found.length):Int))
 (o22:q88_5 r l m p fun x0=>inI ((x0:Int) + 1))
 (o23:q88_5 r l m p fun x0=>(x0:Int) + 1=(↑(x0 + 1):Int))
 (o24:q88_5 r l m p fun x0=>(spanTo r l m p x0).lo=(spanTo r l m p (x0 + 1)).lo)
 (o25:q88_5 r l m p fun x0=>min (spanTo r l m p x0).hi (fnd r x0).minute=(spanTo r l m p (x0 + 1)).hi)
 (o26:q88_5 r l m p fun x0=>x0 + 1<=l.length)
 (o27:q88_5 r l m p fun x0=>l.length - (x0 + 1) < l.length - x0)
 (o28:q88_6 r l m p fun x0=>0<=(x0:Int))
 (o29:q88_6 r l m p fun x0=>(x0:Int) < (↑(r.found.length):Int))
 (o30:q88_6 r l m p fun x0=>inI ((fnd r x0).minute + 1))
 (o31:q88_6 r l m p fun x0=>inI ((x0:Int) + 1))
 (o32:q88_6 r l m p fun x0=>(x0:Int) + 1=(↑(x0 + 1):Int))
 (o33:q88_6 r l m p fun x0=>max (spanTo r l m p x0).lo ((fnd r x0).minute + 1)=(spanTo r l m p (x0 + 1)).lo)
 (o34:q88_6 r l m p fun x0=>(spanTo r l m p x0).hi=(spanTo r l m p (x0 + 1)).hi)
 (o35:q88_6 r l m p fun x0=>x0 + 1<=l.length)
 (o36:q88_6 r l m p fun x0=>l.length - (x0 + 1) < l.length - x0)
 (o37:q88_7 r l m p fun x0=>inI ((x0:Int) + 1))
 (o38:q88_7 r l m p fun x0=>(x0:Int) + 1=(↑(x0 + 1):Int))
 (o39:q88_7 r l m p fun x0=>(spanTo r l m p x0).lo=(spanTo r l m p (x0 + 1)).lo)
 (o40:q88_7 r l m p fun x0=>(spanTo r l m p x0).hi=(spanTo r l m p (x0 + 1)).hi)
 (o41:q88_7 r l m p fun x0=>x0 + 1<=l.length)
 (o42:q88_7 r l m p fun x0=>l.length - (x0 + 1) < l.length - x0)
 (o43:q88_1 r l m p (∀ (x0:Nat),x0<=l.length->decide ((x0:Int) < (↑(l.length):Int))=false->(spanTo r l m p x0).lo=(spanOf r l m p).lo))
 (o44:q88_1 r l m p (∀ (x0:Nat),x0<=l.length->decide ((x0:Int) < (↑(l.length):Int))=false->(spanTo r l m p x0).hi=(spanOf r l m p).hi)) :
  Triple Try.prog 88 (s88 r l m p):=by
 refine triple_of Try.func88 rfl Try.call88 T0_ok _ rfl rfl rfl rfl (Nat.le_of_ble_eq_true (by kernel_rfl)) (fun _ _ _ _ h=>h) ?_
 intro hp C hC _ hE
 obtain ⟨P,w0,E0,av,hA⟩:=C
 subst hC
 refine swp_seq ?_
 refine sR (kt:=[1,2,3,4,8]) (kh:=[0,8]) (q:=True/\True/\True) (st':=ASt.mk [(1,aInts l),(2,iv (m:Int)),(3,iv (p:Int)),(4,.ptr 0 []),(8,.ptr 8 [])] [(0,.cells 25 (cRun r)),(8,.cells 37 [iv 0,iv 0])] 16) (by kernel_rfl) ⟨tv,tv,tv⟩ ?_
 refine swp_seq ?_
 refine sR (kt:=[1,2,3,4,8,9]) (kh:=[0,8,88]) (q:=True/\True/\True/\(0<=(m:Int)/\(m:Int) < (↑(r.machines.length):Int))/\True/\True/\True/\(0<=(p:Int)/\(p:Int) < (↑((mach r m).changes.length):Int))/\True/\True/\True/\True) (st':=ASt.mk [(1,aInts l),(2,iv (m:Int)),(3,iv (p:Int)),(4,.ptr 0 []),(8,.ptr 8 []),(9,.ptr 88 [])] [(0,.cells 25 (cRun r)),(8,.cells 37 [iv 0,iv 0]),(88,.cells 37 (cSpan ((mach r m).changes.getD p default)))] 104) (by kernel_rfl) ⟨tv,tv,tv,⟨(o0 hp),(o1 hp)⟩,tv,tv,tv,⟨(o2 hp),(o3 hp)⟩,tv,tv,tv,tv⟩ ?_
 refine swp_seq (swp_seq ?_)
 refine sR (kt:=[1,2,3,4,8,9,10]) (kh:=[0,8,88]) (q:=True/\True) (st':=ASt.mk [(1,aInts l),(2,iv (m:Int)),(3,iv (p:Int)),(4,.ptr 0 []),(8,.ptr 8 []),(9,.ptr 88 []),(10,iv 0)] [(0,.cells 25 (cRun r)),(8,.cells 37 [iv 0,iv 0]),(88,.cells 37 (cSpan ((mach r m).changes.getD p default)))] 112) (by kernel_rfl) ⟨tv,tv⟩ ?_
 refine swp_block ?_
 refine swp_loopA (Hint.ann (h88 r l m p) [(1,aInts l),(2,iv (m:Int)),(3,iv (p:Int)),(4,AV.ptr 0 []),(8,AV.ptr 8 [])] [(0,OB.cells 25 (cRun r)),(8,OB.cells 37 [iv 0,iv 0])] 10112) (ent_q hE [] [(0,.same 0),(8,.same 8),(5000,.same 88)] [1,2,3] [0,8] (((aInts l=aInts l/\true=true)/\(iv (m:Int)=iv (m:Int)/\true=true)/\(iv (p:Int)=iv (p:Int)/\true=true)/\(some (Src.same 0)=some (Src.same 0)/\nilP = [])/\(some (Src.same 8)=some (Src.same 8)/\nilP = [])/\(iv 0=iv (↑0:Int)/\nilN = [])/\(some (Src.same 88)=some (Src.same 88)/\nilP = [])/\True)/\((OB.cells 25 (cRun r)=OB.cells 25 (cRun r)/\true=true)/\(OB.cells 37 [iv 0,iv 0]=OB.cells 37 [iv 0,iv 0]/\true=true)/\(37=37/\((iv ((mach r m).changes.getD p default).lo=iv (spanTo r l m p 0).lo/\nilN = [])/\(iv ((mach r m).changes.getD p default).hi=iv (spanTo r l m p 0).hi/\nilN = [])/\True)/\true=true)/\True)/\T2) (by kernel_rfl) (by kernel_rfl) ⟨⟨⟨rfl,rfl⟩,⟨rfl,rfl⟩,⟨rfl,rfl⟩,⟨rfl,rfl⟩,⟨rfl,rfl⟩,⟨(congrArg iv (o4 hp)),rfl⟩,⟨rfl,rfl⟩,tv⟩,⟨⟨rfl,rfl⟩,⟨rfl,rfl⟩,⟨rfl,⟨⟨(congrArg iv (o5 hp)),rfl⟩,⟨(congrArg iv (o6 hp)),rfl⟩,tv⟩,rfl⟩,tv⟩,rfl,rfl⟩) (o7 hp) (fun (x0:Nat) hx0 => ?_)
 refine swp_seq (swp_seq ?_)
 refine sR (kt:=[1,2,3,4,8,10,9,23]) (kh:=[0,8,5000]) (q:=True/\True/\True/\True/\True) (st':=ASt.mk [(1,aInts l),(2,iv (m:Int)),(3,iv (p:Int)),(4,.ptr 0 []),(8,.ptr 8 []),(10,iv (x0:Int)),(9,.ptr 5000 []),(23,bv (decide ((x0:Int) < (↑(l.length):Int))))] [(0,.cells 25 (cRun r)),(8,.cells 37 [iv 0,iv 0]),(5000,.cells 37 (cSpan (spanTo r l m p x0)))] 10144) (by kernel_rfl) ⟨tv,tv,tv,tv,tv⟩ ?_
 refine swp_cond (decide ((x0:Int) < (↑(l.length):Int))) (by kernel_rfl) (fun h1 => ?_) (fun h1 => ?_)
 ·refine swp_skip (swp_seq (swp_block (swp_seq (swp_seq ?_))))
  refine sR (kt:=[1,2,3,4,8,10,9,31]) (kh:=[0,8,5000]) (q:=True/\True/\(0<=(x0:Int)/\(x0:Int) < (↑(l.length):Int))/\True/\True/\True/\True) (st':=ASt.mk [(1,aInts l),(2,iv (m:Int)),(3,iv (p:Int)),(4,.ptr 0 []),(8,.ptr 8 []),(10,iv (x0:Int)),(9,.ptr 5000 []),(31,bv !decide (l.getD x0 0=(m:Int)))] [(0,.cells 25 (cRun r)),(8,.cells 37 [iv 0,iv 0]),(5000,.cells 37 (cSpan (spanTo r l m p x0)))] 10192) (by kernel_rfl) ⟨tv,tv,⟨(o8 hp x0 hx0 h1),(o9 hp x0 hx0 h1)⟩,tv,tv,tv,tv⟩ ?_
  refine swp_cond (!decide (l.getD x0 0=(m:Int))) (by kernel_rfl) (fun h2 => ?_) (fun h2 => ?_)
  ·refine swp_exit ?_
   refine sR (kt:=[1,2,3,4,8,10,9]) (kh:=[0,8,5000]) (q:=True/\inI ((x0:Int) + 1)/\True/\True) (st':=ASt.mk [(1,aInts l),(2,iv (m:Int)),(3,iv (p:Int)),(4,.ptr 0 []),(8,.ptr 8 []),(10,iv ((x0:Int) + 1)),(9,.ptr 5000 [])] [(0,.cells 25 (cRun r)),(8,.cells 37 [iv 0,iv 0]),(5000,.cells 37 (cSpan (spanTo r l m p x0)))] 10216) (by kernel_rfl) ⟨tv,(o10 hp x0 hx0 h1 h2),tv,tv⟩ ?_
   exact loop_next (Hint.ann (h88 r l m p) [(1,aInts l),(2,iv (m:Int)),(3,iv (p:Int)),(4,AV.ptr 0 []),(8,AV.ptr 8 [])] [(0,OB.cells 25 (cRun r)),(8,OB.cells 37 [iv 0,iv 0])] 10112) x0 (ent_q hE [] [(0,.same 0),(8,.same 8),(5000,.same 5000)] [1,2,3] [0,8] (((aInts l=aInts l/\true=true)/\(iv (m:Int)=iv (m:Int)/\true=true)/\(iv (p:Int)=iv (p:Int)/\true=true)/\(some (Src.same 0)=some (Src.same 0)/\nilP = [])/\(some (Src.same 8)=some (Src.same 8)/\nilP = [])/\(iv ((x0:Int) + 1)=iv (↑(x0 + 1):Int)/\nilN = [])/\(some (Src.same 5000)=some (Src.same 5000)/\nilP = [])/\True)/\((OB.cells 25 (cRun r)=OB.cells 25 (cRun r)/\true=true)/\(OB.cells 37 [iv 0,iv 0]=OB.cells 37 [iv 0,iv 0]/\true=true)/\(37=37/\((iv (spanTo r l m p x0).lo=iv (spanTo r l m p (x0 + 1)).lo/\nilN = [])/\(iv (spanTo r l m p x0).hi=iv (spanTo r l m p (x0 + 1)).hi/\nilN = [])/\True)/\true=true)/\True)/\T2) (by kernel_rfl) (by kernel_rfl) ⟨⟨⟨rfl,rfl⟩,⟨rfl,rfl⟩,⟨rfl,rfl⟩,⟨rfl,rfl⟩,⟨rfl,rfl⟩,⟨(congrArg iv (o11 hp x0 hx0 h1 h2)),rfl⟩,⟨rfl,rfl⟩,tv⟩,⟨⟨rfl,rfl⟩,⟨rfl,rfl⟩,⟨rfl,⟨⟨(congrArg iv (o12 hp x0 hx0 h1 h2)),rfl⟩,⟨(congrArg iv (o13 hp x0 hx0 h1 h2)),rfl⟩,tv⟩,rfl⟩,tv⟩,rfl,rfl⟩) (o14 hp x0 hx0 h1 h2) (o15 hp x0 hx0 h1 h2)
  ·refine swp_skip (swp_seq ?_)
   refine sR (kt:=[1,2,3,4,8,10,9,40]) (kh:=[0,8,5000]) (q:=True/\True/\True/\(0<=(x0:Int)/\(x0:Int) < (↑(r.found.length):Int))/\True/\True/\True/\(0<=(p:Int)/\(p:Int) < (↑((fnd r x0).new.length):Int))/\True/\True) (st':=ASt.mk [(1,aInts l),(2,iv (m:Int)),(3,iv (p:Int)),(4,.ptr 0 []),(8,.ptr 8 []),(10,iv (x0:Int)),(9,.ptr 5000 []),(40,iv ((fnd r x0).new.getD p 0))] [(0,.cells 25 (cRun r)),(8,.cells 37 [iv 0,iv 0]),(5000,.cells 37 (cSpan (spanTo r l m p x0)))] 10264) (by kernel_rfl) ⟨tv,tv,tv,⟨(o16 hp x0 hx0 h1 h2),(o17 hp x0 hx0 h1 h2)⟩,tv,tv,tv,⟨(o18 hp x0 hx0 h1 h2),(o19 hp x0 hx0 h1 h2)⟩,tv,tv⟩ ?_
   refine swp_block (swp_seq ?_)
   refine sR (kt:=[1,2,3,4,8,10,9,40,41]) (kh:=[0,8,5000]) (q:=True/\True/\True) (st':=ASt.mk [(1,aInts l),(2,iv (m:Int)),(3,iv (p:Int)),(4,.ptr 0 []),(8,.ptr 8 []),(10,iv (x0:Int)),(9,.ptr 5000 []),(40,iv ((fnd r x0).new.getD p 0)),(41,bv (decide ((fnd r x0).new.getD p 0=1)))] [(0,.cells 25 (cRun r)),(8,.cells 37 [iv 0,iv 0]),(5000,.cells 37 (cSpan (spanTo r l m p x0)))] 10280) (by kernel_rfl) ⟨tv,tv,tv⟩ ?_
   refine swp_cond (decide ((fnd r x0).new.getD p 0=1)) (by kernel_rfl) (fun h3 => ?_) (fun h3 => ?_)
   ·refine sR (kt:=[1,2,3,4,8,10,9]) (kh:=[0,8,5000]) (q:=True/\True/\True/\True/\True/\(0<=(x0:Int)/\(x0:Int) < (↑(r.found.length):Int))/\True/\True/\True/\True/\True/\True) (st':=ASt.mk [(1,aInts l),(2,iv (m:Int)),(3,iv (p:Int)),(4,.ptr 0 []),(8,.ptr 8 []),(10,iv (x0:Int)),(9,.ptr 5000 [])] [(0,.cells 25 (cRun r)),(8,.cells 37 [iv 0,iv 0]),(5000,.cells 37 [iv (spanTo r l m p x0).lo,iv (min (spanTo r l m p x0).hi (fnd r x0).minute)])] 10368) (by kernel_rfl) ⟨tv,tv,tv,tv,tv,⟨(o20 hp x0 hx0 h1 h2 h3),(o21 hp x0 hx0 h1 h2 h3)⟩,tv,tv,tv,tv,tv,tv⟩ ?_
    refine sR (kt:=[1,2,3,4,8,10,9]) (kh:=[0,8,5000]) (q:=True/\inI ((x0:Int) + 1)/\True/\True) (st':=ASt.mk [(1,aInts l),(2,iv (m:Int)),(3,iv (p:Int)),(4,.ptr 0 []),(8,.ptr 8 []),(10,iv ((x0:Int) + 1)),(9,.ptr 5000 [])] [(0,.cells 25 (cRun r)),(8,.cells 37 [iv 0,iv 0]),(5000,.cells 37 [iv (spanTo r l m p x0).lo,iv (min (spanTo r l m p x0).hi (fnd r x0).minute)])] 10392) (by kernel_rfl) ⟨tv,(o22 hp x0 hx0 h1 h2 h3),tv,tv⟩ ?_
    exact loop_next (Hint.ann (h88 r l m p) [(1,aInts l),(2,iv (m:Int)),(3,iv (p:Int)),(4,AV.ptr 0 []),(8,AV.ptr 8 [])] [(0,OB.cells 25 (cRun r)),(8,OB.cells 37 [iv 0,iv 0])] 10112) x0 (ent_q hE [] [(0,.same 0),(8,.same 8),(5000,.same 5000)] [1,2,3] [0,8] (((aInts l=aInts l/\true=true)/\(iv (m:Int)=iv (m:Int)/\true=true)/\(iv (p:Int)=iv (p:Int)/\true=true)/\(some (Src.same 0)=some (Src.same 0)/\nilP = [])/\(some (Src.same 8)=some (Src.same 8)/\nilP = [])/\(iv ((x0:Int) + 1)=iv (↑(x0 + 1):Int)/\nilN = [])/\(some (Src.same 5000)=some (Src.same 5000)/\nilP = [])/\True)/\((OB.cells 25 (cRun r)=OB.cells 25 (cRun r)/\true=true)/\(OB.cells 37 [iv 0,iv 0]=OB.cells 37 [iv 0,iv 0]/\true=true)/\(37=37/\((iv (spanTo r l m p x0).lo=iv (spanTo r l m p (x0 + 1)).lo/\nilN = [])/\(iv (min (spanTo r l m p x0).hi (fnd r x0).minute)=iv (spanTo r l m p (x0 + 1)).hi/\nilN = [])/\True)/\true=true)/\True)/\T2) (by kernel_rfl) (by kernel_rfl) ⟨⟨⟨rfl,rfl⟩,⟨rfl,rfl⟩,⟨rfl,rfl⟩,⟨rfl,rfl⟩,⟨rfl,rfl⟩,⟨(congrArg iv (o23 hp x0 hx0 h1 h2 h3)),rfl⟩,⟨rfl,rfl⟩,tv⟩,⟨⟨rfl,rfl⟩,⟨rfl,rfl⟩,⟨rfl,⟨⟨(congrArg iv (o24 hp x0 hx0 h1 h2 h3)),rfl⟩,⟨(congrArg iv (o25 hp x0 hx0 h1 h2 h3)),rfl⟩,tv⟩,rfl⟩,tv⟩,rfl,rfl⟩) (o26 hp x0 hx0 h1 h2 h3) (o27 hp x0 hx0 h1 h2 h3)
   ·refine swp_seq ?_
    refine sR (kt:=[1,2,3,4,8,10,9,53]) (kh:=[0,8,5000]) (q:=True/\True/\True) (st':=ASt.mk [(1,aInts l),(2,iv (m:Int)),(3,iv (p:Int)),(4,.ptr 0 []),(8,.ptr 8 []),(10,iv (x0:Int)),(9,.ptr 5000 []),(53,bv (decide ((fnd r x0).new.getD p 0=0)))] [(0,.cells 25 (cRun r)),(8,.cells 37 [iv 0,iv 0]),(5000,.cells 37 (cSpan (spanTo r l m p x0)))] 10296) (by kernel_rfl) ⟨tv,tv,tv⟩ ?_
    refine swp_cond (decide ((fnd r x0).new.getD p 0=0)) (by kernel_rfl) (fun h4 => ?_) (fun h4 => ?_)
    ·refine sR (kt:=[1,2,3,4,8,10,9]) (kh:=[0,8,5000]) (q:=True/\True/\True/\True/\True/\(0<=(x0:Int)/\(x0:Int) < (↑(r.found.length):Int))/\True/\True/\inI ((fnd r x0).minute + 1)/\True/\True/\True/\True) (st':=ASt.mk [(1,aInts l),(2,iv (m:Int)),(3,iv (p:Int)),(4,.ptr 0 []),(8,.ptr 8 []),(10,iv (x0:Int)),(9,.ptr 5000 [])] [(0,.cells 25 (cRun r)),(8,.cells 37 [iv 0,iv 0]),(5000,.cells 37 [iv (max (spanTo r l m p x0).lo ((fnd r x0).minute + 1)),iv (spanTo r l m p x0).hi])] 10392) (by kernel_rfl) ⟨tv,tv,tv,tv,tv,⟨(o28 hp x0 hx0 h1 h2 h3 h4),(o29 hp x0 hx0 h1 h2 h3 h4)⟩,tv,tv,(o30 hp x0 hx0 h1 h2 h3 h4),tv,tv,tv,tv⟩ ?_
     refine sR (kt:=[1,2,3,4,8,10,9]) (kh:=[0,8,5000]) (q:=True/\inI ((x0:Int) + 1)/\True/\True) (st':=ASt.mk [(1,aInts l),(2,iv (m:Int)),(3,iv (p:Int)),(4,.ptr 0 []),(8,.ptr 8 []),(10,iv ((x0:Int) + 1)),(9,.ptr 5000 [])] [(0,.cells 25 (cRun r)),(8,.cells 37 [iv 0,iv 0]),(5000,.cells 37 [iv (max (spanTo r l m p x0).lo ((fnd r x0).minute + 1)),iv (spanTo r l m p x0).hi])] 10416) (by kernel_rfl) ⟨tv,(o31 hp x0 hx0 h1 h2 h3 h4),tv,tv⟩ ?_
     exact loop_next (Hint.ann (h88 r l m p) [(1,aInts l),(2,iv (m:Int)),(3,iv (p:Int)),(4,AV.ptr 0 []),(8,AV.ptr 8 [])] [(0,OB.cells 25 (cRun r)),(8,OB.cells 37 [iv 0,iv 0])] 10112) x0 (ent_q hE [] [(0,.same 0),(8,.same 8),(5000,.same 5000)] [1,2,3] [0,8] (((aInts l=aInts l/\true=true)/\(iv (m:Int)=iv (m:Int)/\true=true)/\(iv (p:Int)=iv (p:Int)/\true=true)/\(some (Src.same 0)=some (Src.same 0)/\nilP = [])/\(some (Src.same 8)=some (Src.same 8)/\nilP = [])/\(iv ((x0:Int) + 1)=iv (↑(x0 + 1):Int)/\nilN = [])/\(some (Src.same 5000)=some (Src.same 5000)/\nilP = [])/\True)/\((OB.cells 25 (cRun r)=OB.cells 25 (cRun r)/\true=true)/\(OB.cells 37 [iv 0,iv 0]=OB.cells 37 [iv 0,iv 0]/\true=true)/\(37=37/\((iv (max (spanTo r l m p x0).lo ((fnd r x0).minute + 1))=iv (spanTo r l m p (x0 + 1)).lo/\nilN = [])/\(iv (spanTo r l m p x0).hi=iv (spanTo r l m p (x0 + 1)).hi/\nilN = [])/\True)/\true=true)/\True)/\T2) (by kernel_rfl) (by kernel_rfl) ⟨⟨⟨rfl,rfl⟩,⟨rfl,rfl⟩,⟨rfl,rfl⟩,⟨rfl,rfl⟩,⟨rfl,rfl⟩,⟨(congrArg iv (o32 hp x0 hx0 h1 h2 h3 h4)),rfl⟩,⟨rfl,rfl⟩,tv⟩,⟨⟨rfl,rfl⟩,⟨rfl,rfl⟩,⟨rfl,⟨⟨(congrArg iv (o33 hp x0 hx0 h1 h2 h3 h4)),rfl⟩,⟨(congrArg iv (o34 hp x0 hx0 h1 h2 h3 h4)),rfl⟩,tv⟩,rfl⟩,tv⟩,rfl,rfl⟩) (o35 hp x0 hx0 h1 h2 h3 h4) (o36 hp x0 hx0 h1 h2 h3 h4)
    ·refine swp_skip ?_
     refine sR (kt:=[1,2,3,4,8,10,9]) (kh:=[0,8,5000]) (q:=True/\inI ((x0:Int) + 1)/\True/\True) (st':=ASt.mk [(1,aInts l),(2,iv (m:Int)),(3,iv (p:Int)),(4,.ptr 0 []),(8,.ptr 8 []),(10,iv ((x0:Int) + 1)),(9,.ptr 5000 [])] [(0,.cells 25 (cRun r)),(8,.cells 37 [iv 0,iv 0]),(5000,.cells 37 (cSpan (spanTo r l m p x0)))] 10320) (by kernel_rfl) ⟨tv,(o37 hp x0 hx0 h1 h2 h3 h4),tv,tv⟩ ?_
     exact loop_next (Hint.ann (h88 r l m p) [(1,aInts l),(2,iv (m:Int)),(3,iv (p:Int)),(4,AV.ptr 0 []),(8,AV.ptr 8 [])] [(0,OB.cells 25 (cRun r)),(8,OB.cells 37 [iv 0,iv 0])] 10112) x0 (ent_q hE [] [(0,.same 0),(8,.same 8),(5000,.same 5000)] [1,2,3] [0,8] (((aInts l=aInts l/\true=true)/\(iv (m:Int)=iv (m:Int)/\true=true)/\(iv (p:Int)=iv (p:Int)/\true=true)/\(some (Src.same 0)=some (Src.same 0)/\nilP = [])/\(some (Src.same 8)=some (Src.same 8)/\nilP = [])/\(iv ((x0:Int) + 1)=iv (↑(x0 + 1):Int)/\nilN = [])/\(some (Src.same 5000)=some (Src.same 5000)/\nilP = [])/\True)/\((OB.cells 25 (cRun r)=OB.cells 25 (cRun r)/\true=true)/\(OB.cells 37 [iv 0,iv 0]=OB.cells 37 [iv 0,iv 0]/\true=true)/\(37=37/\((iv (spanTo r l m p x0).lo=iv (spanTo r l m p (x0 + 1)).lo/\nilN = [])/\(iv (spanTo r l m p x0).hi=iv (spanTo r l m p (x0 + 1)).hi/\nilN = [])/\True)/\true=true)/\True)/\T2) (by kernel_rfl) (by kernel_rfl) ⟨⟨⟨rfl,rfl⟩,⟨rfl,rfl⟩,⟨rfl,rfl⟩,⟨rfl,rfl⟩,⟨rfl,rfl⟩,⟨(congrArg iv (o38 hp x0 hx0 h1 h2 h3 h4)),rfl⟩,⟨rfl,rfl⟩,tv⟩,⟨⟨rfl,rfl⟩,⟨rfl,rfl⟩,⟨rfl,⟨⟨(congrArg iv (o39 hp x0 hx0 h1 h2 h3 h4)),rfl⟩,⟨(congrArg iv (o40 hp x0 hx0 h1 h2 h3 h4)),rfl⟩,tv⟩,rfl⟩,tv⟩,rfl,rfl⟩) (o41 hp x0 hx0 h1 h2 h3 h4) (o42 hp x0 hx0 h1 h2 h3 h4)
 ·refine swp_exit (swp_seq ?_)
  refine sR (kt:=[8]) (kh:=[8]) (q:=True/\True/\True) (st':=ASt.mk [(8,.ptr 8 [])] [(8,.cells 37 (cSpan (spanTo r l m p x0)))] 10160) (by kernel_rfl) ⟨tv,tv,tv⟩ ?_
  refine swp_ret ?_
  exact ret_q [] ((True/\True)/\((iv (spanTo r l m p x0).lo=iv (spanOf r l m p).lo/\nilN = [])/\(iv (spanTo r l m p x0).hi=iv (spanOf r l m p).hi/\nilN = [])/\True)/\T3) (by kernel_rfl) ⟨⟨tv,tv⟩,⟨⟨(congrArg iv (o43 hp x0 hx0 h1)),rfl⟩,⟨(congrArg iv (o44 hp x0 hx0 h1)),rfl⟩,tv⟩,rfl,rfl,rfl⟩
theorem t88 (r:Run) (l:List Int) (m p:Nat):Triple Try.prog 88 (s88 r l m p):=by
  apply w88
  case o43 => intro hp x hx hl; simp only [decide_eq_false_iff_not] at hl; have : x = l.length := by omega
              subst this; rfl
  case o44 => intro hp x hx hl; simp only [decide_eq_false_iff_not] at hl; have : x = l.length := by omega
              subst this; rfl
  case o3=>intro hp; have:=(ok_of hp.1).mach m hp.2.1; omega
  case o19=>intro hp x hx hl h; simp only [decide_eq_true_eq] at hl; have:=(ok_of hp.1).fnd x (by omega); omega
  case o30=>intro hp x hx hl h _ _; simp only [decide_eq_true_eq] at hl; have:=(ok_of hp.1).fnd x (by omega); have:=(ok_of hp.1).last; simp only [inI]; omega
  all_goals first
    | (intro hp; have:=(ok_of hp.1).found; (repeat intro _); simp only [decide_eq_true_eq,inI] at *; omega)
    | ((repeat intro _); rw [spanTo_succ]; simp only [spanStep]; simp_all; done)
    | ((repeat intro _) <;> (try simp only [v0,v1,v2,v3,v4,v5,v6,v7,v8,v9,inI,fits,Go.Sh.small] at *) <;> first | (exact rfl) | omega | exact vz | (simp_all; done) | (simp_all; omega))
end Go.Ab
namespace Go.Sh
open Go.Ab
def choicesN (r:Run):Nat->List Int->List (List Int)
 | 0,first=>[first]
 | k + 1,first=>(fnd r first.length).frm.flatMap fun m=>choicesN r k (first ++ [m])
def choices (r:Run) (first:List Int):List (List Int):=choicesN r (r.found.length - first.length) first
def chAcc (r:Run) (first:List Int) (i:Nat):List (List Int):=((fnd r first.length).frm.take i).flatMap fun m=>choices r (first ++ [m])
def canBeAt (r:Run) (l:List Int) (m p:Nat):Bool:=decide ((spanOf r l m p).lo<=(spanOf r l m p).hi)
def canBeM (r:Run) (l:List Int) (m:Nat):Bool:=(List.range r.plates.toNat).all (canBeAt r l m)
def canBe (r:Run) (l:List Int):Bool:=(List.range r.machines.length).all (canBeM r l)
def fromsOf (r:Run):List (List Int):=(choices r []).filter (canBe r)
def isOne (r:Run):Bool:=decide ((fromsOf r).length > (0:Int))
def known6 (r:Run):Bool:=ready r && isOne r
theorem choices_end {r:Run} {first:List Int} (h:first.length=r.found.length):choices r first = [first]:=by
 unfold choices; rw [h,Nat.sub_self]; rfl
theorem chAcc_succ {r:Run} {first:List Int} {i:Nat} (h:i < (fnd r first.length).frm.length):chAcc r first (i + 1)=chAcc r first i ++ choices r (first ++ [(fnd r first.length).frm.getD i 0]):=by
 unfold chAcc; rw [take_succ _ 0 h,List.flatMap_append]; simp
theorem choices_step {r:Run} {first:List Int} (h:first.length < r.found.length):choices r first=chAcc r first (fnd r first.length).frm.length:=by
 unfold chAcc choices
 rw [List.take_of_length_le (Nat.le_refl _)]
 obtain ⟨k,hk⟩:∃ k,r.found.length - first.length=k + 1:=⟨r.found.length - first.length - 1,by omega⟩
 rw [hk,choicesN]
 congr 1
 funext m
 have:r.found.length - (first ++ [m]).length=k:=by simp; omega
 rw [this]
theorem choicesN_len {r:Run} (ok:Ok r):∀ k first,first.length + k<=r.found.length->(choicesN r k first).length<=3 ^ k:=by
 intro k
 induction k with
 | zero=>intro first _; exact Nat.le_refl 1
 | succ k ih =>
  intro first h
  rw [choicesN,Nat.pow_succ,Nat.mul_comm]
  have h1:=flatMap_len (fun m=>choicesN r k (first ++ [m])) (3 ^ k) (fnd r first.length).frm (fun x _=>ih _ (by simp; omega))
  have h2:=frm_len ok (i:=first.length) (by omega)
  exact Nat.le_trans h1 (Nat.mul_le_mul_right _ h2)
theorem pow3 {k:Nat} (h:k<=6):3 ^ k<=729:=by
 have:k=0 ∨ k=1 ∨ k=2 ∨ k=3 ∨ k=4 ∨ k=5 ∨ k=6:=by omega
 rcases this with rfl | rfl | rfl | rfl | rfl | rfl | rfl <;> decide
theorem choices_len {r:Run} (ok:Ok r) {first:List Int} (h:first.length<=r.found.length):(choices r first).length<=729:=by
 have:=choicesN_len ok (r.found.length - first.length) first (by omega)
 have h2:=ok.found
 exact Nat.le_trans this (pow3 (by omega))
theorem chAcc_len {r:Run} (ok:Ok r) {first:List Int} (h:first.length < r.found.length) (i:Nat):(chAcc r first i).length<=2187:=by
 unfold chAcc
 have h1:=flatMap_len (fun m=>choices r (first ++ [m])) 729 ((fnd r first.length).frm.take i) (fun x _=>choices_len ok (by simp; omega))
 have h2:=frm_len ok h
 have h3:((fnd r first.length).frm.take i).length<=3:=by rw [List.length_take]; omega
 have h4:=Nat.mul_le_mul_right 729 h3
 omega
theorem choicesN_mem {r:Run}:∀ k first l,l ∈ choicesN r k first->l.length=first.length + k:=by
 intro k
 induction k with
 | zero=>intro first l h; simp [choicesN] at h; rw [h]; rfl
 | succ k ih =>
  intro first l h
  rw [choicesN,List.mem_flatMap] at h
  obtain ⟨m,_,h⟩:=h
  have:=ih _ _ h
  simp at this; omega
theorem choices_mem {r:Run} {l:List Int} (h:l ∈ choices r []):l.length=r.found.length:=by
 have:=choicesN_mem _ _ _ h
 simpa using this
theorem canBe_false {r:Run} {l:List Int} {m p:Nat} (hm:m < r.machines.length) (hp:(p:Int) < r.plates) (h:canBeAt r l m p=false):canBe r l=false:=by
 unfold canBe
 rw [List.all_eq_false]
 refine ⟨m,List.mem_range.2 hm,?_⟩
 have:canBeM r l m=false:=by
  unfold canBeM
  rw [List.all_eq_false]
  exact ⟨p,List.mem_range.2 (by omega),by simp [h]⟩
 simp [this]
theorem all_range {n:Nat} {p:Nat->Bool} (h:∀ j,j < n->p j=true):(List.range n).all p=true:=by
 rw [List.all_eq_true]; intro j hj; exact h j (List.mem_range.1 hj)
end Go.Sh
namespace Go.Ab
open Go Go.RowKit Go.Sh Go.En
def s121 (r:Run) (first:List Int):CallSpec:={ args:=[vRun r,aInts first],res:=aIntss (choices r first),pre:=okRun r=true/\first.length<=r.found.length }
def h121 (r:Run) (first:List Int):Hint:={ X:=Nat,M:=fun i=>[(7,iv i),(5,.vec 5000)],H:=fun i=>[(5000,.vec 30 1 (chAcc r first i).length (fun k=>[aInts ((chAcc r first i).getD k [])]))],I:=fun i=>i<=(fnd r first.length).frm.length,mu:=fun i=>(fnd r first.length).frm.length - i,x0:=(0:Nat),nx:=fun i=>i + 1 }
def c121 (r:Run) (first:List Int) (x:Nat):CallSpec:=s121 r (first ++ [(fnd r first.length).frm.getD x 0])
def s122 (r:Run) (l:List Int):CallSpec:={ args:=[vRun r,aInts l],res:=bv (canBe r l),pre:=okRun r=true/\l.length<=r.found.length }
def h122a (r:Run) (l:List Int):Hint:={ X:=Nat,M:=fun i=>[(5,iv i)],I:=fun i=>i<=r.machines.length /\ ∀ j,j < i->canBeM r l j=true,mu:=fun i=>r.machines.length - i,x0:=(0:Nat),nx:=fun i=>i + 1 }
def h122b (r:Run) (l:List Int) (x:Nat):Hint:={ X:=Nat,M:=fun i=>[(6,iv i)],I:=fun i=>i<=r.plates.toNat /\ ∀ j,j < i->canBeAt r l x j=true,mu:=fun i=>r.plates.toNat - i,x0:=(0:Nat),nx:=fun i=>i + 1 }
def s93 (r:Run):CallSpec:={ args:=[vRun r],res:=aIntss (fromsOf r),pre:=okRun r=true }
def h93 (r:Run):Hint:={ X:=Nat,M:=fun i=>[(5,iv i),(4,.vec 5000)],H:=fun i=>[(5000,.vec 30 1 (((choices r []).take i).filter (canBe r)).length (fun k=>[aInts ((((choices r []).take i).filter (canBe r)).getD k [])]))],I:=fun i=>i<=(choices r []).length,mu:=fun i=>(choices r []).length - i,x0:=(0:Nat),nx:=fun i=>i + 1 }
def s42 (r:Run):CallSpec:={ args:=[vRun r],res:=bv (isOne r),pre:=okRun r=true }
def s21 (r:Run):CallSpec:={ args:=[vRun r],res:=bv (known6 r),pre:=fits r }
end Go.Ab
namespace Go.Ab
open Go Go.RowKit Go.Proofs Go.Sh Go.En
abbrev q121_1 (r:Run) (first:List Int) (C:Prop):Prop:=okRun r=true/\first.length<=r.found.length->decide ((↑(first.length):Int)=(↑(r.found.length):Int))=true->C
abbrev q121_2 (r:Run) (first:List Int) (C:Prop):Prop:=okRun r=true/\first.length<=r.found.length->decide ((↑(first.length):Int)=(↑(r.found.length):Int))=false->C
abbrev q121_3 (r:Run) (first:List Int) (C:Nat->Prop):Prop:=q121_2 r first (∀ (x3:Nat),x3<=(fnd r first.length).frm.length->decide ((x3:Int) < (↑((fnd r first.length).frm.length):Int))=true->C x3)
abbrev q121_4 (r:Run) (first:List Int) (C:Nat->Prop):Prop:=q121_2 r first (∀ (x3:Nat),x3<=(fnd r first.length).frm.length->decide ((x3:Int) < (↑((fnd r first.length).frm.length):Int))=false->C x3)
theorem w121 (r:Run) (first:List Int)
 (o0:q121_1 r first (1=(choices r first).length))
 (o1:q121_1 r first (∀ (i1:Nat),i1 < (choices r first).length->List.getD [[AV.sl 1 first.length fun (i:Nat)=>[iv (first.getD i 0)]]] i1 (TI.za ti30) = [aInts ((choices r first).getD i1 [])]))
 (o2:q121_2 r first (0<=(↑(first.length):Int)))
 (o3:q121_2 r first ((↑(first.length):Int) < (↑(r.found.length):Int)))
 (o4:q121_2 r first (0=(↑0:Int)))
 (o5:q121_2 r first ((chAcc r first 0).length=0))
 (o6:q121_2 r first (0<=(fnd r first.length).frm.length))
 (o7:q121_3 r first fun x3=>0 + first.length<=65536)
 (o8:q121_3 r first fun x3=>0<=(x3:Int))
 (o9:q121_3 r first fun x3=>(x3:Int) < (↑((fnd r first.length).frm.length):Int))
 (o10:q121_3 r first fun x3=>0 + first.length + 1<=65536)
 (o11:q121_3 r first fun x3=>0 + first.length + 1=(first ++ [(fnd r first.length).frm.getD x3 0]).length)
 (o12:q121_3 r first fun x3 => ∀ (i5:Nat),i5 < (first ++ [(fnd r first.length).frm.getD x3 0]).length->catF (0 + first.length) (fun (i:Nat)=>[iv (first.getD i 0)]) (fun (j:Nat)=>List.getD [[iv ((fnd r first.length).frm.getD x3 0)]] j (TI.za ti3)) i5 = [iv ((first ++ [(fnd r first.length).frm.getD x3 0]).getD i5 0)])
 (o13:q121_3 r first fun x3=>Triple Try.prog 121 (c121 r first x3))
 (o14:q121_3 r first fun x3=>(first ++ [(fnd r first.length).frm.getD x3 0]).length<=r.found.length)
 (o15:q121_3 r first fun x3=>(chAcc r first x3).length + (choices r (first ++ [(fnd r first.length).frm.getD x3 0])).length<=65536)
 (o16:q121_3 r first fun x3=>inI ((x3:Int) + 1))
 (o17:q121_3 r first fun x3=>(x3:Int) + 1=(↑(x3 + 1):Int))
 (o18:q121_3 r first fun x3=>(chAcc r first x3).length + (choices r (first ++ [(fnd r first.length).frm.getD x3 0])).length=(chAcc r first (x3 + 1)).length)
 (o19:q121_3 r first fun x3 => ∀ (i8:Nat),i8 < (chAcc r first x3).length + (choices r (first ++ [(fnd r first.length).frm.getD x3 0])).length->catF (chAcc r first x3).length (fun (k:Nat)=>[aInts ((chAcc r first x3).getD k [])]) (fun (i:Nat)=>[aInts ((choices r (first ++ [(fnd r first.length).frm.getD x3 0])).getD i [])]) i8 = [aInts ((chAcc r first (x3 + 1)).getD i8 [])])
 (o20:q121_3 r first fun x3=>x3 + 1<=(fnd r first.length).frm.length)
 (o21:q121_3 r first fun x3=>(fnd r first.length).frm.length - (x3 + 1) < (fnd r first.length).frm.length - x3)
 (o22:q121_4 r first fun x3=>(chAcc r first x3).length=(choices r first).length)
 (o23:q121_4 r first fun x3 => ∀ (i10:Nat),i10 < (choices r first).length -> [aInts ((chAcc r first x3).getD i10 [])] = [aInts ((choices r first).getD i10 [])]) :
  Triple Try.prog 121 (s121 r first):=by
 refine triple_of Try.func121 rfl Try.call121 T0_ok _ rfl rfl rfl rfl (Nat.le_of_ble_eq_true (by kernel_rfl)) (fun _ _ _ _ h=>h) ?_
 intro hp C hC _ hE
 obtain ⟨P,w0,E0,av,hA⟩:=C
 subst hC
 refine swp_seq ?_
 refine sR (kt:=[1,2]) (kh:=[0]) (q:=True/\True/\True) (st':=ASt.mk [(1,aInts first),(2,.ptr 0 [])] [(0,.cells 25 (cRun r))] 16) (by kernel_rfl) ⟨tv,tv,tv⟩ ?_
 refine swp_seq (swp_seq ?_)
 refine sR (kt:=[1,2,13]) (kh:=[0]) (q:=True/\True/\True/\True/\True/\True/\True) (st':=ASt.mk [(1,aInts first),(2,.ptr 0 []),(13,bv (decide ((↑(first.length):Int)=(↑(r.found.length):Int))))] [(0,.cells 25 (cRun r))] 64) (by kernel_rfl) ⟨tv,tv,tv,tv,tv,tv,tv⟩ ?_
 refine swp_cond (decide ((↑(first.length):Int)=(↑(r.found.length):Int))) (by kernel_rfl) (fun h0 => ?_) (fun h0 => ?_)
 ·refine swp_seq ?_
  refine sR (kt:=[4]) (kh:=[72]) (q:=True/\True/\True/\True) (st':=ASt.mk [(4,.vec 72)] [(72,.vec 30 1 1 fun (j:Nat)=>List.getD [[.sl 1 first.length fun (i:Nat)=>[iv (first.getD i 0)]]] j (TI.za ti30))] 88) (by kernel_rfl) ⟨tv,tv,tv,tv⟩ ?_
  refine swp_ret ?_
  exact ret_q [72] ((True/\True)/\(1=1/\1=(choices r first).length /\ ∀ (i1:Nat),i1 < (choices r first).length->List.getD [[AV.sl 1 first.length fun (i:Nat)=>[iv (first.getD i 0)]]] i1 (TI.za ti30) = [aInts ((choices r first).getD i1 [])])/\T3) (by kernel_rfl) ⟨⟨tv,tv⟩,⟨rfl,(o0 hp h0),(fun i1=>(fun h2=>(o1 hp h0 i1 h2)))⟩,rfl,rfl,rfl⟩
 ·refine swp_skip (swp_seq ?_)
  refine sR (kt:=[1,2,5]) (kh:=[0]) (q:=True/\True) (st':=ASt.mk [(1,aInts first),(2,.ptr 0 []),(5,nilv)] [(0,.cells 25 (cRun r))] 72) (by kernel_rfl) ⟨tv,tv⟩ ?_
  refine swp_seq ?_
  refine sR (kt:=[1,2,5,6]) (kh:=[0]) (q:=True/\True/\True/\True/\(0<=(↑(first.length):Int)/\(↑(first.length):Int) < (↑(r.found.length):Int))/\True/\True/\True/\True) (st':=ASt.mk [(1,aInts first),(2,.ptr 0 []),(5,nilv),(6,aInts (fnd r first.length).frm)] [(0,.cells 25 (cRun r))] 136) (by kernel_rfl) ⟨tv,tv,tv,tv,⟨(o2 hp h0),(o3 hp h0)⟩,tv,tv,tv,tv⟩ ?_
  refine swp_seq (swp_seq ?_)
  refine sR (kt:=[1,2,5,6,7]) (kh:=[0]) (q:=True/\True) (st':=ASt.mk [(1,aInts first),(2,.ptr 0 []),(5,nilv),(6,aInts (fnd r first.length).frm),(7,iv 0)] [(0,.cells 25 (cRun r))] 144) (by kernel_rfl) ⟨tv,tv⟩ ?_
  refine swp_block ?_
  refine swp_loopA (Hint.ann (h121 r first) [(1,aInts first),(2,AV.ptr 0 []),(6,aInts (fnd r first.length).frm)] [(0,OB.cells 25 (cRun r))] 10144) (ent_q hE [] [(0,.same 0),(5000,.nil)] [1,6] [0] (((aInts first=aInts first/\true=true)/\(some (Src.same 0)=some (Src.same 0)/\nilP = [])/\(aInts (fnd r first.length).frm=aInts (fnd r first.length).frm/\true=true)/\(iv 0=iv (↑0:Int)/\nilN = [])/\some Src.nil=some Src.nil/\True)/\((OB.cells 25 (cRun r)=OB.cells 25 (cRun r)/\true=true)/\(chAcc r first 0).length=0/\True)/\T2) (by kernel_rfl) (by kernel_rfl) ⟨⟨⟨rfl,rfl⟩,⟨rfl,rfl⟩,⟨rfl,rfl⟩,⟨(congrArg iv (o4 hp h0)),rfl⟩,rfl,tv⟩,⟨⟨rfl,rfl⟩,(o5 hp h0),tv⟩,rfl,rfl⟩) (o6 hp h0) (fun (x3:Nat) hx3 => ?_)
  refine swp_seq (swp_seq ?_)
  refine sR (kt:=[1,2,6,7,5,26]) (kh:=[0,5000]) (q:=True/\True/\True/\True/\True) (st':=ASt.mk [(1,aInts first),(2,.ptr 0 []),(6,aInts (fnd r first.length).frm),(7,iv (x3:Int)),(5,.vec 5000),(26,bv (decide ((x3:Int) < (↑((fnd r first.length).frm.length):Int))))] [(0,.cells 25 (cRun r)),(5000,.vec 30 1 (chAcc r first x3).length fun (k:Nat)=>[aInts ((chAcc r first x3).getD k [])])] 10176) (by kernel_rfl) ⟨tv,tv,tv,tv,tv⟩ ?_
  refine swp_cond (decide ((x3:Int) < (↑((fnd r first.length).frm.length):Int))) (by kernel_rfl) (fun h4 => ?_) (fun h4 => ?_)
  ·refine swp_skip (swp_seq (swp_block ?_))
   refine swp_region T0_ok mixed (cs:=[(11,CallSpec.eq (c121 r first x3) [true,false])]) (kt:=[1,2,6,7,5]) (kh:=[0,10272]) (q:=True/\True/\True/\True/\0 + first.length<=65536/\True/\True/\(0<=(x3:Int)/\(x3:Int) < (↑((fnd r first.length).frm.length):Int))/\True/\True/\0 + first.length + 1<=65536/\((AV.agg (cRun r)=AV.agg (cRun r)/\(1=1/\0 + first.length + 1=(first ++ [(fnd r first.length).frm.getD x3 0]).length /\ ∀ (i5:Nat),i5 < (first ++ [(fnd r first.length).frm.getD x3 0]).length->catF (0 + first.length) (fun (i:Nat)=>[iv (first.getD i 0)]) (fun (j:Nat)=>List.getD [[iv ((fnd r first.length).frm.getD x3 0)]] j (TI.za ti3)) i5 = [iv ((first ++ [(fnd r first.length).frm.getD x3 0]).getD i5 0)])/\True)/\Triple Try.prog 121 (c121 r first x3)/\(okRun r=true/\(first ++ [(fnd r first.length).frm.getD x3 0]).length<=r.found.length)/\True /\ ∀ (i7:Env),True)/\(chAcc r first x3).length + (choices r (first ++ [(fnd r first.length).frm.getD x3 0])).length<=65536/\True/\True) (st':=ASt.mk [(1,aInts first),(2,.ptr 0 []),(6,aInts (fnd r first.length).frm),(7,iv (x3:Int)),(5,.vec 10272)] [(0,.cells 25 (cRun r)),(10272,.vec 30 1 ((chAcc r first x3).length + (choices r (first ++ [(fnd r first.length).frm.getD x3 0])).length) (catF (chAcc r first x3).length (fun (k:Nat)=>[aInts ((chAcc r first x3).getD k [])]) fun (i:Nat)=>[aInts ((choices r (first ++ [(fnd r first.length).frm.getD x3 0])).getD i [])]))] 10288) (by kernel_rfl) ⟨tv,tv,tv,tv,(o7 hp h0 x3 hx3 h4),tv,tv,⟨(o8 hp h0 x3 hx3 h4),(o9 hp h0 x3 hx3 h4)⟩,tv,tv,(o10 hp h0 x3 hx3 h4),⟨⟨rfl,⟨rfl,(o11 hp h0 x3 hx3 h4),(fun i5=>(fun h6=>(o12 hp h0 x3 hx3 h4 i5 h6)))⟩,tv⟩,(o13 hp h0 x3 hx3 h4),⟨hp.1,(o14 hp h0 x3 hx3 h4)⟩,tv,(fun i7=>tv)⟩,(o15 hp h0 x3 hx3 h4),tv,tv⟩ ?_
   refine sR (kt:=[1,2,6,7,5]) (kh:=[0,10272]) (q:=True/\inI ((x3:Int) + 1)/\True/\True) (st':=ASt.mk [(1,aInts first),(2,.ptr 0 []),(6,aInts (fnd r first.length).frm),(7,iv ((x3:Int) + 1)),(5,.vec 10272)] [(0,.cells 25 (cRun r)),(10272,.vec 30 1 ((chAcc r first x3).length + (choices r (first ++ [(fnd r first.length).frm.getD x3 0])).length) (catF (chAcc r first x3).length (fun (k:Nat)=>[aInts ((chAcc r first x3).getD k [])]) fun (i:Nat)=>[aInts ((choices r (first ++ [(fnd r first.length).frm.getD x3 0])).getD i [])]))] 10312) (by kernel_rfl) ⟨tv,(o16 hp h0 x3 hx3 h4),tv,tv⟩ ?_
   exact loop_next (Hint.ann (h121 r first) [(1,aInts first),(2,AV.ptr 0 []),(6,aInts (fnd r first.length).frm)] [(0,OB.cells 25 (cRun r))] 10144) x3 (ent_q hE [] [(0,.same 0),(5000,.same 10272)] [1,6] [0] (((aInts first=aInts first/\true=true)/\(some (Src.same 0)=some (Src.same 0)/\nilP = [])/\(aInts (fnd r first.length).frm=aInts (fnd r first.length).frm/\true=true)/\(iv ((x3:Int) + 1)=iv (↑(x3 + 1):Int)/\nilN = [])/\some (Src.same 10272)=some (Src.same 10272)/\True)/\((OB.cells 25 (cRun r)=OB.cells 25 (cRun r)/\true=true)/\(30=30/\1=1/\(chAcc r first x3).length + (choices r (first ++ [(fnd r first.length).frm.getD x3 0])).length=(chAcc r first (x3 + 1)).length /\ ∀ (i8:Nat),i8 < (chAcc r first x3).length + (choices r (first ++ [(fnd r first.length).frm.getD x3 0])).length->catF (chAcc r first x3).length (fun (k:Nat)=>[aInts ((chAcc r first x3).getD k [])]) (fun (i:Nat)=>[aInts ((choices r (first ++ [(fnd r first.length).frm.getD x3 0])).getD i [])]) i8 = [aInts ((chAcc r first (x3 + 1)).getD i8 [])])/\True)/\T2) (by kernel_rfl) (by kernel_rfl) ⟨⟨⟨rfl,rfl⟩,⟨rfl,rfl⟩,⟨rfl,rfl⟩,⟨(congrArg iv (o17 hp h0 x3 hx3 h4)),rfl⟩,rfl,tv⟩,⟨⟨rfl,rfl⟩,⟨rfl,rfl,(o18 hp h0 x3 hx3 h4),(fun i8=>(fun h9=>(o19 hp h0 x3 hx3 h4 i8 h9)))⟩,tv⟩,rfl,rfl⟩) (o20 hp h0 x3 hx3 h4) (o21 hp h0 x3 hx3 h4)
  ·refine swp_exit (swp_seq ?_)
   refine sR (kt:=[4]) (kh:=[5000]) (q:=True/\True/\True) (st':=ASt.mk [(4,.vec 5000)] [(5000,.vec 30 1 (chAcc r first x3).length fun (k:Nat)=>[aInts ((chAcc r first x3).getD k [])])] 10192) (by kernel_rfl) ⟨tv,tv,tv⟩ ?_
   refine swp_ret ?_
   exact ret_q [5000] ((True/\True)/\(1=1/\(chAcc r first x3).length=(choices r first).length /\ ∀ (i10:Nat),i10 < (choices r first).length -> [aInts ((chAcc r first x3).getD i10 [])] = [aInts ((choices r first).getD i10 [])])/\T3) (by kernel_rfl) ⟨⟨tv,tv⟩,⟨rfl,(o22 hp h0 x3 hx3 h4),(fun i10=>(fun h11=>(o23 hp h0 x3 hx3 h4 i10 h11)))⟩,rfl,rfl,rfl⟩
theorem t121' (r:Run):∀ (n:Nat) (first:List Int),r.found.length - first.length=n->Triple Try.prog 121 (s121 r first):=by
 intro n
 induction n using Nat.strongRecOn with
 | _ n ih =>
  intro first hn
  apply w121
  case o0=>intro hp h; rw [choices_end (by simp only [decide_eq_true_eq] at h; omega)]; rfl
  case o1 =>
   intro hp h i hi
   have e:=choices_end (r:=r) (first:=first) (by simp only [decide_eq_true_eq] at h; omega)
   rw [e] at hi ⊢
   have:i=0:=by simp at hi; omega
   subst this; rfl
  case o7=>intro hp _ x hx hl; have:=(ok_of hp.1).found; omega
  case o10=>intro hp _ x hx hl; have:=(ok_of hp.1).found; omega
  case o11=>(repeat intro _); simp
  case o12=>intro hp _ x hx hl i hi; exact catF_one first _ 0 (fun z=>[iv z]) (by omega) (fun _ _=>rfl) rfl (by simpa using hi)
  case o13 =>
   intro hp h x hx hl
   simp only [decide_eq_false_iff_not] at h
   exact ih (r.found.length - (first.length + 1)) (by omega) _ (by simp)
  case o14=>intro hp h x hx hl; simp only [decide_eq_false_iff_not] at h; simp; omega
  case o15 =>
   intro hp h x hx hl
   simp only [decide_eq_false_iff_not,decide_eq_true_eq] at h hl
   have h1:=chAcc_len (ok_of hp.1) (first:=first) (by omega) x
   have h2:=choices_len (ok_of hp.1) (first:=first ++ [(fnd r first.length).frm.getD x 0]) (by simp; omega)
   omega
  case o16 =>
   intro hp h x hx hl
   simp only [decide_eq_false_iff_not] at h
   have:=frm_len (ok_of hp.1) (i:=first.length) (by omega)
   simp only [inI]; omega
  case o18 =>
   intro hp h x hx hl
   simp only [decide_eq_true_eq] at hl
   rw [chAcc_succ (by omega),List.length_append]
  case o19 =>
   intro hp h x hx hl i hi
   simp only [decide_eq_true_eq] at hl
   rw [chAcc_succ (by omega)]
   exact catF_eq _ _ [] (fun z=>[aInts z]) rfl (fun _ _=>rfl) (fun _ _=>rfl) hi
  case o22 =>
   intro hp h x hx hl
   simp only [decide_eq_false_iff_not] at h hl
   rw [choices_step (by omega),show x=(fnd r first.length).frm.length by omega]
  case o23 =>
   intro hp h x hx hl i hi
   simp only [decide_eq_false_iff_not] at h hl
   rw [choices_step (by omega),show x=(fnd r first.length).frm.length by omega]
  all_goals ((repeat intro _) <;> (try simp only [v0,v1,v2,v3,v4,v5,v6,v7,v8,v9,inI,fits,Go.Sh.small] at *) <;> first | (exact rfl) | omega | exact vz | (simp_all; done) | (simp_all; omega))
theorem t121 (r:Run) (first:List Int):Triple Try.prog 121 (s121 r first):=t121' r _ first rfl
abbrev q122_1 (r:Run) (l:List Int) (C:Prop):Prop:=okRun r=true/\l.length<=r.found.length->C
abbrev q122_2 (r:Run) (l:List Int) (C:Nat->Prop):Prop:=q122_1 r l (∀ (x0:Nat),(x0<=r.machines.length /\ ∀ (j:Nat),j < x0->canBeM r l j=true)->decide ((x0:Int) < (↑(r.machines.length):Int))=true->C x0)
abbrev q122_3 (r:Run) (l:List Int) (C:Nat->Nat->Prop):Prop:=q122_2 r l fun x0 => ∀ (x2:Nat),(x2<=r.plates.toNat /\ ∀ (j:Nat),j < x2->canBeAt r l x0 j=true)->decide ((x2:Int) < r.plates)=true->C x0 x2
abbrev q122_4 (r:Run) (l:List Int) (C:Nat->Nat->Prop):Prop:=q122_3 r l fun x0 x2=>decide ((spanOf r l x0 x2).hi < (spanOf r l x0 x2).lo)=false->C x0 x2
abbrev q122_5 (r:Run) (l:List Int) (C:Nat->Nat->Prop):Prop:=q122_2 r l fun x0 => ∀ (x2:Nat),(x2<=r.plates.toNat /\ ∀ (j:Nat),j < x2->canBeAt r l x0 j=true)->decide ((x2:Int) < r.plates)=false->C x0 x2
theorem w122 (r:Run) (l:List Int)
 (o0:q122_1 r l (0=(↑0:Int)))
 (o1:q122_1 r l (0<=r.machines.length /\ ∀ (j:Nat),j < 0->canBeM r l j=true))
 (o2:q122_2 r l fun x0=>0=(↑0:Int))
 (o3:q122_2 r l fun x0=>0<=r.plates.toNat /\ ∀ (j:Nat),j < 0->canBeAt r l x0 j=true)
 (o4:q122_3 r l fun x0 x2=>x0 < r.machines.length)
 (o5:q122_3 r l fun x0 x2=>(x2:Int) < r.plates)
 (o6:q122_3 r l fun x0 x2=>decide ((spanOf r l x0 x2).hi < (spanOf r l x0 x2).lo)=true->false=canBe r l)
 (o7:q122_4 r l fun x0 x2=>inI ((x2:Int) + 1))
 (o8:q122_4 r l fun x0 x2=>(x2:Int) + 1=(↑(x2 + 1):Int))
 (o9:q122_4 r l fun x0 x2=>x2 + 1<=r.plates.toNat /\ ∀ (j:Nat),j < x2 + 1->canBeAt r l x0 j=true)
 (o10:q122_4 r l fun x0 x2=>r.plates.toNat - (x2 + 1) < r.plates.toNat - x2)
 (o11:q122_5 r l fun x0 x2=>inI ((x0:Int) + 1))
 (o12:q122_5 r l fun x0 x2=>(x0:Int) + 1=(↑(x0 + 1):Int))
 (o13:q122_5 r l fun x0 x2=>x0 + 1<=r.machines.length /\ ∀ (j:Nat),j < x0 + 1->canBeM r l j=true)
 (o14:q122_5 r l fun x0 x2=>r.machines.length - (x0 + 1) < r.machines.length - x0)
 (o15:q122_1 r l (∀ (x0:Nat),(x0<=r.machines.length /\ ∀ (j:Nat),j < x0->canBeM r l j=true)->decide ((x0:Int) < (↑(r.machines.length):Int))=false->true=canBe r l)) :
  Triple Try.prog 122 (s122 r l):=by
 refine triple_of Try.func122 rfl Try.call122 T0_ok _ rfl rfl rfl rfl (Nat.le_of_ble_eq_true (by kernel_rfl)) (fun _ _ _ _ h=>h) ?_
 intro hp C hC _ hE
 obtain ⟨P,w0,E0,av,hA⟩:=C
 subst hC
 refine swp_seq ?_
 refine sR (kt:=[1,2]) (kh:=[0]) (q:=True/\True/\True) (st':=ASt.mk [(1,aInts l),(2,.ptr 0 [])] [(0,.cells 25 (cRun r))] 16) (by kernel_rfl) ⟨tv,tv,tv⟩ ?_
 refine swp_seq (swp_seq ?_)
 refine sR (kt:=[1,2,5]) (kh:=[0]) (q:=True/\True) (st':=ASt.mk [(1,aInts l),(2,.ptr 0 []),(5,iv 0)] [(0,.cells 25 (cRun r))] 24) (by kernel_rfl) ⟨tv,tv⟩ ?_
 refine swp_block ?_
 refine swp_loopA (Hint.ann (h122a r l) [(1,aInts l),(2,AV.ptr 0 [])] [(0,OB.cells 25 (cRun r))] 10024) (ent_q hE [] [(0,.same 0)] [1] [0] (((aInts l=aInts l/\true=true)/\(some (Src.same 0)=some (Src.same 0)/\nilP = [])/\(iv 0=iv (↑0:Int)/\nilN = [])/\True)/\((OB.cells 25 (cRun r)=OB.cells 25 (cRun r)/\true=true)/\True)/\T2) (by kernel_rfl) (by kernel_rfl) ⟨⟨⟨rfl,rfl⟩,⟨rfl,rfl⟩,⟨(congrArg iv (o0 hp)),rfl⟩,tv⟩,⟨⟨rfl,rfl⟩,tv⟩,rfl,rfl⟩) (o1 hp) (fun (x0:Nat) hx0 => ?_)
 refine swp_seq (swp_seq ?_)
 refine sR (kt:=[1,2,5,12]) (kh:=[0]) (q:=True/\True/\True/\True/\True/\True) (st':=ASt.mk [(1,aInts l),(2,.ptr 0 []),(5,iv (x0:Int)),(12,bv (decide ((x0:Int) < (↑(r.machines.length):Int))))] [(0,.cells 25 (cRun r))] 10064) (by kernel_rfl) ⟨tv,tv,tv,tv,tv,tv⟩ ?_
 refine swp_cond (decide ((x0:Int) < (↑(r.machines.length):Int))) (by kernel_rfl) (fun h1 => ?_) (fun h1 => ?_)
 ·refine swp_skip (swp_seq (swp_block (swp_seq ?_)))
  refine sR (kt:=[1,2,5,6]) (kh:=[0]) (q:=True/\True) (st':=ASt.mk [(1,aInts l),(2,.ptr 0 []),(5,iv (x0:Int)),(6,iv 0)] [(0,.cells 25 (cRun r))] 10072) (by kernel_rfl) ⟨tv,tv⟩ ?_
  refine swp_block ?_
  refine swp_loopA (Hint.ann (h122b r l x0) [(1,aInts l),(2,AV.ptr 0 []),(5,iv (x0:Int))] [(0,OB.cells 25 (cRun r))] 20072) (ent_q hE [] [(0,.same 0)] [1,5] [0] (((aInts l=aInts l/\true=true)/\(some (Src.same 0)=some (Src.same 0)/\nilP = [])/\(iv (x0:Int)=iv (x0:Int)/\true=true)/\(iv 0=iv (↑0:Int)/\nilN = [])/\True)/\((OB.cells 25 (cRun r)=OB.cells 25 (cRun r)/\true=true)/\True)/\T2) (by kernel_rfl) (by kernel_rfl) ⟨⟨⟨rfl,rfl⟩,⟨rfl,rfl⟩,⟨rfl,rfl⟩,⟨(congrArg iv (o2 hp x0 hx0 h1)),rfl⟩,tv⟩,⟨⟨rfl,rfl⟩,tv⟩,rfl,rfl⟩) (o3 hp x0 hx0 h1) (fun (x2:Nat) hx2 => ?_)
  refine swp_seq (swp_seq ?_)
  refine sR (kt:=[1,2,5,6,18]) (kh:=[0]) (q:=True/\True/\True/\True/\True) (st':=ASt.mk [(1,aInts l),(2,.ptr 0 []),(5,iv (x0:Int)),(6,iv (x2:Int)),(18,bv (decide ((x2:Int) < r.plates)))] [(0,.cells 25 (cRun r))] 20104) (by kernel_rfl) ⟨tv,tv,tv,tv,tv⟩ ?_
  refine swp_cond (decide ((x2:Int) < r.plates)) (by kernel_rfl) (fun h3 => ?_) (fun h3 => ?_)
  ·refine swp_skip (swp_seq (swp_block (swp_seq ?_)))
   refine swp_region T0_ok mixed (cs:=[(4,CallSpec.eq (s88 r l x0 x2) [true,true,true,true])]) (kt:=[1,2,5,6,7]) (kh:=[0,20144]) (q:=True/\True/\True/\True/\((AV.agg (cRun r)=AV.agg (cRun r)/\aInts l=aInts l/\iv (x0:Int)=iv (x0:Int)/\iv (x2:Int)=iv (x2:Int)/\True)/\Triple Try.prog 88 (s88 r l x0 x2)/\(okRun r=true/\x0 < r.machines.length/\(x2:Int) < r.plates/\l.length<=r.found.length)/\True /\ ∀ (i4:Env),True)/\True/\True/\True) (st':=ASt.mk [(1,aInts l),(2,.ptr 0 []),(5,iv (x0:Int)),(6,iv (x2:Int)),(7,.ptr 20144 [])] [(0,.cells 25 (cRun r)),(20144,.cells 37 (cSpan (spanOf r l x0 x2)))] 20160) (by kernel_rfl) ⟨tv,tv,tv,tv,⟨⟨rfl,rfl,rfl,rfl,tv⟩,(t88 (r) (l) (x0) (x2)),⟨hp.1,(o4 hp x0 hx0 h1 x2 hx2 h3),(o5 hp x0 hx0 h1 x2 hx2 h3),hp.2⟩,tv,(fun i4=>tv)⟩,tv,tv,tv⟩ ?_
   refine swp_seq ?_
   refine sR (kt:=[1,2,5,6,30]) (kh:=[0]) (q:=True/\True/\True/\True/\True/\True) (st':=ASt.mk [(1,aInts l),(2,.ptr 0 []),(5,iv (x0:Int)),(6,iv (x2:Int)),(30,bv (decide ((spanOf r l x0 x2).hi < (spanOf r l x0 x2).lo)))] [(0,.cells 25 (cRun r))] 20200) (by kernel_rfl) ⟨tv,tv,tv,tv,tv,tv⟩ ?_
   refine swp_cond (decide ((spanOf r l x0 x2).hi < (spanOf r l x0 x2).lo)) (by kernel_rfl) (fun h5 => ?_) (fun h5 => ?_)
   ·refine swp_seq ?_
    refine sR (kt:=[4]) (kh:=[]) (q:=True/\True) (st':=ASt.mk [(4,bv false)] [] 20208) (by kernel_rfl) ⟨tv,tv⟩ ?_
    refine swp_ret ?_
    exact ret_q [] ((True/\True)/\(bv false=bv (canBe r l)/\nilN = [])/\T3) (by kernel_rfl) ⟨⟨tv,tv⟩,⟨(congrArg bv (o6 hp x0 hx0 h1 x2 hx2 h3 h5)),rfl⟩,rfl,rfl,rfl⟩
   ·refine swp_skip ?_
    refine sR (kt:=[1,2,5,6]) (kh:=[0]) (q:=True/\inI ((x2:Int) + 1)/\True/\True) (st':=ASt.mk [(1,aInts l),(2,.ptr 0 []),(5,iv (x0:Int)),(6,iv ((x2:Int) + 1))] [(0,.cells 25 (cRun r))] 20224) (by kernel_rfl) ⟨tv,(o7 hp x0 hx0 h1 x2 hx2 h3 h5),tv,tv⟩ ?_
    exact loop_next (Hint.ann (h122b r l x0) [(1,aInts l),(2,AV.ptr 0 []),(5,iv (x0:Int))] [(0,OB.cells 25 (cRun r))] 20072) x2 (ent_q hE [] [(0,.same 0)] [1,5] [0] (((aInts l=aInts l/\true=true)/\(some (Src.same 0)=some (Src.same 0)/\nilP = [])/\(iv (x0:Int)=iv (x0:Int)/\true=true)/\(iv ((x2:Int) + 1)=iv (↑(x2 + 1):Int)/\nilN = [])/\True)/\((OB.cells 25 (cRun r)=OB.cells 25 (cRun r)/\true=true)/\True)/\T2) (by kernel_rfl) (by kernel_rfl) ⟨⟨⟨rfl,rfl⟩,⟨rfl,rfl⟩,⟨rfl,rfl⟩,⟨(congrArg iv (o8 hp x0 hx0 h1 x2 hx2 h3 h5)),rfl⟩,tv⟩,⟨⟨rfl,rfl⟩,tv⟩,rfl,rfl⟩) (o9 hp x0 hx0 h1 x2 hx2 h3 h5) (o10 hp x0 hx0 h1 x2 hx2 h3 h5)
  ·refine swp_exit ?_
   refine sR (kt:=[1,2,5]) (kh:=[0]) (q:=True/\inI ((x0:Int) + 1)/\True/\True) (st':=ASt.mk [(1,aInts l),(2,.ptr 0 []),(5,iv ((x0:Int) + 1))] [(0,.cells 25 (cRun r))] 20128) (by kernel_rfl) ⟨tv,(o11 hp x0 hx0 h1 x2 hx2 h3),tv,tv⟩ ?_
   exact loop_next (Hint.ann (h122a r l) [(1,aInts l),(2,AV.ptr 0 [])] [(0,OB.cells 25 (cRun r))] 10024) x0 (ent_q hE [] [(0,.same 0)] [1] [0] (((aInts l=aInts l/\true=true)/\(some (Src.same 0)=some (Src.same 0)/\nilP = [])/\(iv ((x0:Int) + 1)=iv (↑(x0 + 1):Int)/\nilN = [])/\True)/\((OB.cells 25 (cRun r)=OB.cells 25 (cRun r)/\true=true)/\True)/\T2) (by kernel_rfl) (by kernel_rfl) ⟨⟨⟨rfl,rfl⟩,⟨rfl,rfl⟩,⟨(congrArg iv (o12 hp x0 hx0 h1 x2 hx2 h3)),rfl⟩,tv⟩,⟨⟨rfl,rfl⟩,tv⟩,rfl,rfl⟩) (o13 hp x0 hx0 h1 x2 hx2 h3) (o14 hp x0 hx0 h1 x2 hx2 h3)
 ·refine swp_exit (swp_seq ?_)
  refine sR (kt:=[4]) (kh:=[]) (q:=True/\True) (st':=ASt.mk [(4,bv true)] [] 10072) (by kernel_rfl) ⟨tv,tv⟩ ?_
  refine swp_ret ?_
  exact ret_q [] ((True/\True)/\(bv true=bv (canBe r l)/\nilN = [])/\T3) (by kernel_rfl) ⟨⟨tv,tv⟩,⟨(congrArg bv (o15 hp x0 hx0 h1)),rfl⟩,rfl,rfl,rfl⟩
theorem t122 (r:Run) (l:List Int):Triple Try.prog 122 (s122 r l):=by
 apply w122
 case o6 =>
  intro hp x hx hl y hy hyl h
  simp only [decide_eq_true_eq] at hl hyl h
  exact (canBe_false (m:=x) (p:=y) (by omega) hyl (by simp only [canBeAt,decide_eq_false_iff_not]; omega)).symm
 case o9 =>
  intro hp x hx hl y hy hyl h
  simp only [decide_eq_true_eq,decide_eq_false_iff_not] at hl hyl h
  exact ⟨by omega,lt_succ_cases hy.2 (by simp only [canBeAt,decide_eq_true_eq]; omega)⟩
 case o13 =>
  intro hp x hx hl y hy hyl
  simp only [decide_eq_true_eq,decide_eq_false_iff_not] at hl hyl
  exact ⟨by omega,lt_succ_cases hx.2 (all_range fun j hj=>hy.2 j (by omega))⟩
 case o15 =>
  intro hp x hx hl
  simp only [decide_eq_false_iff_not] at hl
  exact (all_range fun j hj=>hx.2 j (by omega)).symm
 case o7=>intro hp x hx hl y hy hyl h; have:=(ok_of hp.1).plates; simp only [decide_eq_true_eq] at hyl; simp only [inI]; omega
 case o11=>intro hp x hx hl y hy hyl; have:=(ok_of hp.1).machines; simp only [inI]; omega
 all_goals ((repeat intro _) <;> (try simp only [v0,v1,v2,v3,v4,v5,v6,v7,v8,v9,inI,fits,Go.Sh.small] at *) <;> first | (exact rfl) | omega | exact vz | (simp_all; done) | (simp_all; omega))
abbrev q93_1 (r:Run) (C:Nat->Prop):Prop:=okRun r=true -> ∀ (x1:Nat),x1<=(choices r []).length->decide ((x1:Int) < (↑((choices r []).length):Int))=true->C x1
abbrev q93_2 (r:Run) (C:Nat->Prop):Prop:=q93_1 r fun x1=>canBe r ((choices r []).getD x1 [])=true->C x1
abbrev q93_3 (r:Run) (C:Nat->Prop):Prop:=q93_1 r fun x1=>canBe r ((choices r []).getD x1 [])=false->C x1
abbrev q93_4 (r:Run) (C:Nat->Prop):Prop:=okRun r=true -> ∀ (x1:Nat),x1<=(choices r []).length->decide ((x1:Int) < (↑((choices r []).length):Int))=false->C x1
theorem w93 (r:Run)
 (o0:okRun r=true->0<=List.length (Run.found r))
 (o1:okRun r=true->0=(↑0:Int))
 (o2:okRun r=true->(List.filter (canBe r) (List.take 0 (choices r []))).length=0)
 (o3:okRun r=true->0<=List.length (choices r []))
 (o4:q93_1 r fun x1=>0<=(x1:Int))
 (o5:q93_1 r fun x1=>(x1:Int) < (↑((choices r []).length):Int))
 (o6:q93_1 r fun x1=>((choices r []).getD x1 []).length<=r.found.length)
 (o7:q93_2 r fun x1=>0<=(x1:Int))
 (o8:q93_2 r fun x1=>(x1:Int) < (↑((choices r []).length):Int))
 (o9:q93_2 r fun x1=>(List.filter (canBe r) (List.take x1 (choices r []))).length + 1<=65536)
 (o10:q93_2 r fun x1=>inI ((x1:Int) + 1))
 (o11:q93_2 r fun x1=>(x1:Int) + 1=(↑(x1 + 1):Int))
 (o12:q93_2 r fun x1=>(List.filter (canBe r) (List.take x1 (choices r []))).length + 1=(List.filter (canBe r) (List.take (x1 + 1) (choices r []))).length)
 (o13:q93_2 r fun x1 => ∀ (i5:Nat),i5 < (List.filter (canBe r) (List.take x1 (choices r []))).length + 1->catF (List.filter (canBe r) (List.take x1 (choices r []))).length (fun (k:Nat)=>[aInts ((List.filter (canBe r) (List.take x1 (choices r []))).getD k [])]) (fun (j:Nat)=>List.getD [[AV.sl 1 ((choices r []).getD x1 []).length fun (i:Nat)=>[iv (((choices r []).getD x1 []).getD i 0)]]] j (TI.za ti30)) i5 = [aInts ((List.filter (canBe r) (List.take (x1 + 1) (choices r []))).getD i5 [])])
 (o14:q93_2 r fun x1=>x1 + 1<=(choices r []).length)
 (o15:q93_2 r fun x1=>(choices r []).length - (x1 + 1) < (choices r []).length - x1)
 (o16:q93_3 r fun x1=>inI ((x1:Int) + 1))
 (o17:q93_3 r fun x1=>(x1:Int) + 1=(↑(x1 + 1):Int))
 (o18:q93_3 r fun x1=>(List.filter (canBe r) (List.take x1 (choices r []))).length=(List.filter (canBe r) (List.take (x1 + 1) (choices r []))).length)
 (o19:q93_3 r fun x1 => ∀ (i7:Nat),i7 < (List.filter (canBe r) (List.take x1 (choices r []))).length -> [aInts ((List.filter (canBe r) (List.take x1 (choices r []))).getD i7 [])] = [aInts ((List.filter (canBe r) (List.take (x1 + 1) (choices r []))).getD i7 [])])
 (o20:q93_3 r fun x1=>x1 + 1<=(choices r []).length)
 (o21:q93_3 r fun x1=>(choices r []).length - (x1 + 1) < (choices r []).length - x1)
 (o22:q93_4 r fun x1=>(List.filter (canBe r) (List.take x1 (choices r []))).length=(fromsOf r).length)
 (o23:q93_4 r fun x1 => ∀ (i9:Nat),i9 < (fromsOf r).length -> [aInts ((List.filter (canBe r) (List.take x1 (choices r []))).getD i9 [])] = [aInts ((fromsOf r).getD i9 [])]) :
  Triple Try.prog 93 (s93 r):=by
 refine triple_of Try.func93 rfl Try.call93 T0_ok _ rfl rfl rfl rfl (Nat.le_of_ble_eq_true (by kernel_rfl)) (fun _ _ _ _ h=>h) ?_
 intro hp C hC _ hE
 obtain ⟨P,w0,E0,av,hA⟩:=C
 subst hC
 refine swp_seq ?_
 refine sR (kt:=[1]) (kh:=[0]) (q:=True/\True/\True) (st':=ASt.mk [(1,.ptr 0 [])] [(0,.cells 25 (cRun r))] 16) (by kernel_rfl) ⟨tv,tv,tv⟩ ?_
 refine swp_seq ?_
 refine swp_region T0_ok mixed (cs:=[(1,CallSpec.eq (s121 r []) [true,false])]) (kt:=[1,3]) (kh:=[0]) (q:=True/\((AV.agg (cRun r)=AV.agg (cRun r)/\0=0/\True)/\Triple Try.prog 121 (s121 r [])/\(okRun r=true/\0<=r.found.length)/\True /\ ∀ (i0:Env),True)/\True/\True) (st':=ASt.mk [(1,.ptr 0 []),(3,aIntss (choices r []))] [(0,.cells 25 (cRun r))] 40) (by kernel_rfl) ⟨tv,⟨⟨rfl,rfl,tv⟩,(t121 (r) ([])),⟨hp,(o0 hp)⟩,tv,(fun i0=>tv)⟩,tv,tv⟩ ?_
 refine swp_seq ?_
 refine sR (kt:=[1,3,4]) (kh:=[0]) (q:=True/\True) (st':=ASt.mk [(1,.ptr 0 []),(3,aIntss (choices r [])),(4,nilv)] [(0,.cells 25 (cRun r))] 48) (by kernel_rfl) ⟨tv,tv⟩ ?_
 refine swp_seq (swp_seq ?_)
 refine sR (kt:=[1,3,4,5]) (kh:=[0]) (q:=True/\True) (st':=ASt.mk [(1,.ptr 0 []),(3,aIntss (choices r [])),(4,nilv),(5,iv 0)] [(0,.cells 25 (cRun r))] 56) (by kernel_rfl) ⟨tv,tv⟩ ?_
 refine swp_block ?_
 refine swp_loopA (Hint.ann (h93 r) [(1,AV.ptr 0 []),(3,aIntss (choices r []))] [(0,OB.cells 25 (cRun r))] 10056) (ent_q hE [] [(0,.same 0),(5000,.nil)] [3] [0] (((some (Src.same 0)=some (Src.same 0)/\nilP = [])/\(aIntss (choices r [])=aIntss (choices r [])/\true=true)/\(iv 0=iv (↑0:Int)/\nilN = [])/\some Src.nil=some Src.nil/\True)/\((OB.cells 25 (cRun r)=OB.cells 25 (cRun r)/\true=true)/\(List.filter (canBe r) (List.take 0 (choices r []))).length=0/\True)/\T2) (by kernel_rfl) (by kernel_rfl) ⟨⟨⟨rfl,rfl⟩,⟨rfl,rfl⟩,⟨(congrArg iv (o1 hp)),rfl⟩,rfl,tv⟩,⟨⟨rfl,rfl⟩,(o2 hp),tv⟩,rfl,rfl⟩) (o3 hp) (fun (x1:Nat) hx1 => ?_)
 refine swp_seq (swp_seq ?_)
 refine sR (kt:=[1,3,5,4,11]) (kh:=[0,5000]) (q:=True/\True/\True/\True/\True) (st':=ASt.mk [(1,.ptr 0 []),(3,aIntss (choices r [])),(5,iv (x1:Int)),(4,.vec 5000),(11,bv (decide ((x1:Int) < (↑((choices r []).length):Int))))] [(0,.cells 25 (cRun r)),(5000,.vec 30 1 (List.filter (canBe r) (List.take x1 (choices r []))).length fun (k:Nat)=>[aInts ((List.filter (canBe r) (List.take x1 (choices r []))).getD k [])])] 10088) (by kernel_rfl) ⟨tv,tv,tv,tv,tv⟩ ?_
 refine swp_cond (decide ((x1:Int) < (↑((choices r []).length):Int))) (by kernel_rfl) (fun h2 => ?_) (fun h2 => ?_)
 ·refine swp_skip (swp_seq (swp_block (swp_seq ?_)))
  refine swp_region T0_ok mixed (cs:=[(5,CallSpec.eq (s122 r ((choices r []).getD x1 [])) [true,true])]) (kt:=[1,3,5,4,19]) (kh:=[0,5000]) (q:=True/\True/\True/\(0<=(x1:Int)/\(x1:Int) < (↑((choices r []).length):Int))/\True/\((AV.agg (cRun r)=AV.agg (cRun r)/\aInts ((choices r []).getD x1 [])=aInts ((choices r []).getD x1 [])/\True)/\Triple Try.prog 122 (s122 r ((choices r []).getD x1 []))/\(okRun r=true/\((choices r []).getD x1 []).length<=r.found.length)/\True /\ ∀ (i3:Env),True)/\True) (st':=ASt.mk [(1,.ptr 0 []),(3,aIntss (choices r [])),(5,iv (x1:Int)),(4,.vec 5000),(19,bv (canBe r ((choices r []).getD x1 [])))] [(0,.cells 25 (cRun r)),(5000,.vec 30 1 (List.filter (canBe r) (List.take x1 (choices r []))).length fun (k:Nat)=>[aInts ((List.filter (canBe r) (List.take x1 (choices r []))).getD k [])])] 10136) (by kernel_rfl) ⟨tv,tv,tv,⟨(o4 hp x1 hx1 h2),(o5 hp x1 hx1 h2)⟩,tv,⟨⟨rfl,rfl,tv⟩,(t122 (r) ((choices r []).getD x1 [])),⟨hp,(o6 hp x1 hx1 h2)⟩,tv,(fun i3=>tv)⟩,tv⟩ ?_
  refine swp_cond (canBe r ((choices r []).getD x1 [])) (by kernel_rfl) (fun h4 => ?_) (fun h4 => ?_)
  ·refine sR (kt:=[1,3,5,4]) (kh:=[0,10184]) (q:=True/\True/\True/\(0<=(x1:Int)/\(x1:Int) < (↑((choices r []).length):Int))/\True/\True/\(List.filter (canBe r) (List.take x1 (choices r []))).length + 1<=65536/\True/\True) (st':=ASt.mk [(1,.ptr 0 []),(3,aIntss (choices r [])),(5,iv (x1:Int)),(4,.vec 10184)] [(0,.cells 25 (cRun r)),(10184,.vec 30 1 ((List.filter (canBe r) (List.take x1 (choices r []))).length + 1) (catF (List.filter (canBe r) (List.take x1 (choices r []))).length (fun (k:Nat)=>[aInts ((List.filter (canBe r) (List.take x1 (choices r []))).getD k [])]) fun (j:Nat)=>List.getD [[.sl 1 ((choices r []).getD x1 []).length fun (i:Nat)=>[iv (((choices r []).getD x1 []).getD i 0)]]] j (TI.za ti30)))] 10200) (by kernel_rfl) ⟨tv,tv,tv,⟨(o7 hp x1 hx1 h2 h4),(o8 hp x1 hx1 h2 h4)⟩,tv,tv,(o9 hp x1 hx1 h2 h4),tv,tv⟩ ?_
   refine sR (kt:=[1,3,5,4]) (kh:=[0,10184]) (q:=True/\inI ((x1:Int) + 1)/\True/\True) (st':=ASt.mk [(1,.ptr 0 []),(3,aIntss (choices r [])),(5,iv ((x1:Int) + 1)),(4,.vec 10184)] [(0,.cells 25 (cRun r)),(10184,.vec 30 1 ((List.filter (canBe r) (List.take x1 (choices r []))).length + 1) (catF (List.filter (canBe r) (List.take x1 (choices r []))).length (fun (k:Nat)=>[aInts ((List.filter (canBe r) (List.take x1 (choices r []))).getD k [])]) fun (j:Nat)=>List.getD [[.sl 1 ((choices r []).getD x1 []).length fun (i:Nat)=>[iv (((choices r []).getD x1 []).getD i 0)]]] j (TI.za ti30)))] 10224) (by kernel_rfl) ⟨tv,(o10 hp x1 hx1 h2 h4),tv,tv⟩ ?_
   exact loop_next (Hint.ann (h93 r) [(1,AV.ptr 0 []),(3,aIntss (choices r []))] [(0,OB.cells 25 (cRun r))] 10056) x1 (ent_q hE [] [(0,.same 0),(5000,.same 10184)] [3] [0] (((some (Src.same 0)=some (Src.same 0)/\nilP = [])/\(aIntss (choices r [])=aIntss (choices r [])/\true=true)/\(iv ((x1:Int) + 1)=iv (↑(x1 + 1):Int)/\nilN = [])/\some (Src.same 10184)=some (Src.same 10184)/\True)/\((OB.cells 25 (cRun r)=OB.cells 25 (cRun r)/\true=true)/\(30=30/\1=1/\(List.filter (canBe r) (List.take x1 (choices r []))).length + 1=(List.filter (canBe r) (List.take (x1 + 1) (choices r []))).length /\ ∀ (i5:Nat),i5 < (List.filter (canBe r) (List.take x1 (choices r []))).length + 1->catF (List.filter (canBe r) (List.take x1 (choices r []))).length (fun (k:Nat)=>[aInts ((List.filter (canBe r) (List.take x1 (choices r []))).getD k [])]) (fun (j:Nat)=>List.getD [[AV.sl 1 ((choices r []).getD x1 []).length fun (i:Nat)=>[iv (((choices r []).getD x1 []).getD i 0)]]] j (TI.za ti30)) i5 = [aInts ((List.filter (canBe r) (List.take (x1 + 1) (choices r []))).getD i5 [])])/\True)/\T2) (by kernel_rfl) (by kernel_rfl) ⟨⟨⟨rfl,rfl⟩,⟨rfl,rfl⟩,⟨(congrArg iv (o11 hp x1 hx1 h2 h4)),rfl⟩,rfl,tv⟩,⟨⟨rfl,rfl⟩,⟨rfl,rfl,(o12 hp x1 hx1 h2 h4),(fun i5=>(fun h6=>(o13 hp x1 hx1 h2 h4 i5 h6)))⟩,tv⟩,rfl,rfl⟩) (o14 hp x1 hx1 h2 h4) (o15 hp x1 hx1 h2 h4)
  ·refine swp_skip ?_
   refine sR (kt:=[1,3,5,4]) (kh:=[0,5000]) (q:=True/\inI ((x1:Int) + 1)/\True/\True) (st':=ASt.mk [(1,.ptr 0 []),(3,aIntss (choices r [])),(5,iv ((x1:Int) + 1)),(4,.vec 5000)] [(0,.cells 25 (cRun r)),(5000,.vec 30 1 (List.filter (canBe r) (List.take x1 (choices r []))).length fun (k:Nat)=>[aInts ((List.filter (canBe r) (List.take x1 (choices r []))).getD k [])])] 10160) (by kernel_rfl) ⟨tv,(o16 hp x1 hx1 h2 h4),tv,tv⟩ ?_
   exact loop_next (Hint.ann (h93 r) [(1,AV.ptr 0 []),(3,aIntss (choices r []))] [(0,OB.cells 25 (cRun r))] 10056) x1 (ent_q hE [] [(0,.same 0),(5000,.same 5000)] [3] [0] (((some (Src.same 0)=some (Src.same 0)/\nilP = [])/\(aIntss (choices r [])=aIntss (choices r [])/\true=true)/\(iv ((x1:Int) + 1)=iv (↑(x1 + 1):Int)/\nilN = [])/\some (Src.same 5000)=some (Src.same 5000)/\True)/\((OB.cells 25 (cRun r)=OB.cells 25 (cRun r)/\true=true)/\(30=30/\1=1/\(List.filter (canBe r) (List.take x1 (choices r []))).length=(List.filter (canBe r) (List.take (x1 + 1) (choices r []))).length /\ ∀ (i7:Nat),i7 < (List.filter (canBe r) (List.take x1 (choices r []))).length -> [aInts ((List.filter (canBe r) (List.take x1 (choices r []))).getD i7 [])] = [aInts ((List.filter (canBe r) (List.take (x1 + 1) (choices r []))).getD i7 [])])/\True)/\T2) (by kernel_rfl) (by kernel_rfl) ⟨⟨⟨rfl,rfl⟩,⟨rfl,rfl⟩,⟨(congrArg iv (o17 hp x1 hx1 h2 h4)),rfl⟩,rfl,tv⟩,⟨⟨rfl,rfl⟩,⟨rfl,rfl,(o18 hp x1 hx1 h2 h4),(fun i7=>(fun h8=>(o19 hp x1 hx1 h2 h4 i7 h8)))⟩,tv⟩,rfl,rfl⟩) (o20 hp x1 hx1 h2 h4) (o21 hp x1 hx1 h2 h4)
 ·refine swp_exit (swp_seq ?_)
  refine sR (kt:=[2]) (kh:=[5000]) (q:=True/\True/\True) (st':=ASt.mk [(2,.vec 5000)] [(5000,.vec 30 1 (List.filter (canBe r) (List.take x1 (choices r []))).length fun (k:Nat)=>[aInts ((List.filter (canBe r) (List.take x1 (choices r []))).getD k [])])] 10104) (by kernel_rfl) ⟨tv,tv,tv⟩ ?_
  refine swp_ret ?_
  exact ret_q [5000] ((True/\True)/\(1=1/\(List.filter (canBe r) (List.take x1 (choices r []))).length=(fromsOf r).length /\ ∀ (i9:Nat),i9 < (fromsOf r).length -> [aInts ((List.filter (canBe r) (List.take x1 (choices r []))).getD i9 [])] = [aInts ((fromsOf r).getD i9 [])])/\T3) (by kernel_rfl) ⟨⟨tv,tv⟩,⟨rfl,(o22 hp x1 hx1 h2),(fun i9=>(fun h10=>(o23 hp x1 hx1 h2 i9 h10)))⟩,rfl,rfl,rfl⟩
theorem t93 (r:Run):Triple Try.prog 93 (s93 r):=by
 apply w93
 case o2=>intro _; rfl
 case o6 =>
  intro hp x hx hl
  simp only [decide_eq_true_eq] at hl
  rw [choices_mem (getD_mem _ [] (by omega))]; exact Nat.le_refl _
 case o9 =>
  intro hp x hx hl h
  have h1:=choices_len (ok_of hp) (first:=[]) (Nat.zero_le _)
  have h2:=List.length_filter_le (canBe r) ((choices r []).take x)
  rw [List.length_take] at h2
  omega
 case o10 | o16 =>
  intro hp x hx hl h
  have h1:=choices_len (ok_of hp) (first:=[]) (Nat.zero_le _)
  simp only [inI]; omega
 case o12 =>
  intro hp x hx hl h
  simp only [decide_eq_true_eq] at hl
  rw [take_succ _ [] (by omega),List.filter_append,List.length_append,List.filter_cons_of_pos h]; rfl
 case o13 =>
  intro hp x hx hl h i hi
  simp only [decide_eq_true_eq] at hl
  rw [take_succ _ [] (show x < (choices r []).length by omega),List.filter_append,List.filter_cons_of_pos h,List.filter_nil]
  exact catF_one _ _ [] (fun z=>[aInts z]) rfl (fun _ _=>rfl) rfl hi
 case o18 =>
  intro hp x hx hl h
  simp only [decide_eq_true_eq] at hl
  rw [take_succ _ [] (by omega),List.filter_append,List.length_append,List.filter_cons_of_neg (by rw [h]; exact Bool.false_ne_true)]; rfl
 case o19 =>
  intro hp x hx hl h i hi
  simp only [decide_eq_true_eq] at hl
  rw [take_succ _ [] (show x < (choices r []).length by omega),List.filter_append,List.filter_cons_of_neg (by rw [h]; exact Bool.false_ne_true),List.filter_nil,List.append_nil]
 case o22 =>
  intro hp x hx hl
  simp only [decide_eq_false_iff_not] at hl
  rw [List.take_of_length_le (by omega)]; rfl
 case o23 =>
  intro hp x hx hl i hi
  simp only [decide_eq_false_iff_not] at hl
  rw [List.take_of_length_le (by omega)]; rfl
 all_goals ((repeat intro _) <;> (try simp only [v0,v1,v2,v3,v4,v5,v6,v7,v8,v9,inI,fits,Go.Sh.small] at *) <;> first | (exact rfl) | omega | exact vz | (simp_all; done) | (simp_all; omega))
theorem w42 (r:Run)
  (o0:okRun r=true->decide (0 < (↑((fromsOf r).length):Int))=isOne r) :
  Triple Try.prog 42 (s42 r):=by
 refine triple_of Try.func42 rfl Try.call42 T0_ok _ rfl rfl rfl rfl (Nat.le_of_ble_eq_true (by kernel_rfl)) (fun _ _ _ _ h=>h) ?_
 intro hp C hC _ hE
 obtain ⟨P,w0,E0,av,hA⟩:=C
 subst hC
 refine swp_seq ?_
 refine sR (kt:=[1]) (kh:=[0]) (q:=True/\True/\True) (st':=ASt.mk [(1,.ptr 0 [])] [(0,.cells 25 (cRun r))] 16) (by kernel_rfl) ⟨tv,tv,tv⟩ ?_
 refine swp_seq ?_
 refine swp_region T0_ok mixed (cs:=[(1,CallSpec.eq (s93 r) [true])]) (kt:=[2]) (kh:=[]) (q:=True/\((AV.agg (cRun r)=AV.agg (cRun r)/\True)/\Triple Try.prog 93 (s93 r)/\okRun r=true/\True /\ ∀ (i0:Env),True)/\True/\True/\True/\True) (st':=ASt.mk [(2,bv (decide (0 < (↑((fromsOf r).length):Int))))] [] 56) (by kernel_rfl) ⟨tv,⟨⟨rfl,tv⟩,(t93 (r)),hp,tv,(fun i0=>tv)⟩,tv,tv,tv,tv⟩ ?_
 refine swp_ret ?_
 exact ret_q [] ((True/\True)/\(bv (decide (0 < (↑((fromsOf r).length):Int)))=bv (isOne r)/\nilN = [])/\T3) (by kernel_rfl) ⟨⟨tv,tv⟩,⟨(congrArg bv (o0 hp)),rfl⟩,rfl,rfl,rfl⟩
theorem t42 (r:Run):Triple Try.prog 42 (s42 r):=by
 apply w42
 all_goals ((repeat intro _) <;> (try simp only [v0,v1,v2,v3,v4,v5,v6,v7,v8,v9,inI,fits,Go.Sh.small] at *) <;> first | (exact rfl) | omega | exact vz | (simp_all; done) | (simp_all; omega))
theorem w21 (r:Run)
  (o0:fits r->ready r=true->okRun r=true)
  (o1:fits r->(bif ready r then isOne r else false)=known6 r) :
  Triple Try.prog 21 (s21 r):=by
 refine triple_of Try.func21 rfl Try.call21 T0_ok _ rfl rfl rfl rfl (Nat.le_of_ble_eq_true (by kernel_rfl)) (fun _ _ _ _ h=>h) ?_
 intro hp C hC _ hE
 obtain ⟨P,w0,E0,av,hA⟩:=C
 subst hC
 refine swp_seq ?_
 refine sR (kt:=[1]) (kh:=[0]) (q:=True/\True/\True) (st':=ASt.mk [(1,.ptr 0 [])] [(0,.cells 25 (cRun r))] 16) (by kernel_rfl) ⟨tv,tv,tv⟩ ?_
 refine swp_seq ?_
 refine swp_region T0_ok mixed (cs:=[(1,CallSpec.eq (s17 r) [true]),(4,CallSpec.eq (s42 r) [true])]) (kt:=[2]) (kh:=[]) (q:=True/\((AV.agg (cRun r)=AV.agg (cRun r)/\True)/\Triple Try.prog 17 (s17 r)/\fits r/\True /\ ∀ (i0:Env),True)/\True/\(ready r=true->(True/\True)/\True)/\(ready r=true->(True/\(ready r=true->ready r=true)/\True)/\(AV.agg (cRun r)=AV.agg (cRun r)/\True)/\Triple Try.prog 42 (s42 r)/\okRun r=true/\True /\ ∀ (i4:Env),True)/\((ready r=true->ready r=true)/\(ready r=false->True))/\True/\True) (st':=ASt.mk [(2,bv (bif ready r then isOne r else false))] [] 72) (by kernel_rfl) ⟨tv,⟨⟨rfl,tv⟩,(t17 (r)),hp,tv,(fun i0=>tv)⟩,tv,(fun h1=>⟨⟨tv,tv⟩,tv⟩),(fun h2=>⟨⟨tv,(fun h3=>h2),tv⟩,⟨rfl,tv⟩,(t42 (r)),(o0 hp h2),tv,(fun i4=>tv)⟩),⟨(fun h5=>h5),(fun h6=>tv)⟩,tv,tv⟩ ?_
 refine swp_ret ?_
 exact ret_q [] ((True/\True)/\(bv (bif ready r then isOne r else false)=bv (known6 r)/\nilN = [])/\T3) (by kernel_rfl) ⟨⟨tv,tv⟩,⟨(congrArg bv (o1 hp)),rfl⟩,rfl,rfl,rfl⟩
theorem t21 (r:Run):Triple Try.prog 21 (s21 r):=by
 apply w21
 case o0=>intro _ h; simp only [ready,Bool.and_eq_true,decide_eq_true_eq] at h; exact check_zero.1 h.2
 case o1=>intro _; unfold known6; cases ready r <;> rfl
end Go.Ab
namespace Go.Sh
def idxF (l:List Int) (p:Int->Bool):Int:=match l.findIdx? p with | some i=>i | none => -1
def badNew (n:Int):Bool := !within n (-1) 1
theorem idxF_found {l:List Int} {p:Int->Bool} {x:Nat} (hx:x < l.length) (h:∀ j,j < x->p (l.getD j 0)=false) (hp:p (l.getD x 0)=true):idxF l p=x:=by
 have:l.findIdx? p=some x:=by
  rw [List.findIdx?_eq_some_iff_getElem]
  refine ⟨hx,by rw [← Go.Ab.getD_lt l 0 hx]; exact hp,fun j hj => ?_⟩
  rw [← Go.Ab.getD_lt l 0 (by omega),h j hj]; simp
 simp [idxF,this]
theorem idxF_none {l:List Int} {p:Int->Bool} (h:∀ j,j < l.length->p (l.getD j 0)=false):idxF l p = -1:=by
 have:l.findIdx? p=none:=by
  rw [List.findIdx?_eq_none_iff]
  intro x hx
  have h1:=Go.Ab.any_idx l 0 p h
  rw [List.any_eq_false] at h1
  simpa using h1 x hx
 simp [idxF,this]
theorem idxF_any (l:List Int) (p:Int->Bool):decide (0<=idxF l p)=l.any p:=by
 unfold idxF
 cases e:l.findIdx? p with
 | none =>
  rw [List.findIdx?_eq_none_iff] at e
  have:l.any p=false:=by rw [List.any_eq_false]; intro x hx; simp [e x hx]
  rw [this]; rfl
 | some i =>
  rw [List.findIdx?_eq_some_iff_getElem] at e
  obtain ⟨h,h1,_⟩:=e
  have:l.any p=true:=by rw [List.any_eq_true]; exact ⟨_,List.getElem_mem h,h1⟩
  rw [this]; simp
end Go.Sh
namespace Go.Ab
open Go Go.RowKit Go.Proofs Go.Sh Go.En
def s114 (n:Int):CallSpec:={ args:=[iv n],res:=bv (badNew n) }
def s136 (l:List Int) (p:Int->Bool):CallSpec:={ args:=[aInts l,.fn 0],res:=iv (idxF l p),pre:=l.length<=1125899906842624,fnok:=fnokOf Try.prog 0 (fun n:Int=>[iv n]) (fun n=>bv (p n)) }
def h136 (l:List Int) (p:Int->Bool):Hint:={ X:=Nat,M:=fun i=>[(8,iv i)],I:=fun i=>i<=l.length /\ ∀ j,j < i->p (l.getD j 0)=false,mu:=fun i=>l.length - i,x0:=(0:Nat),nx:=fun i=>i + 1 }
def c136 (l:List Int) (p:Int->Bool) (x:Nat):CallSpec:={ args:=[iv (l.getD x 0)],res:=bv (p (l.getD x 0)) }
def s113 (l:List Int) (p:Int->Bool):CallSpec:={ args:=[aInts l,.fn 0],res:=bv (l.any p),pre:=l.length<=1125899906842624,fnok:=fnokOf Try.prog 0 (fun n:Int=>[iv n]) (fun n=>bv (p n)) }
def c113 (l:List Int) (p:Int->Bool):CallSpec:=s136 l p
def s71 (r:Run):CallSpec:={ args:=[vRun r],res:=iv (check r),pre:=fits r }
def h71a (r:Run):Hint:={ X:=Nat,M:=fun i=>[(37,iv i)],I:=fun i=>i<=r.machines.length /\ ∀ j,j < i->okMachA r (mach r j)=true,mu:=fun i=>r.machines.length - i,x0:=(0:Nat),nx:=fun i=>i + 1 }
def h71b (r:Run) (x:Nat):Hint:={ X:=Nat,M:=fun i=>[(56,iv i)],I:=fun i=>i<=(mach r x).changes.length /\ ∀ j,j < i->isSpan (chg (mach r x) j) r.last=true,mu:=fun i=>(mach r x).changes.length - i,x0:=(0:Nat),nx:=fun i=>i + 1 }
def h71c (r:Run):Hint:={ X:=Nat,M:=fun i=>[(78,iv i)],I:=fun i=>i<=r.found.length /\ ∀ j,j < i->okFndA r (fnd r j)=true,mu:=fun i=>r.found.length - i,x0:=(0:Nat),nx:=fun i=>i + 1 }
def h71d (r:Run) (x:Nat):Hint:={ X:=Nat,M:=fun i=>[(111,iv i)],I:=fun i=>i<=(fnd r x).frm.length /\ ∀ j,j < i->risAt (fnd r x).frm 0 ((r.machines.length:Int) - 1) j=true,mu:=fun i=>(fnd r x).frm.length - i,x0:=(0:Nat),nx:=fun i=>i + 1 }
def c71 (r:Run) (x:Nat):CallSpec:=s113 (fnd r x).new badNew
end Go.Ab
namespace Go.Ab
open Go Go.RowKit Go.Proofs Go.Sh Go.En
theorem w114 (n:Int)
  (o0:(!within n (-1) 1)=badNew n) :
  Triple Try.prog 114 (s114 n):=by
 refine triple_of Try.func114 rfl Try.call114 T0_ok _ rfl rfl rfl rfl (Nat.le_of_ble_eq_true (by kernel_rfl)) (fun _ _ _ _ h=>h) ?_
 intro _ C hC _ hE
 obtain ⟨P,w0,E0,av,hA⟩:=C
 subst hC
 refine swp_seq ?_
 refine sR (kt:=[0]) (kh:=[]) (q:=True/\True) (st':=ASt.mk [(0,iv n)] [] 8) (by kernel_rfl) ⟨tv,tv⟩ ?_
 refine swp_seq ?_
 refine swp_region T0_ok mixed (cs:=[(1,CallSpec.eq (s112 n (-1) 1) [true,true,true])]) (kt:=[2]) (kh:=[]) (q:=True/\((iv n=iv n/\iv (-1)=iv (-1)/\iv 1=iv 1/\True)/\Triple Try.prog 112 (s112 n (-1) 1)/\True/\True /\ ∀ (i0:Env),True)/\True/\True/\True) (st':=ASt.mk [(2,bv !within n (-1) 1)] [] 40) (by kernel_rfl) ⟨tv,⟨⟨rfl,rfl,rfl,tv⟩,(t112 (n) (-1) (1)),tv,tv,(fun i0=>tv)⟩,tv,tv,tv⟩ ?_
 refine swp_ret ?_
 exact ret_q [] ((True/\True)/\((bv !within n (-1) 1)=bv (badNew n)/\nilN = [])/\T3) (by kernel_rfl) ⟨⟨tv,tv⟩,⟨(congrArg bv (o0)),rfl⟩,rfl,rfl,rfl⟩
theorem t114 (n:Int):Triple Try.prog 114 (s114 n):=by
 apply w114
 all_goals (try ((repeat intro _) <;> (try simp only [v0,v1,v2,v3,v4,v5,v6,v7,v8,v9,inI,fits,Go.Sh.small] at *) <;> first | (exact rfl) | omega | exact vz | (simp_all; done) | (simp_all; omega)))
abbrev q136_1 (l:List Int) (p:Int->Bool) (C:Env->Prop):Prop := ∀ (E0:Env),fnokOf Try.prog 0 (fun (n:Int)=>[iv n]) (fun (n:Int)=>bv (p n)) E0->l.length<=1125899906842624->C E0
abbrev q136_2 (l:List Int) (p:Int->Bool) (C:Env->Nat->Prop):Prop:=q136_1 l p fun E0 => ∀ (x0:Nat),(x0<=l.length /\ ∀ (j:Nat),j < x0->p (l.getD j 0)=false)->decide ((x0:Int) < (↑(l.length):Int))=true->C E0 x0
theorem w136 (l:List Int) (p:Int->Bool)
 (o0:q136_1 l p fun E0=>0=(↑0:Int))
 (o1:q136_1 l p fun E0=>0<=l.length /\ ∀ (j:Nat),j < 0->p (l.getD j 0)=false)
 (o2:q136_2 l p fun E0 x0=>0<=(x0:Int))
 (o3:q136_2 l p fun E0 x0=>(x0:Int) < (↑(l.length):Int))
 (o4:q136_2 l p fun E0 x0 => ∀ (i2:Value),E0.4 0 i2->FnOK Try.prog E0 i2 [iv (l.getD x0 0)] (bv (p (l.getD x0 0))))
 (o5:q136_2 l p fun E0 x0=>p (l.getD x0 0)=true->(x0:Int)=idxF l p)
 (o6:q136_2 l p fun E0 x0=>p (l.getD x0 0)=false->inI ((x0:Int) + 1))
 (o7:q136_2 l p fun E0 x0=>p (l.getD x0 0)=false->(x0:Int) + 1=(↑(x0 + 1):Int))
 (o8:q136_2 l p fun E0 x0=>p (l.getD x0 0)=false->x0 + 1<=l.length /\ ∀ (j:Nat),j < x0 + 1->p (l.getD j 0)=false)
 (o9:q136_2 l p fun E0 x0=>p (l.getD x0 0)=false->l.length - (x0 + 1) < l.length - x0)
 (o10:q136_1 l p fun E0 => ∀ (x0:Nat),(x0<=l.length /\ ∀ (j:Nat),j < x0->p (l.getD j 0)=false)->decide ((x0:Int) < (↑(l.length):Int))=false -> -1=idxF l p) :
  Triple Try.prog 136 (s136 l p):=by
 refine triple_of Try.func136 rfl Try.call136 T0_ok _ rfl rfl rfl rfl (Nat.le_of_ble_eq_true (by kernel_rfl)) fnokOf_congr ?_
 intro hp C hC hfn hE
 obtain ⟨P,w0,E0,av,hA⟩:=C
 subst hC
 refine swp_seq ?_
 refine sR (kt:=[0,1]) (kh:=[]) (q:=True/\True) (st':=ASt.mk [(0,aInts l),(1,.fn 0)] [] 8) (by kernel_rfl) ⟨tv,tv⟩ ?_
 refine swp_seq (swp_seq ?_)
 refine sR (kt:=[0,1,7,8]) (kh:=[]) (q:=True/\True/\True/\True) (st':=ASt.mk [(0,aInts l),(1,.fn 0),(7,iv (↑(l.length):Int)),(8,iv 0)] [] 32) (by kernel_rfl) ⟨tv,tv,tv,tv⟩ ?_
 refine swp_block ?_
 refine swp_loopA (Hint.ann (h136 l p) [(0,aInts l),(1,AV.fn 0),(7,iv (↑(l.length):Int))] [] 10032) (ent_q hE [] [] [0,1,7] [] (((aInts l=aInts l/\true=true)/\(AV.fn 0=AV.fn 0/\true=true)/\(iv (↑(l.length):Int)=iv (↑(l.length):Int)/\true=true)/\(iv 0=iv (↑0:Int)/\nilN = [])/\True)/\True/\T2) (by kernel_rfl) (by kernel_rfl) ⟨⟨⟨rfl,rfl⟩,⟨rfl,rfl⟩,⟨rfl,rfl⟩,⟨(congrArg iv (o0 E0 hfn hp)),rfl⟩,tv⟩,tv,rfl,rfl⟩) (o1 E0 hfn hp) (fun (x0:Nat) hx0 => ?_)
 refine swp_seq ?_
 refine sR (kt:=[0,1,7,8,9]) (kh:=[]) (q:=True/\True) (st':=ASt.mk [(0,aInts l),(1,.fn 0),(7,iv (↑(l.length):Int)),(8,iv (x0:Int)),(9,bv (decide ((x0:Int) < (↑(l.length):Int))))] [] 10040) (by kernel_rfl) ⟨tv,tv⟩ ?_
 refine swp_seq ?_
 refine swp_cond (decide ((x0:Int) < (↑(l.length):Int))) (by kernel_rfl) (fun h1 => ?_) (fun h1 => ?_)
 ·refine swp_skip (swp_seq (swp_block (swp_seq ?_)))
  refine sR (kt:=[0,1,7,8,5]) (kh:=[]) (q:=True/\True/\True) (st':=ASt.mk [(0,aInts l),(1,.fn 0),(7,iv (↑(l.length):Int)),(8,iv (x0:Int)),(5,iv (x0:Int))] [] 10056) (by kernel_rfl) ⟨tv,tv,tv⟩ ?_
  refine swp_seq ?_
  refine swp_region T0_ok mixed (cs:=[(5,CallSpec.eq (c136 l p x0) [true])]) (kt:=[0,1,7,8,5,16]) (kh:=[]) (q:=True/\True/\True/\(0<=(x0:Int)/\(x0:Int) < (↑(l.length):Int))/\True/\((iv (l.getD x0 0)=iv (l.getD x0 0)/\True) /\ ∀ (i2:Value),E0.4 0 i2->FnOK Try.prog E0 i2 [iv (l.getD x0 0)] (bv (p (l.getD x0 0))))/\True) (st':=ASt.mk [(0,aInts l),(1,.fn 0),(7,iv (↑(l.length):Int)),(8,iv (x0:Int)),(5,iv (x0:Int)),(16,bv (p (l.getD x0 0)))] [] 10104) (by kernel_rfl) ⟨tv,tv,tv,⟨(o2 E0 hfn hp x0 hx0 h1),(o3 E0 hfn hp x0 hx0 h1)⟩,tv,⟨⟨rfl,tv⟩,(fun i2=>(fun h3=>(o4 E0 hfn hp x0 hx0 h1 i2 h3)))⟩,tv⟩ ?_
  refine swp_cond (p (l.getD x0 0)) (by kernel_rfl) (fun h4 => ?_) (fun h4 => ?_)
  ·refine swp_seq ?_
   refine sR (kt:=[4]) (kh:=[]) (q:=True/\True/\True) (st':=ASt.mk [(4,iv (x0:Int))] [] 10120) (by kernel_rfl) ⟨tv,tv,tv⟩ ?_
   refine swp_ret ?_
   exact ret_q [] ((True/\True)/\(iv (x0:Int)=iv (idxF l p)/\nilN = [])/\T3) (by kernel_rfl) ⟨⟨tv,tv⟩,⟨(congrArg iv (o5 E0 hfn hp x0 hx0 h1 h4)),rfl⟩,rfl,rfl,rfl⟩
  ·refine swp_skip ?_
   refine sR (kt:=[0,1,7,8]) (kh:=[]) (q:=inI ((x0:Int) + 1)/\True/\True) (st':=ASt.mk [(0,aInts l),(1,.fn 0),(7,iv (↑(l.length):Int)),(8,iv ((x0:Int) + 1))] [] 10120) (by kernel_rfl) ⟨(o6 E0 hfn hp x0 hx0 h1 h4),tv,tv⟩ ?_
   exact loop_next (Hint.ann (h136 l p) [(0,aInts l),(1,AV.fn 0),(7,iv (↑(l.length):Int))] [] 10032) x0 (ent_q hE [] [] [0,1,7] [] (((aInts l=aInts l/\true=true)/\(AV.fn 0=AV.fn 0/\true=true)/\(iv (↑(l.length):Int)=iv (↑(l.length):Int)/\true=true)/\(iv ((x0:Int) + 1)=iv (↑(x0 + 1):Int)/\nilN = [])/\True)/\True/\T2) (by kernel_rfl) (by kernel_rfl) ⟨⟨⟨rfl,rfl⟩,⟨rfl,rfl⟩,⟨rfl,rfl⟩,⟨(congrArg iv (o7 E0 hfn hp x0 hx0 h1 h4)),rfl⟩,tv⟩,tv,rfl,rfl⟩) (o8 E0 hfn hp x0 hx0 h1 h4) (o9 E0 hfn hp x0 hx0 h1 h4)
 ·refine swp_exit (swp_seq ?_)
  refine sR (kt:=[4]) (kh:=[]) (q:=True/\True) (st':=ASt.mk [(4,iv (-1))] [] 10048) (by kernel_rfl) ⟨tv,tv⟩ ?_
  refine swp_ret ?_
  exact ret_q [] ((True/\True)/\(iv (-1)=iv (idxF l p)/\nilN = [])/\T3) (by kernel_rfl) ⟨⟨tv,tv⟩,⟨(congrArg iv (o10 E0 hfn hp x0 hx0 h1)),rfl⟩,rfl,rfl,rfl⟩
theorem t136 (l:List Int) (p:Int->Bool):Triple Try.prog 136 (s136 l p):=by
 apply w136
 case o4=>intro E0 hfn hp x hx hl u hu; exact hfn u hu _
 case o5=>intro E0 hfn hp x hx hl h; simp only [decide_eq_true_eq] at hl; exact (idxF_found (by omega) hx.2 h).symm
 case o8=>intro E0 hfn hp x hx hl h; simp only [decide_eq_true_eq] at hl; exact ⟨by omega,lt_succ_cases hx.2 h⟩
 case o10=>intro E0 hfn hp x hx hl; simp only [decide_eq_false_iff_not] at hl; exact (idxF_none (fun j hj=>hx.2 j (by omega))).symm
 all_goals ((repeat intro _) <;> (try simp only [v0,v1,v2,v3,v4,v5,v6,v7,v8,v9,inI,fits,Go.Sh.small] at *) <;> first | (exact rfl) | omega | exact vz | (simp_all; done) | (simp_all; omega))
theorem w113 (l:List Int) (p:Int->Bool)
  (o0:∀ (E0:Env),fnokOf Try.prog 0 (fun (n:Int)=>[iv n]) (fun (n:Int)=>bv (p n)) E0->l.length<=1125899906842624 -> ∀ (i0:Env) (i1:List Value),Env.le E0 i0->i1.length=List.length [aInts l,AV.fn 0]->(∀ (k:Nat),Rel i0 true (List.getD [aInts l,AV.fn 0] k AV.any) (i1.getD k undef))->fnokOf Try.prog 0 (fun (n:Int)=>[iv n]) (fun (n:Int)=>bv (p n)) (Env.mk i0.1 i0.2 i0.3 fun (k:Nat) (u:Value) => ∃ (i:Nat),[aInts l,AV.fn 0][i]? = some (AV.fn k)/\i1[i]? = some u))
  (o1:∀ (E0:Env),fnokOf Try.prog 0 (fun (n:Int)=>[iv n]) (fun (n:Int)=>bv (p n)) E0->l.length<=1125899906842624->decide (0<=idxF l p)=List.any l p) :
  Triple Try.prog 113 (s113 l p):=by
 refine triple_of Try.func113 rfl Try.call113 T0_ok _ rfl rfl rfl rfl (Nat.le_of_ble_eq_true (by kernel_rfl)) fnokOf_congr ?_
 intro hp C hC hfn hE
 obtain ⟨P,w0,E0,av,hA⟩:=C
 subst hC
 refine swp_seq ?_
 refine sR (kt:=[0,1]) (kh:=[]) (q:=True/\True) (st':=ASt.mk [(0,aInts l),(1,.fn 0)] [] 8) (by kernel_rfl) ⟨tv,tv⟩ ?_
 refine swp_seq ?_
 refine swp_region T0_ok mixed (cs:=[(2,CallSpec.eq (c113 l p) [true,true])]) (kt:=[4]) (kh:=[]) (q:=True/\True/\((aInts l=aInts l/\AV.fn 0=AV.fn 0/\True)/\Triple Try.prog 136 (c113 l p)/\l.length<=1125899906842624/\True /\ ∀ (i0:Env) (i1:List Value),Env.le E0 i0->i1.length=List.length [aInts l,AV.fn 0]->(∀ (k:Nat),Rel i0 true (List.getD [aInts l,AV.fn 0] k AV.any) (i1.getD k undef))->fnokOf Try.prog 0 (fun (n:Int)=>[iv n]) (fun (n:Int)=>bv (p n)) (Env.mk i0.1 i0.2 i0.3 fun (k:Nat) (u:Value) => ∃ (i:Nat),[aInts l,AV.fn 0][i]? = some (AV.fn k)/\i1[i]? = some u))/\True/\True/\True) (st':=ASt.mk [(4,bv (decide (0<=idxF l p)))] [] 48) (by kernel_rfl) ⟨tv,tv,⟨⟨rfl,rfl,tv⟩,(t136 _ _),hp,tv,(fun i0=>(fun i1=>(fun h2=>(fun h3=>(fun h4=>(o0 E0 hfn hp i0 i1 h2 h3 h4))))))⟩,tv,tv,tv⟩ ?_
 refine swp_ret ?_
 exact ret_q [] ((True/\True)/\(bv (decide (0<=idxF l p))=bv (List.any l p)/\nilN = [])/\T3) (by kernel_rfl) ⟨⟨tv,tv⟩,⟨(congrArg bv (o1 E0 hfn hp)),rfl⟩,rfl,rfl,rfl⟩
theorem t113 (l:List Int) (p:Int->Bool):Triple Try.prog 113 (s113 l p):=by
 apply w113
 case o0 =>
  intro E0 hfn hp E us le hl hr
  refine fnok_pass 1 (fun j' h => ?_) rfl hfn E us le hl hr
  match j',h with
  | 0,h=>cases h
  | 1,_=>rfl
  | n + 2,h=>simp at h
 case o1=>(repeat intro _); exact idxF_any _ _
abbrev q71_1 (r:Run) (C:Prop):Prop:=fits r->(bif bif bif !within r.plates 1 3 then true else !within r.last 1 30 then true else !within (↑(r.machines.length):Int) 1 3 then true else decide (6 < (↑(r.found.length):Int)))=false->C
abbrev q71_2 (r:Run) (C:Nat->Prop):Prop:=q71_1 r (∀ (x33:Nat),(x33<=r.machines.length /\ ∀ (j:Nat),j < x33->okMachA r (mach r j)=true)->decide ((x33:Int) < (↑(r.machines.length):Int))=true->C x33)
abbrev q71_3 (r:Run) (C:Nat->Prop):Prop:=q71_2 r fun x33=>(bif !decide ((↑((mach r x33).changes.length):Int)=r.plates) then true else !within (mach r x33).rate 0 9)=false->C x33
abbrev q71_4 (r:Run) (C:Nat->Nat->Prop):Prop:=q71_3 r fun x33 => ∀ (x46:Nat),(x46<=(mach r x33).changes.length /\ ∀ (j:Nat),j < x46->isSpan (chg (mach r x33) j) r.last=true)->C x33 x46
abbrev q71_5 (r:Run) (C:Nat->Nat->Prop):Prop:=q71_4 r fun x33 x46=>decide ((x46:Int) < (↑((mach r x33).changes.length):Int))=true->C x33 x46
abbrev q71_6 (r:Run) (C:Nat->Nat->Prop):Prop:=q71_5 r fun x33 x46=>(bif !within ((mach r x33).changes.getD x46 default).lo 0 ((mach r x33).changes.getD x46 default).hi then true else decide (r.last < ((mach r x33).changes.getD x46 default).hi))=false->C x33 x46
abbrev q71_7 (r:Run) (C:Nat->Nat->Prop):Prop:=q71_4 r fun x33 x46=>decide ((x46:Int) < (↑((mach r x33).changes.length):Int))=false->C x33 x46
abbrev q71_8 (r:Run) (C:Nat->Prop):Prop:=q71_1 r (∀ (x33:Nat),(x33<=r.machines.length /\ ∀ (j:Nat),j < x33->okMachA r (mach r j)=true)->decide ((x33:Int) < (↑(r.machines.length):Int))=false->C x33)
abbrev q71_9 (r:Run) (C:Nat->Nat->Prop):Prop:=q71_8 r fun x33 => ∀ (x61:Nat),(x61<=r.found.length /\ ∀ (j:Nat),j < x61->okFndA r (fnd r j)=true)->decide ((x61:Int) < (↑(r.found.length):Int))=true->C x33 x61
abbrev q71_10 (r:Run) (C:Nat->Nat->Prop):Prop:=q71_9 r fun x33 x61=>(bif bif bif !within (fnd r x61).minute 0 (r.last - 1) then true else !decide ((↑((fnd r x61).new.length):Int)=r.plates) then true else decide ((↑((fnd r x61).frm.length):Int)=0) then true else List.any (fnd r x61).new badNew)=false->C x33 x61
abbrev q71_11 (r:Run) (C:Nat->Nat->Nat->Prop):Prop:=q71_10 r fun x33 x61 => ∀ (x99:Nat),(x99<=(fnd r x61).frm.length /\ ∀ (j:Nat),j < x99->risAt (fnd r x61).frm 0 ((↑(r.machines.length):Int) - 1) j=true)->C x33 x61 x99
abbrev q71_12 (r:Run) (C:Nat->Nat->Nat->Prop):Prop:=q71_11 r fun x33 x61 x99=>decide ((x99:Int) < (↑((fnd r x61).frm.length):Int))=true->C x33 x61 x99
abbrev q71_13 (r:Run) (C:Nat->Nat->Nat->Prop):Prop:=q71_12 r fun x33 x61 x99=>(!!within ((fnd r x61).frm.getD x99 0) 0 ((↑(r.machines.length):Int) - 1) && decide (0 < (x99:Int)))=true->C x33 x61 x99
abbrev q71_14 (r:Run) (C:Nat->Nat->Nat->Prop):Prop:=q71_12 r fun x33 x61 x99=>(bif !within ((fnd r x61).frm.getD x99 0) 0 ((↑(r.machines.length):Int) - 1) then true else bif decide (0 < (x99:Int)) then decide ((fnd r x61).frm.getD x99 0<=(fnd r x61).frm.getD ((x99:Int) - 1).toNat 0) else false)=false->C x33 x61 x99
abbrev q71_15 (r:Run) (C:Nat->Nat->Nat->Prop):Prop:=q71_11 r fun x33 x61 x99=>decide ((x99:Int) < (↑((fnd r x61).frm.length):Int))=false->C x33 x61 x99
theorem w71 (r:Run)
 (o0:fits r->(!within r.plates 1 3)=false->(!!within r.plates 1 3)=true)
 (o1:fits r->(bif !within r.plates 1 3 then true else !within r.last 1 30)=false->(!bif !within r.plates 1 3 then true else !within r.last 1 30)=true)
 (o2:fits r->(bif bif !within r.plates 1 3 then true else !within r.last 1 30 then true else !within (↑(r.machines.length):Int) 1 3)=false->(!bif bif !within r.plates 1 3 then true else !within r.last 1 30 then true else !within (↑(r.machines.length):Int) 1 3)=true)
 (o3:fits r->(bif bif bif !within r.plates 1 3 then true else !within r.last 1 30 then true else !within (↑(r.machines.length):Int) 1 3 then true else decide (6 < (↑(r.found.length):Int)))=true->60=check r)
 (o4:q71_1 r (0=(↑0:Int)))
 (o5:q71_1 r (0<=r.machines.length /\ ∀ (j:Nat),j < 0->okMachA r (mach r j)=true))
 (o6:q71_2 r fun x33=>0<=(x33:Int))
 (o7:q71_2 r fun x33=>(x33:Int) < (↑(r.machines.length):Int))
 (o8:q71_2 r fun x33=>(!decide ((↑((mach r x33).changes.length):Int)=r.plates))=false->(!!decide ((↑((mach r x33).changes.length):Int)=r.plates))=true)
 (o9:q71_2 r fun x33=>(bif !decide ((↑((mach r x33).changes.length):Int)=r.plates) then true else !within (mach r x33).rate 0 9)=true->60=check r)
 (o10:q71_3 r fun x33=>0=(↑0:Int))
 (o11:q71_3 r fun x33=>0<=(mach r x33).changes.length /\ ∀ (j:Nat),j < 0->isSpan (chg (mach r x33) j) r.last=true)
 (o12:q71_5 r fun x33 x46=>0<=(x46:Int))
 (o13:q71_5 r fun x33 x46=>(x46:Int) < (↑((mach r x33).changes.length):Int))
 (o14:q71_5 r fun x33 x46=>(!within ((mach r x33).changes.getD x46 default).lo 0 ((mach r x33).changes.getD x46 default).hi)=false->(!!within ((mach r x33).changes.getD x46 default).lo 0 ((mach r x33).changes.getD x46 default).hi)=true)
 (o15:q71_5 r fun x33 x46=>(bif !within ((mach r x33).changes.getD x46 default).lo 0 ((mach r x33).changes.getD x46 default).hi then true else decide (r.last < ((mach r x33).changes.getD x46 default).hi))=true->60=check r)
 (o16:q71_6 r fun x33 x46=>inI ((x46:Int) + 1))
 (o17:q71_6 r fun x33 x46=>(x46:Int) + 1=(↑(x46 + 1):Int))
 (o18:q71_6 r fun x33 x46=>x46 + 1<=(mach r x33).changes.length /\ ∀ (j:Nat),j < x46 + 1->isSpan (chg (mach r x33) j) r.last=true)
 (o19:q71_6 r fun x33 x46=>(mach r x33).changes.length - (x46 + 1) < (mach r x33).changes.length - x46)
 (o20:q71_7 r fun x33 x46=>inI ((x33:Int) + 1))
 (o21:q71_7 r fun x33 x46=>(x33:Int) + 1=(↑(x33 + 1):Int))
 (o22:q71_7 r fun x33 x46=>x33 + 1<=r.machines.length /\ ∀ (j:Nat),j < x33 + 1->okMachA r (mach r j)=true)
 (o23:q71_7 r fun x33 x46=>r.machines.length - (x33 + 1) < r.machines.length - x33)
 (o24:q71_8 r fun x33=>0=(↑0:Int))
 (o25:q71_8 r fun x33=>0<=r.found.length /\ ∀ (j:Nat),j < 0->okFndA r (fnd r j)=true)
 (o26:q71_9 r fun x33 x61=>0<=(x61:Int))
 (o27:q71_9 r fun x33 x61=>(x61:Int) < (↑(r.found.length):Int))
 (o28:q71_9 r fun x33 x61=>inI (r.last - 1))
 (o29:q71_9 r fun x33 x61=>(!within (fnd r x61).minute 0 (r.last - 1))=false->(!!within (fnd r x61).minute 0 (r.last - 1))=true)
 (o30:q71_9 r fun x33 x61=>(bif !within (fnd r x61).minute 0 (r.last - 1) then true else !decide ((↑((fnd r x61).new.length):Int)=r.plates))=false->(!bif !within (fnd r x61).minute 0 (r.last - 1) then true else !decide ((↑((fnd r x61).new.length):Int)=r.plates))=true)
 (o31:q71_9 r fun x33 x61=>(!bif bif !within (fnd r x61).minute 0 (r.last - 1) then true else !decide ((↑((fnd r x61).new.length):Int)=r.plates) then true else decide ((↑((fnd r x61).frm.length):Int)=0))=true->(fnd r x61).new.length<=1125899906842624)
 (o32:∀ (E0:Env),fits r->(bif bif bif !within r.plates 1 3 then true else !within r.last 1 30 then true else !within (↑(r.machines.length):Int) 1 3 then true else decide (6 < (↑(r.found.length):Int)))=false -> ∀ (x33:Nat),(x33<=r.machines.length /\ ∀ (j:Nat),j < x33->okMachA r (mach r j)=true)->decide ((x33:Int) < (↑(r.machines.length):Int))=false -> ∀ (x61:Nat),(x61<=r.found.length /\ ∀ (j:Nat),j < x61->okFndA r (fnd r j)=true)->decide ((x61:Int) < (↑(r.found.length):Int))=true->(!bif bif !within (fnd r x61).minute 0 (r.last - 1) then true else !decide ((↑((fnd r x61).new.length):Int)=r.plates) then true else decide ((↑((fnd r x61).frm.length):Int)=0))=true -> ∀ (i91:Env) (i92:List Value),Env.le E0 i91->i92.length=List.length [aInts (fnd r x61).new,AV.fn 0]->(∀ (k:Nat),Rel i91 true (List.getD [aInts (fnd r x61).new,AV.clo 114 []] k AV.any) (i92.getD k undef))->fnokOf Try.prog 0 (fun (n:Int)=>[iv n]) (fun (n:Int)=>bv (badNew n)) (Env.mk i91.1 i91.2 i91.3 fun (k:Nat) (u:Value) => ∃ (i:Nat),[aInts (fnd r x61).new,AV.fn 0][i]? = some (AV.fn k)/\i92[i]? = some u))
 (o33:q71_9 r fun x33 x61=>(bif bif !within (fnd r x61).minute 0 (r.last - 1) then true else !decide ((↑((fnd r x61).new.length):Int)=r.plates) then true else decide ((↑((fnd r x61).frm.length):Int)=0))=false->(!bif bif !within (fnd r x61).minute 0 (r.last - 1) then true else !decide ((↑((fnd r x61).new.length):Int)=r.plates) then true else decide ((↑((fnd r x61).frm.length):Int)=0))=true)
 (o34:q71_9 r fun x33 x61=>(bif bif bif !within (fnd r x61).minute 0 (r.last - 1) then true else !decide ((↑((fnd r x61).new.length):Int)=r.plates) then true else decide ((↑((fnd r x61).frm.length):Int)=0) then true else List.any (fnd r x61).new badNew)=true->60=check r)
 (o35:q71_10 r fun x33 x61=>0=(↑0:Int))
 (o36:q71_10 r fun x33 x61=>0<=(fnd r x61).frm.length /\ ∀ (j:Nat),j < 0->risAt (fnd r x61).frm 0 ((↑(r.machines.length):Int) - 1) j=true)
 (o37:q71_12 r fun x33 x61 x99=>0<=(x99:Int))
 (o38:q71_12 r fun x33 x61 x99=>(x99:Int) < (↑((fnd r x61).frm.length):Int))
 (o39:q71_12 r fun x33 x61 x99=>inI ((↑(r.machines.length):Int) - 1))
 (o40:q71_13 r fun x33 x61 x99=>inI ((x99:Int) - 1))
 (o41:q71_13 r fun x33 x61 x99=>0<=(x99:Int) - 1)
 (o42:q71_13 r fun x33 x61 x99=>(x99:Int) - 1 < (↑((fnd r x61).frm.length):Int))
 (o43:q71_12 r fun x33 x61 x99=>(!!within ((fnd r x61).frm.getD x99 0) 0 ((↑(r.machines.length):Int) - 1))=true->decide (0 < (x99:Int))=true->(!!within ((fnd r x61).frm.getD x99 0) 0 ((↑(r.machines.length):Int) - 1) && decide (0 < (x99:Int)))=true)
 (o44:q71_12 r fun x33 x61 x99=>(!within ((fnd r x61).frm.getD x99 0) 0 ((↑(r.machines.length):Int) - 1))=false->(!!within ((fnd r x61).frm.getD x99 0) 0 ((↑(r.machines.length):Int) - 1))=true)
 (o45:q71_12 r fun x33 x61 x99=>(bif !within ((fnd r x61).frm.getD x99 0) 0 ((↑(r.machines.length):Int) - 1) then true else bif decide (0 < (x99:Int)) then decide ((fnd r x61).frm.getD x99 0<=(fnd r x61).frm.getD ((x99:Int) - 1).toNat 0) else false)=true->60=check r)
 (o46:q71_14 r fun x33 x61 x99=>inI ((x99:Int) + 1))
 (o47:q71_14 r fun x33 x61 x99=>(x99:Int) + 1=(↑(x99 + 1):Int))
 (o48:q71_14 r fun x33 x61 x99=>x99 + 1<=(fnd r x61).frm.length /\ ∀ (j:Nat),j < x99 + 1->risAt (fnd r x61).frm 0 ((↑(r.machines.length):Int) - 1) j=true)
 (o49:q71_14 r fun x33 x61 x99=>(fnd r x61).frm.length - (x99 + 1) < (fnd r x61).frm.length - x99)
 (o50:q71_15 r fun x33 x61 x99=>inI ((x61:Int) + 1))
 (o51:q71_15 r fun x33 x61 x99=>(x61:Int) + 1=(↑(x61 + 1):Int))
 (o52:q71_15 r fun x33 x61 x99=>x61 + 1<=r.found.length /\ ∀ (j:Nat),j < x61 + 1->okFndA r (fnd r j)=true)
 (o53:q71_15 r fun x33 x61 x99=>r.found.length - (x61 + 1) < r.found.length - x61)
 (o54:q71_8 r fun x33 => ∀ (x61:Nat),(x61<=r.found.length /\ ∀ (j:Nat),j < x61->okFndA r (fnd r j)=true)->decide ((x61:Int) < (↑(r.found.length):Int))=false->0=check r) :
  Triple Try.prog 71 (s71 r):=by
 refine triple_of Try.func71 rfl Try.call71 T0_ok _ rfl rfl rfl rfl (Nat.le_of_ble_eq_true (by kernel_rfl)) (fun _ _ _ _ h=>h) ?_
 intro hp C hC _ hE
 obtain ⟨P,w0,E0,av,hA⟩:=C
 subst hC
 refine swp_seq ?_
 refine sR (kt:=[1]) (kh:=[0]) (q:=True/\True/\True) (st':=ASt.mk [(1,.ptr 0 [])] [(0,.cells 25 (cRun r))] 16) (by kernel_rfl) ⟨tv,tv,tv⟩ ?_
 refine swp_seq (swp_seq ?_)
 refine swp_region T0_ok mixed (cs:=[(2,CallSpec.eq (s112 r.plates 1 3) [true,true,true]),(7,CallSpec.eq (s112 r.last 1 30) [true,true,true]),(14,CallSpec.eq (s112 (↑(r.machines.length):Int) 1 3) [true,true,true])]) (kt:=[1,33]) (kh:=[0]) (q:=True/\True/\((iv r.plates=iv r.plates/\iv 1=iv 1/\iv 3=iv 3/\True)/\Triple Try.prog 112 (s112 r.plates 1 3)/\True/\True /\ ∀ (i0:Env),True)/\True/\True/\((!!within r.plates 1 3)=true->(True/\True)/\True)/\((!!within r.plates 1 3)=true->(((!!within r.plates 1 3)=true->(!!within r.plates 1 3)=true)/\True)/\True)/\((!!within r.plates 1 3)=true->(True/\((!!within r.plates 1 3)=true->(!!within r.plates 1 3)=true)/\True/\True/\True)/\(iv r.last=iv r.last/\iv 1=iv 1/\iv 30=iv 30/\True)/\Triple Try.prog 112 (s112 r.last 1 30)/\True/\True /\ ∀ (i6:Env),True)/\((!!within r.plates 1 3)=true->(((!!within r.plates 1 3)=true->(!!within r.plates 1 3)=true)/\True)/\True)/\(((!within r.plates 1 3)=true->True)/\((!within r.plates 1 3)=false->(!!within r.plates 1 3)=true))/\True/\((!bif !within r.plates 1 3 then true else !within r.last 1 30)=true->(True/\True)/\True)/\((!bif !within r.plates 1 3 then true else !within r.last 1 30)=true->(((!bif !within r.plates 1 3 then true else !within r.last 1 30)=true->(!bif !within r.plates 1 3 then true else !within r.last 1 30)=true)/\True)/\True)/\((!bif !within r.plates 1 3 then true else !within r.last 1 30)=true->(((!bif !within r.plates 1 3 then true else !within r.last 1 30)=true->(!bif !within r.plates 1 3 then true else !within r.last 1 30)=true)/\True)/\True)/\((!bif !within r.plates 1 3 then true else !within r.last 1 30)=true->(True/\((!bif !within r.plates 1 3 then true else !within r.last 1 30)=true->(!bif !within r.plates 1 3 then true else !within r.last 1 30)=true)/\True/\True/\True)/\(iv (↑(r.machines.length):Int)=iv (↑(r.machines.length):Int)/\iv 1=iv 1/\iv 3=iv 3/\True)/\Triple Try.prog 112 (s112 (↑(r.machines.length):Int) 1 3)/\True/\True /\ ∀ (i18:Env),True)/\((!bif !within r.plates 1 3 then true else !within r.last 1 30)=true->(((!bif !within r.plates 1 3 then true else !within r.last 1 30)=true->(!bif !within r.plates 1 3 then true else !within r.last 1 30)=true)/\True)/\True)/\(((bif !within r.plates 1 3 then true else !within r.last 1 30)=true->True)/\((bif !within r.plates 1 3 then true else !within r.last 1 30)=false->(!bif !within r.plates 1 3 then true else !within r.last 1 30)=true))/\True/\((!bif bif !within r.plates 1 3 then true else !within r.last 1 30 then true else !within (↑(r.machines.length):Int) 1 3)=true->(True/\True)/\True)/\((!bif bif !within r.plates 1 3 then true else !within r.last 1 30 then true else !within (↑(r.machines.length):Int) 1 3)=true->(((!bif bif !within r.plates 1 3 then true else !within r.last 1 30 then true else !within (↑(r.machines.length):Int) 1 3)=true->(!bif bif !within r.plates 1 3 then true else !within r.last 1 30 then true else !within (↑(r.machines.length):Int) 1 3)=true)/\True)/\True)/\((!bif bif !within r.plates 1 3 then true else !within r.last 1 30 then true else !within (↑(r.machines.length):Int) 1 3)=true->(((!bif bif !within r.plates 1 3 then true else !within r.last 1 30 then true else !within (↑(r.machines.length):Int) 1 3)=true->(!bif bif !within r.plates 1 3 then true else !within r.last 1 30 then true else !within (↑(r.machines.length):Int) 1 3)=true)/\True)/\True)/\((!bif bif !within r.plates 1 3 then true else !within r.last 1 30 then true else !within (↑(r.machines.length):Int) 1 3)=true->(((!bif bif !within r.plates 1 3 then true else !within r.last 1 30 then true else !within (↑(r.machines.length):Int) 1 3)=true->(!bif bif !within r.plates 1 3 then true else !within r.last 1 30 then true else !within (↑(r.machines.length):Int) 1 3)=true)/\True/\True)/\True)/\(((bif bif !within r.plates 1 3 then true else !within r.last 1 30 then true else !within (↑(r.machines.length):Int) 1 3)=true->True)/\((bif bif !within r.plates 1 3 then true else !within r.last 1 30 then true else !within (↑(r.machines.length):Int) 1 3)=false->(!bif bif !within r.plates 1 3 then true else !within r.last 1 30 then true else !within (↑(r.machines.length):Int) 1 3)=true))/\True) (st':=ASt.mk [(1,.ptr 0 []),(33,bv (bif bif bif !within r.plates 1 3 then true else !within r.last 1 30 then true else !within (↑(r.machines.length):Int) 1 3 then true else decide (6 < (↑(r.found.length):Int))))] [(0,.cells 25 (cRun r))] 200) (by kernel_rfl) ⟨tv,tv,⟨⟨rfl,rfl,rfl,tv⟩,(t112 r.plates (1) (3)),tv,tv,(fun i0=>tv)⟩,tv,tv,(fun h1=>⟨⟨tv,tv⟩,tv⟩),(fun h2=>⟨⟨(fun h3=>h2),tv⟩,tv⟩),(fun h4=>⟨⟨tv,(fun h5=>h4),tv,tv,tv⟩,⟨rfl,rfl,rfl,tv⟩,(t112 r.last (1) (30)),tv,tv,(fun i6=>tv)⟩),(fun h7=>⟨⟨(fun h8=>h7),tv⟩,tv⟩),⟨(fun h9=>tv),(fun h10=>(o0 hp h10))⟩,tv,(fun h11=>⟨⟨tv,tv⟩,tv⟩),(fun h12=>⟨⟨(fun h13=>h12),tv⟩,tv⟩),(fun h14=>⟨⟨(fun h15=>h14),tv⟩,tv⟩),(fun h16=>⟨⟨tv,(fun h17=>h16),tv,tv,tv⟩,⟨rfl,rfl,rfl,tv⟩,(t112 ((↑(r.machines.length):Int)) (1) (3)),tv,tv,(fun i18=>tv)⟩),(fun h19=>⟨⟨(fun h20=>h19),tv⟩,tv⟩),⟨(fun h21=>tv),(fun h22=>(o1 hp h22))⟩,tv,(fun h23=>⟨⟨tv,tv⟩,tv⟩),(fun h24=>⟨⟨(fun h25=>h24),tv⟩,tv⟩),(fun h26=>⟨⟨(fun h27=>h26),tv⟩,tv⟩),(fun h28=>⟨⟨(fun h29=>h28),tv,tv⟩,tv⟩),⟨(fun h30=>tv),(fun h31=>(o2 hp h31))⟩,tv⟩ ?_
 refine swp_cond (bif bif bif !within r.plates 1 3 then true else !within r.last 1 30 then true else !within (↑(r.machines.length):Int) 1 3 then true else decide (6 < (↑(r.found.length):Int))) (by kernel_rfl) (fun h32 => ?_) (fun h32 => ?_)
 ·refine swp_seq ?_
  refine sR (kt:=[2]) (kh:=[]) (q:=True/\True) (st':=ASt.mk [(2,iv 60)] [] 208) (by kernel_rfl) ⟨tv,tv⟩ ?_
  refine swp_ret ?_
  exact ret_q [] ((True/\True)/\(iv 60=iv (check r)/\nilN = [])/\T3) (by kernel_rfl) ⟨⟨tv,tv⟩,⟨(congrArg iv (o3 hp h32)),rfl⟩,rfl,rfl,rfl⟩
 ·refine swp_skip (swp_seq (swp_seq ?_))
  refine sR (kt:=[1,35,36,37]) (kh:=[0]) (q:=True/\True/\True/\True/\True) (st':=ASt.mk [(1,.ptr 0 []),(35,.sl 2 r.machines.length fun (i:Nat)=>cMach (mach r i)),(36,iv (↑(r.machines.length):Int)),(37,iv 0)] [(0,.cells 25 (cRun r))] 232) (by kernel_rfl) ⟨tv,tv,tv,tv,tv⟩ ?_
  refine swp_block ?_
  refine swp_loopA (Hint.ann (h71a r) [(1,AV.ptr 0 []),(35,AV.sl 2 r.machines.length fun (i:Nat)=>cMach (mach r i)),(36,iv (↑(r.machines.length):Int))] [(0,OB.cells 25 (cRun r))] 10232) (ent_q hE [] [(0,.same 0)] [35,36] [0] (((some (Src.same 0)=some (Src.same 0)/\nilP = [])/\(((AV.sl 2 r.machines.length fun (i:Nat)=>cMach (mach r i))=AV.sl 2 r.machines.length fun (i:Nat)=>cMach (mach r i))/\true=true)/\(iv (↑(r.machines.length):Int)=iv (↑(r.machines.length):Int)/\true=true)/\(iv 0=iv (↑0:Int)/\nilN = [])/\True)/\((OB.cells 25 (cRun r)=OB.cells 25 (cRun r)/\true=true)/\True)/\T2) (by kernel_rfl) (by kernel_rfl) ⟨⟨⟨rfl,rfl⟩,⟨rfl,rfl⟩,⟨rfl,rfl⟩,⟨(congrArg iv (o4 hp h32)),rfl⟩,tv⟩,⟨⟨rfl,rfl⟩,tv⟩,rfl,rfl⟩) (o5 hp h32) (fun (x33:Nat) hx33 => ?_)
  refine swp_seq ?_
  refine sR (kt:=[1,35,36,37,38]) (kh:=[0]) (q:=True/\True) (st':=ASt.mk [(1,.ptr 0 []),(35,.sl 2 r.machines.length fun (i:Nat)=>cMach (mach r i)),(36,iv (↑(r.machines.length):Int)),(37,iv (x33:Int)),(38,bv (decide ((x33:Int) < (↑(r.machines.length):Int))))] [(0,.cells 25 (cRun r))] 10240) (by kernel_rfl) ⟨tv,tv⟩ ?_
  refine swp_seq ?_
  refine swp_cond (decide ((x33:Int) < (↑(r.machines.length):Int))) (by kernel_rfl) (fun h34 => ?_) (fun h34 => ?_)
  ·refine swp_skip (swp_seq (swp_block (swp_seq ?_)))
   refine sR (kt:=[1,35,36,37,4]) (kh:=[0,10256]) (q:=(0<=(x33:Int)/\(x33:Int) < (↑(r.machines.length):Int))/\True/\True/\True/\True) (st':=ASt.mk [(1,.ptr 0 []),(35,.sl 2 r.machines.length fun (i:Nat)=>cMach (mach r i)),(36,iv (↑(r.machines.length):Int)),(37,iv (x33:Int)),(4,.ptr 10256 [])] [(0,.cells 25 (cRun r)),(10256,.cells 42 (cMach (mach r x33)))] 10272) (by kernel_rfl) ⟨⟨(o6 hp h32 x33 hx33 h34),(o7 hp h32 x33 hx33 h34)⟩,tv,tv,tv,tv⟩ ?_
   refine swp_seq (swp_seq ?_)
   refine swp_region T0_ok mixed (cs:=[(9,CallSpec.eq (s112 (mach r x33).rate 0 9) [true,true,true])]) (kt:=[1,35,36,37,4,52]) (kh:=[0,10256]) (q:=True/\True/\True/\True/\True/\True/\True/\((!!decide ((↑((mach r x33).changes.length):Int)=r.plates))->(True/\True)/\True)/\((!!decide ((↑((mach r x33).changes.length):Int)=r.plates))->(((!!decide ((↑((mach r x33).changes.length):Int)=r.plates))->(!!decide ((↑((mach r x33).changes.length):Int)=r.plates))=true)/\True)/\True)/\((!!decide ((↑((mach r x33).changes.length):Int)=r.plates))->(True/\((!!decide ((↑((mach r x33).changes.length):Int)=r.plates))->(!!decide ((↑((mach r x33).changes.length):Int)=r.plates))=true)/\True/\True/\True)/\(iv (mach r x33).rate=iv (mach r x33).rate/\iv 0=iv 0/\iv 9=iv 9/\True)/\Triple Try.prog 112 (s112 (mach r x33).rate 0 9)/\True/\True /\ ∀ (i40:Env),True)/\((!!decide ((↑((mach r x33).changes.length):Int)=r.plates))->(((!!decide ((↑((mach r x33).changes.length):Int)=r.plates))->(!!decide ((↑((mach r x33).changes.length):Int)=r.plates))=true)/\True)/\True)/\(((!decide ((↑((mach r x33).changes.length):Int)=r.plates))->True)/\((!decide ((↑((mach r x33).changes.length):Int)=r.plates))=false->(!!decide ((↑((mach r x33).changes.length):Int)=r.plates))=true))/\True) (st':=ASt.mk [(1,.ptr 0 []),(35,.sl 2 r.machines.length fun (i:Nat)=>cMach (mach r i)),(36,iv (↑(r.machines.length):Int)),(37,iv (x33:Int)),(4,.ptr 10256 []),(52,bv (bif !decide ((↑((mach r x33).changes.length):Int)=r.plates) then true else !within (mach r x33).rate 0 9))] [(0,.cells 25 (cRun r)),(10256,.cells 42 (cMach (mach r x33)))] 10368) (by kernel_rfl) ⟨tv,tv,tv,tv,tv,tv,tv,(fun h35=>⟨⟨tv,tv⟩,tv⟩),(fun h36=>⟨⟨(fun h37=>h36),tv⟩,tv⟩),(fun h38=>⟨⟨tv,(fun h39=>h38),tv,tv,tv⟩,⟨rfl,rfl,rfl,tv⟩,(t112 (mach r x33).rate (0) (9)),tv,tv,(fun i40=>tv)⟩),(fun h41=>⟨⟨(fun h42=>h41),tv⟩,tv⟩),⟨(fun h43=>tv),(fun h44=>(o8 hp h32 x33 hx33 h34 h44))⟩,tv⟩ ?_
   refine swp_cond (bif !decide ((↑((mach r x33).changes.length):Int)=r.plates) then true else !within (mach r x33).rate 0 9) (by kernel_rfl) (fun h45 => ?_) (fun h45 => ?_)
   ·refine swp_seq ?_
    refine sR (kt:=[2]) (kh:=[]) (q:=True/\True) (st':=ASt.mk [(2,iv 60)] [] 10376) (by kernel_rfl) ⟨tv,tv⟩ ?_
    refine swp_ret ?_
    exact ret_q [] ((True/\True)/\(iv 60=iv (check r)/\nilN = [])/\T3) (by kernel_rfl) ⟨⟨tv,tv⟩,⟨(congrArg iv (o9 hp h32 x33 hx33 h34 h45)),rfl⟩,rfl,rfl,rfl⟩
   ·refine swp_skip (swp_seq ?_)
    refine sR (kt:=[1,35,36,37,54,55,56]) (kh:=[0]) (q:=True/\True/\True/\True/\True) (st':=ASt.mk [(1,.ptr 0 []),(35,.sl 2 r.machines.length fun (i:Nat)=>cMach (mach r i)),(36,iv (↑(r.machines.length):Int)),(37,iv (x33:Int)),(54,aSpans (mach r x33).changes),(55,iv (↑((mach r x33).changes.length):Int)),(56,iv 0)] [(0,.cells 25 (cRun r))] 10400) (by kernel_rfl) ⟨tv,tv,tv,tv,tv⟩ ?_
    refine swp_block ?_
    refine swp_loopA (Hint.ann (h71b r x33) [(1,AV.ptr 0 []),(35,AV.sl 2 r.machines.length fun (i:Nat)=>cMach (mach r i)),(36,iv (↑(r.machines.length):Int)),(37,iv (x33:Int)),(54,aSpans (mach r x33).changes),(55,iv (↑((mach r x33).changes.length):Int))] [(0,OB.cells 25 (cRun r))] 20400) (ent_q hE [] [(0,.same 0)] [35,36,37,54,55] [0] (((some (Src.same 0)=some (Src.same 0)/\nilP = [])/\(((AV.sl 2 r.machines.length fun (i:Nat)=>cMach (mach r i))=AV.sl 2 r.machines.length fun (i:Nat)=>cMach (mach r i))/\true=true)/\(iv (↑(r.machines.length):Int)=iv (↑(r.machines.length):Int)/\true=true)/\(iv (x33:Int)=iv (x33:Int)/\true=true)/\(aSpans (mach r x33).changes=aSpans (mach r x33).changes/\true=true)/\(iv (↑((mach r x33).changes.length):Int)=iv (↑((mach r x33).changes.length):Int)/\true=true)/\(iv 0=iv (↑0:Int)/\nilN = [])/\True)/\((OB.cells 25 (cRun r)=OB.cells 25 (cRun r)/\true=true)/\True)/\T2) (by kernel_rfl) (by kernel_rfl) ⟨⟨⟨rfl,rfl⟩,⟨rfl,rfl⟩,⟨rfl,rfl⟩,⟨rfl,rfl⟩,⟨rfl,rfl⟩,⟨rfl,rfl⟩,⟨(congrArg iv (o10 hp h32 x33 hx33 h34 h45)),rfl⟩,tv⟩,⟨⟨rfl,rfl⟩,tv⟩,rfl,rfl⟩) (o11 hp h32 x33 hx33 h34 h45) (fun (x46:Nat) hx46 => ?_)
    refine swp_seq ?_
    refine sR (kt:=[1,35,36,37,54,55,56,57]) (kh:=[0]) (q:=True/\True) (st':=ASt.mk [(1,.ptr 0 []),(35,.sl 2 r.machines.length fun (i:Nat)=>cMach (mach r i)),(36,iv (↑(r.machines.length):Int)),(37,iv (x33:Int)),(54,aSpans (mach r x33).changes),(55,iv (↑((mach r x33).changes.length):Int)),(56,iv (x46:Int)),(57,bv (decide ((x46:Int) < (↑((mach r x33).changes.length):Int))))] [(0,.cells 25 (cRun r))] 20408) (by kernel_rfl) ⟨tv,tv⟩ ?_
    refine swp_seq ?_
    refine swp_cond (decide ((x46:Int) < (↑((mach r x33).changes.length):Int))) (by kernel_rfl) (fun h47 => ?_) (fun h47 => ?_)
    ·refine swp_skip (swp_seq (swp_block (swp_seq ?_)))
     refine sR (kt:=[1,35,36,37,54,55,56,6]) (kh:=[0,20424]) (q:=(0<=(x46:Int)/\(x46:Int) < (↑((mach r x33).changes.length):Int))/\True/\True/\True/\True) (st':=ASt.mk [(1,.ptr 0 []),(35,.sl 2 r.machines.length fun (i:Nat)=>cMach (mach r i)),(36,iv (↑(r.machines.length):Int)),(37,iv (x33:Int)),(54,aSpans (mach r x33).changes),(55,iv (↑((mach r x33).changes.length):Int)),(56,iv (x46:Int)),(6,.ptr 20424 [])] [(0,.cells 25 (cRun r)),(20424,.cells 37 (cSpan ((mach r x33).changes.getD x46 default)))] 20440) (by kernel_rfl) ⟨⟨(o12 hp h32 x33 hx33 h34 h45 x46 hx46 h47),(o13 hp h32 x33 hx33 h34 h45 x46 hx46 h47)⟩,tv,tv,tv,tv⟩ ?_
     refine swp_seq ?_
     refine swp_region T0_ok mixed (cs:=[(4,CallSpec.eq (s112 ((mach r x33).changes.getD x46 default).lo 0 ((mach r x33).changes.getD x46 default).hi) [true,true,true])]) (kt:=[1,35,36,37,54,55,56,72]) (kh:=[0]) (q:=True/\True/\True/\True/\((iv ((mach r x33).changes.getD x46 default).lo=iv ((mach r x33).changes.getD x46 default).lo/\iv 0=iv 0/\iv ((mach r x33).changes.getD x46 default).hi=iv ((mach r x33).changes.getD x46 default).hi/\True)/\Triple Try.prog 112 (s112 ((mach r x33).changes.getD x46 default).lo 0 ((mach r x33).changes.getD x46 default).hi)/\True/\True /\ ∀ (i48:Env),True)/\True/\True/\((!!within ((mach r x33).changes.getD x46 default).lo 0 ((mach r x33).changes.getD x46 default).hi)=true->(True/\True)/\True)/\((!!within ((mach r x33).changes.getD x46 default).lo 0 ((mach r x33).changes.getD x46 default).hi)=true->(((!!within ((mach r x33).changes.getD x46 default).lo 0 ((mach r x33).changes.getD x46 default).hi)=true->(!!within ((mach r x33).changes.getD x46 default).lo 0 ((mach r x33).changes.getD x46 default).hi)=true)/\True)/\True)/\((!!within ((mach r x33).changes.getD x46 default).lo 0 ((mach r x33).changes.getD x46 default).hi)=true->(True/\True)/\True)/\((!!within ((mach r x33).changes.getD x46 default).lo 0 ((mach r x33).changes.getD x46 default).hi)=true->(((!!within ((mach r x33).changes.getD x46 default).lo 0 ((mach r x33).changes.getD x46 default).hi)=true->(!!within ((mach r x33).changes.getD x46 default).lo 0 ((mach r x33).changes.getD x46 default).hi)=true)/\True)/\True)/\((!!within ((mach r x33).changes.getD x46 default).lo 0 ((mach r x33).changes.getD x46 default).hi)=true->(((!!within ((mach r x33).changes.getD x46 default).lo 0 ((mach r x33).changes.getD x46 default).hi)=true->(!!within ((mach r x33).changes.getD x46 default).lo 0 ((mach r x33).changes.getD x46 default).hi)=true)/\((!!within ((mach r x33).changes.getD x46 default).lo 0 ((mach r x33).changes.getD x46 default).hi)=true->(!!within ((mach r x33).changes.getD x46 default).lo 0 ((mach r x33).changes.getD x46 default).hi)=true)/\True)/\True)/\(((!within ((mach r x33).changes.getD x46 default).lo 0 ((mach r x33).changes.getD x46 default).hi)=true->True)/\((!within ((mach r x33).changes.getD x46 default).lo 0 ((mach r x33).changes.getD x46 default).hi)=false->(!!within ((mach r x33).changes.getD x46 default).lo 0 ((mach r x33).changes.getD x46 default).hi)=true))/\True) (st':=ASt.mk [(1,.ptr 0 []),(35,.sl 2 r.machines.length fun (i:Nat)=>cMach (mach r i)),(36,iv (↑(r.machines.length):Int)),(37,iv (x33:Int)),(54,aSpans (mach r x33).changes),(55,iv (↑((mach r x33).changes.length):Int)),(56,iv (x46:Int)),(72,bv (bif !within ((mach r x33).changes.getD x46 default).lo 0 ((mach r x33).changes.getD x46 default).hi then true else decide (r.last < ((mach r x33).changes.getD x46 default).hi)))] [(0,.cells 25 (cRun r))] 20544) (by kernel_rfl) ⟨tv,tv,tv,tv,⟨⟨rfl,rfl,rfl,tv⟩,(t112 ((mach r x33).changes.getD x46 default).lo (0) ((mach r x33).changes.getD x46 default).hi),tv,tv,(fun i48=>tv)⟩,tv,tv,(fun h49=>⟨⟨tv,tv⟩,tv⟩),(fun h50=>⟨⟨(fun h51=>h50),tv⟩,tv⟩),(fun h52=>⟨⟨tv,tv⟩,tv⟩),(fun h53=>⟨⟨(fun h54=>h53),tv⟩,tv⟩),(fun h55=>⟨⟨(fun h56=>h55),(fun h57=>h55),tv⟩,tv⟩),⟨(fun h58=>tv),(fun h59=>(o14 hp h32 x33 hx33 h34 h45 x46 hx46 h47 h59))⟩,tv⟩ ?_
     refine swp_cond (bif !within ((mach r x33).changes.getD x46 default).lo 0 ((mach r x33).changes.getD x46 default).hi then true else decide (r.last < ((mach r x33).changes.getD x46 default).hi)) (by kernel_rfl) (fun h60 => ?_) (fun h60 => ?_)
     ·refine swp_seq ?_
      refine sR (kt:=[2]) (kh:=[]) (q:=True/\True) (st':=ASt.mk [(2,iv 60)] [] 20552) (by kernel_rfl) ⟨tv,tv⟩ ?_
      refine swp_ret ?_
      exact ret_q [] ((True/\True)/\(iv 60=iv (check r)/\nilN = [])/\T3) (by kernel_rfl) ⟨⟨tv,tv⟩,⟨(congrArg iv (o15 hp h32 x33 hx33 h34 h45 x46 hx46 h47 h60)),rfl⟩,rfl,rfl,rfl⟩
     ·refine swp_skip ?_
      refine sR (kt:=[1,35,36,37,54,55,56]) (kh:=[0]) (q:=inI ((x46:Int) + 1)/\True/\True) (st':=ASt.mk [(1,.ptr 0 []),(35,.sl 2 r.machines.length fun (i:Nat)=>cMach (mach r i)),(36,iv (↑(r.machines.length):Int)),(37,iv (x33:Int)),(54,aSpans (mach r x33).changes),(55,iv (↑((mach r x33).changes.length):Int)),(56,iv ((x46:Int) + 1))] [(0,.cells 25 (cRun r))] 20560) (by kernel_rfl) ⟨(o16 hp h32 x33 hx33 h34 h45 x46 hx46 h47 h60),tv,tv⟩ ?_
      exact loop_next (Hint.ann (h71b r x33) [(1,AV.ptr 0 []),(35,AV.sl 2 r.machines.length fun (i:Nat)=>cMach (mach r i)),(36,iv (↑(r.machines.length):Int)),(37,iv (x33:Int)),(54,aSpans (mach r x33).changes),(55,iv (↑((mach r x33).changes.length):Int))] [(0,OB.cells 25 (cRun r))] 20400) x46 (ent_q hE [] [(0,.same 0)] [35,36,37,54,55] [0] (((some (Src.same 0)=some (Src.same 0)/\nilP = [])/\(((AV.sl 2 r.machines.length fun (i:Nat)=>cMach (mach r i))=AV.sl 2 r.machines.length fun (i:Nat)=>cMach (mach r i))/\true=true)/\(iv (↑(r.machines.length):Int)=iv (↑(r.machines.length):Int)/\true=true)/\(iv (x33:Int)=iv (x33:Int)/\true=true)/\(aSpans (mach r x33).changes=aSpans (mach r x33).changes/\true=true)/\(iv (↑((mach r x33).changes.length):Int)=iv (↑((mach r x33).changes.length):Int)/\true=true)/\(iv ((x46:Int) + 1)=iv (↑(x46 + 1):Int)/\nilN = [])/\True)/\((OB.cells 25 (cRun r)=OB.cells 25 (cRun r)/\true=true)/\True)/\T2) (by kernel_rfl) (by kernel_rfl) ⟨⟨⟨rfl,rfl⟩,⟨rfl,rfl⟩,⟨rfl,rfl⟩,⟨rfl,rfl⟩,⟨rfl,rfl⟩,⟨rfl,rfl⟩,⟨(congrArg iv (o17 hp h32 x33 hx33 h34 h45 x46 hx46 h47 h60)),rfl⟩,tv⟩,⟨⟨rfl,rfl⟩,tv⟩,rfl,rfl⟩) (o18 hp h32 x33 hx33 h34 h45 x46 hx46 h47 h60) (o19 hp h32 x33 hx33 h34 h45 x46 hx46 h47 h60)
    ·refine swp_exit ?_
     refine sR (kt:=[1,35,36,37]) (kh:=[0]) (q:=inI ((x33:Int) + 1)/\True/\True) (st':=ASt.mk [(1,.ptr 0 []),(35,.sl 2 r.machines.length fun (i:Nat)=>cMach (mach r i)),(36,iv (↑(r.machines.length):Int)),(37,iv ((x33:Int) + 1))] [(0,.cells 25 (cRun r))] 20424) (by kernel_rfl) ⟨(o20 hp h32 x33 hx33 h34 h45 x46 hx46 h47),tv,tv⟩ ?_
     exact loop_next (Hint.ann (h71a r) [(1,AV.ptr 0 []),(35,AV.sl 2 r.machines.length fun (i:Nat)=>cMach (mach r i)),(36,iv (↑(r.machines.length):Int))] [(0,OB.cells 25 (cRun r))] 10232) x33 (ent_q hE [] [(0,.same 0)] [35,36] [0] (((some (Src.same 0)=some (Src.same 0)/\nilP = [])/\(((AV.sl 2 r.machines.length fun (i:Nat)=>cMach (mach r i))=AV.sl 2 r.machines.length fun (i:Nat)=>cMach (mach r i))/\true=true)/\(iv (↑(r.machines.length):Int)=iv (↑(r.machines.length):Int)/\true=true)/\(iv ((x33:Int) + 1)=iv (↑(x33 + 1):Int)/\nilN = [])/\True)/\((OB.cells 25 (cRun r)=OB.cells 25 (cRun r)/\true=true)/\True)/\T2) (by kernel_rfl) (by kernel_rfl) ⟨⟨⟨rfl,rfl⟩,⟨rfl,rfl⟩,⟨rfl,rfl⟩,⟨(congrArg iv (o21 hp h32 x33 hx33 h34 h45 x46 hx46 h47)),rfl⟩,tv⟩,⟨⟨rfl,rfl⟩,tv⟩,rfl,rfl⟩) (o22 hp h32 x33 hx33 h34 h45 x46 hx46 h47) (o23 hp h32 x33 hx33 h34 h45 x46 hx46 h47)
  ·refine swp_exit (swp_seq (swp_seq ?_))
   refine sR (kt:=[1,76,77,78]) (kh:=[0]) (q:=True/\True/\True/\True/\True) (st':=ASt.mk [(1,.ptr 0 []),(76,.sl 3 r.found.length fun (i:Nat)=>cFnd (fnd r i)),(77,iv (↑(r.found.length):Int)),(78,iv 0)] [(0,.cells 25 (cRun r))] 10272) (by kernel_rfl) ⟨tv,tv,tv,tv,tv⟩ ?_
   refine swp_block ?_
   refine swp_loopA (Hint.ann (h71c r) [(1,AV.ptr 0 []),(76,AV.sl 3 r.found.length fun (i:Nat)=>cFnd (fnd r i)),(77,iv (↑(r.found.length):Int))] [(0,OB.cells 25 (cRun r))] 20272) (ent_q hE [] [(0,.same 0)] [76,77] [0] (((some (Src.same 0)=some (Src.same 0)/\nilP = [])/\(((AV.sl 3 r.found.length fun (i:Nat)=>cFnd (fnd r i))=AV.sl 3 r.found.length fun (i:Nat)=>cFnd (fnd r i))/\true=true)/\(iv (↑(r.found.length):Int)=iv (↑(r.found.length):Int)/\true=true)/\(iv 0=iv (↑0:Int)/\nilN = [])/\True)/\((OB.cells 25 (cRun r)=OB.cells 25 (cRun r)/\true=true)/\True)/\T2) (by kernel_rfl) (by kernel_rfl) ⟨⟨⟨rfl,rfl⟩,⟨rfl,rfl⟩,⟨rfl,rfl⟩,⟨(congrArg iv (o24 hp h32 x33 hx33 h34)),rfl⟩,tv⟩,⟨⟨rfl,rfl⟩,tv⟩,rfl,rfl⟩) (o25 hp h32 x33 hx33 h34) (fun (x61:Nat) hx61 => ?_)
   refine swp_seq ?_
   refine sR (kt:=[1,76,77,78,79]) (kh:=[0]) (q:=True/\True) (st':=ASt.mk [(1,.ptr 0 []),(76,.sl 3 r.found.length fun (i:Nat)=>cFnd (fnd r i)),(77,iv (↑(r.found.length):Int)),(78,iv (x61:Int)),(79,bv (decide ((x61:Int) < (↑(r.found.length):Int))))] [(0,.cells 25 (cRun r))] 20280) (by kernel_rfl) ⟨tv,tv⟩ ?_
   refine swp_seq ?_
   refine swp_cond (decide ((x61:Int) < (↑(r.found.length):Int))) (by kernel_rfl) (fun h62 => ?_) (fun h62 => ?_)
   ·refine swp_skip (swp_seq (swp_block (swp_seq ?_)))
    refine sR (kt:=[1,76,77,78,8]) (kh:=[0,20296]) (q:=(0<=(x61:Int)/\(x61:Int) < (↑(r.found.length):Int))/\True/\True/\True/\True) (st':=ASt.mk [(1,.ptr 0 []),(76,.sl 3 r.found.length fun (i:Nat)=>cFnd (fnd r i)),(77,iv (↑(r.found.length):Int)),(78,iv (x61:Int)),(8,.ptr 20296 [])] [(0,.cells 25 (cRun r)),(20296,.cells 32 (cFnd (fnd r x61)))] 20312) (by kernel_rfl) ⟨⟨(o26 hp h32 x33 hx33 h34 x61 hx61 h62),(o27 hp h32 x33 hx33 h34 x61 hx61 h62)⟩,tv,tv,tv,tv⟩ ?_
    refine swp_seq (swp_seq ?_)
    refine swp_region T0_ok mixed (cs:=[(5,CallSpec.eq (s112 (fnd r x61).minute 0 (r.last - 1)) [true,true,true]),(24,CallSpec.eq (c71 r x61) [true,false])]) (kt:=[1,76,77,78,8,107]) (kh:=[0,20296]) (q:=True/\True/\True/\True/\inI (r.last - 1)/\((iv (fnd r x61).minute=iv (fnd r x61).minute/\iv 0=iv 0/\iv (r.last - 1)=iv (r.last - 1)/\True)/\Triple Try.prog 112 (s112 (fnd r x61).minute 0 (r.last - 1))/\True/\True /\ ∀ (i63:Env),True)/\True/\True/\((!!within (fnd r x61).minute 0 (r.last - 1))=true->(True/\True)/\True)/\((!!within (fnd r x61).minute 0 (r.last - 1))=true->(((!!within (fnd r x61).minute 0 (r.last - 1))=true->(!!within (fnd r x61).minute 0 (r.last - 1))=true)/\True)/\True)/\((!!within (fnd r x61).minute 0 (r.last - 1))=true->(((!!within (fnd r x61).minute 0 (r.last - 1))=true->(!!within (fnd r x61).minute 0 (r.last - 1))=true)/\True)/\True)/\((!!within (fnd r x61).minute 0 (r.last - 1))=true->(True/\True)/\True)/\((!!within (fnd r x61).minute 0 (r.last - 1))=true->(((!!within (fnd r x61).minute 0 (r.last - 1))=true->(!!within (fnd r x61).minute 0 (r.last - 1))=true)/\True)/\True)/\((!!within (fnd r x61).minute 0 (r.last - 1))=true->(((!!within (fnd r x61).minute 0 (r.last - 1))=true->(!!within (fnd r x61).minute 0 (r.last - 1))=true)/\((!!within (fnd r x61).minute 0 (r.last - 1))=true->(!!within (fnd r x61).minute 0 (r.last - 1))=true)/\True)/\True)/\(((!within (fnd r x61).minute 0 (r.last - 1))=true->True)/\((!within (fnd r x61).minute 0 (r.last - 1))=false->(!!within (fnd r x61).minute 0 (r.last - 1))=true))/\True/\((!bif !within (fnd r x61).minute 0 (r.last - 1) then true else !decide ((↑((fnd r x61).new.length):Int)=r.plates))=true->(True/\True)/\True)/\((!bif !within (fnd r x61).minute 0 (r.last - 1) then true else !decide ((↑((fnd r x61).new.length):Int)=r.plates))=true->(((!bif !within (fnd r x61).minute 0 (r.last - 1) then true else !decide ((↑((fnd r x61).new.length):Int)=r.plates))=true->(!bif !within (fnd r x61).minute 0 (r.last - 1) then true else !decide ((↑((fnd r x61).new.length):Int)=r.plates))=true)/\True)/\True)/\((!bif !within (fnd r x61).minute 0 (r.last - 1) then true else !decide ((↑((fnd r x61).new.length):Int)=r.plates))=true->(((!bif !within (fnd r x61).minute 0 (r.last - 1) then true else !decide ((↑((fnd r x61).new.length):Int)=r.plates))=true->(!bif !within (fnd r x61).minute 0 (r.last - 1) then true else !decide ((↑((fnd r x61).new.length):Int)=r.plates))=true)/\True)/\True)/\((!bif !within (fnd r x61).minute 0 (r.last - 1) then true else !decide ((↑((fnd r x61).new.length):Int)=r.plates))=true->(((!bif !within (fnd r x61).minute 0 (r.last - 1) then true else !decide ((↑((fnd r x61).new.length):Int)=r.plates))=true->(!bif !within (fnd r x61).minute 0 (r.last - 1) then true else !decide ((↑((fnd r x61).new.length):Int)=r.plates))=true)/\True/\True)/\True)/\(((bif !within (fnd r x61).minute 0 (r.last - 1) then true else !decide ((↑((fnd r x61).new.length):Int)=r.plates))=true->True)/\((bif !within (fnd r x61).minute 0 (r.last - 1) then true else !decide ((↑((fnd r x61).new.length):Int)=r.plates))=false->(!bif !within (fnd r x61).minute 0 (r.last - 1) then true else !decide ((↑((fnd r x61).new.length):Int)=r.plates))=true))/\True/\((!bif bif !within (fnd r x61).minute 0 (r.last - 1) then true else !decide ((↑((fnd r x61).new.length):Int)=r.plates) then true else decide ((↑((fnd r x61).frm.length):Int)=0))=true->(True/\True)/\True)/\((!bif bif !within (fnd r x61).minute 0 (r.last - 1) then true else !decide ((↑((fnd r x61).new.length):Int)=r.plates) then true else decide ((↑((fnd r x61).frm.length):Int)=0))=true->(((!bif bif !within (fnd r x61).minute 0 (r.last - 1) then true else !decide ((↑((fnd r x61).new.length):Int)=r.plates) then true else decide ((↑((fnd r x61).frm.length):Int)=0))=true->(!bif bif !within (fnd r x61).minute 0 (r.last - 1) then true else !decide ((↑((fnd r x61).new.length):Int)=r.plates) then true else decide ((↑((fnd r x61).frm.length):Int)=0))=true)/\True)/\True)/\((!bif bif !within (fnd r x61).minute 0 (r.last - 1) then true else !decide ((↑((fnd r x61).new.length):Int)=r.plates) then true else decide ((↑((fnd r x61).frm.length):Int)=0))=true->(True/\((!bif bif !within (fnd r x61).minute 0 (r.last - 1) then true else !decide ((↑((fnd r x61).new.length):Int)=r.plates) then true else decide ((↑((fnd r x61).frm.length):Int)=0))=true->(!bif bif !within (fnd r x61).minute 0 (r.last - 1) then true else !decide ((↑((fnd r x61).new.length):Int)=r.plates) then true else decide ((↑((fnd r x61).frm.length):Int)=0))=true)/\True/\True)/\(aInts (fnd r x61).new=aInts (fnd r x61).new/\True/\True)/\Triple Try.prog 113 (c71 r x61)/\(fnd r x61).new.length<=1125899906842624/\True /\ ∀ (i91:Env) (i92:List Value),Env.le E0 i91->i92.length=List.length [aInts (fnd r x61).new,AV.fn 0]->(∀ (k:Nat),Rel i91 true (List.getD [aInts (fnd r x61).new,AV.clo 114 []] k AV.any) (i92.getD k undef))->fnokOf Try.prog 0 (fun (n:Int)=>[iv n]) (fun (n:Int)=>bv (badNew n)) (Env.mk i91.1 i91.2 i91.3 fun (k:Nat) (u:Value) => ∃ (i:Nat),[aInts (fnd r x61).new,AV.fn 0][i]? = some (AV.fn k)/\i92[i]? = some u))/\(((bif bif !within (fnd r x61).minute 0 (r.last - 1) then true else !decide ((↑((fnd r x61).new.length):Int)=r.plates) then true else decide ((↑((fnd r x61).frm.length):Int)=0))=true->True)/\((bif bif !within (fnd r x61).minute 0 (r.last - 1) then true else !decide ((↑((fnd r x61).new.length):Int)=r.plates) then true else decide ((↑((fnd r x61).frm.length):Int)=0))=false->(!bif bif !within (fnd r x61).minute 0 (r.last - 1) then true else !decide ((↑((fnd r x61).new.length):Int)=r.plates) then true else decide ((↑((fnd r x61).frm.length):Int)=0))=true))/\True) (st':=ASt.mk [(1,.ptr 0 []),(76,.sl 3 r.found.length fun (i:Nat)=>cFnd (fnd r i)),(77,iv (↑(r.found.length):Int)),(78,iv (x61:Int)),(8,.ptr 20296 []),(107,bv (bif bif bif !within (fnd r x61).minute 0 (r.last - 1) then true else !decide ((↑((fnd r x61).new.length):Int)=r.plates) then true else decide ((↑((fnd r x61).frm.length):Int)=0) then true else List.any (fnd r x61).new badNew))] [(0,.cells 25 (cRun r)),(20296,.cells 32 (cFnd (fnd r x61)))] 20520) (by kernel_rfl) ⟨tv,tv,tv,tv,(o28 hp h32 x33 hx33 h34 x61 hx61 h62),⟨⟨rfl,rfl,rfl,tv⟩,(t112 (fnd r x61).minute (0) (r.last - 1)),tv,tv,(fun i63=>tv)⟩,tv,tv,(fun h64=>⟨⟨tv,tv⟩,tv⟩),(fun h65=>⟨⟨(fun h66=>h65),tv⟩,tv⟩),(fun h67=>⟨⟨(fun h68=>h67),tv⟩,tv⟩),(fun h69=>⟨⟨tv,tv⟩,tv⟩),(fun h70=>⟨⟨(fun h71=>h70),tv⟩,tv⟩),(fun h72=>⟨⟨(fun h73=>h72),(fun h74=>h72),tv⟩,tv⟩),⟨(fun h75=>tv),(fun h76=>(o29 hp h32 x33 hx33 h34 x61 hx61 h62 h76))⟩,tv,(fun h77=>⟨⟨tv,tv⟩,tv⟩),(fun h78=>⟨⟨(fun h79=>h78),tv⟩,tv⟩),(fun h80=>⟨⟨(fun h81=>h80),tv⟩,tv⟩),(fun h82=>⟨⟨(fun h83=>h82),tv,tv⟩,tv⟩),⟨(fun h84=>tv),(fun h85=>(o30 hp h32 x33 hx33 h34 x61 hx61 h62 h85))⟩,tv,(fun h86=>⟨⟨tv,tv⟩,tv⟩),(fun h87=>⟨⟨(fun h88=>h87),tv⟩,tv⟩),(fun h89=>⟨⟨tv,(fun h90=>h89),tv,tv⟩,⟨rfl,tv,tv⟩,(t113 _ _),(o31 hp h32 x33 hx33 h34 x61 hx61 h62 h89),tv,(fun i91=>(fun i92=>(fun h93=>(fun h94=>(fun h95=>(o32 E0 hp h32 x33 hx33 h34 x61 hx61 h62 h89 i91 i92 h93 h94 h95))))))⟩),⟨(fun h96=>tv),(fun h97=>(o33 hp h32 x33 hx33 h34 x61 hx61 h62 h97))⟩,tv⟩ ?_
    refine swp_cond (bif bif bif !within (fnd r x61).minute 0 (r.last - 1) then true else !decide ((↑((fnd r x61).new.length):Int)=r.plates) then true else decide ((↑((fnd r x61).frm.length):Int)=0) then true else List.any (fnd r x61).new badNew) (by kernel_rfl) (fun h98 => ?_) (fun h98 => ?_)
    ·refine swp_seq ?_
     refine sR (kt:=[2]) (kh:=[]) (q:=True/\True) (st':=ASt.mk [(2,iv 60)] [] 20528) (by kernel_rfl) ⟨tv,tv⟩ ?_
     refine swp_ret ?_
     exact ret_q [] ((True/\True)/\(iv 60=iv (check r)/\nilN = [])/\T3) (by kernel_rfl) ⟨⟨tv,tv⟩,⟨(congrArg iv (o34 hp h32 x33 hx33 h34 x61 hx61 h62 h98)),rfl⟩,rfl,rfl,rfl⟩
    ·refine swp_skip (swp_seq ?_)
     refine sR (kt:=[1,76,77,78,8,109,110,111]) (kh:=[0,20296]) (q:=True/\True/\True/\True/\True) (st':=ASt.mk [(1,.ptr 0 []),(76,.sl 3 r.found.length fun (i:Nat)=>cFnd (fnd r i)),(77,iv (↑(r.found.length):Int)),(78,iv (x61:Int)),(8,.ptr 20296 []),(109,aInts (fnd r x61).frm),(110,iv (↑((fnd r x61).frm.length):Int)),(111,iv 0)] [(0,.cells 25 (cRun r)),(20296,.cells 32 (cFnd (fnd r x61)))] 20552) (by kernel_rfl) ⟨tv,tv,tv,tv,tv⟩ ?_
     refine swp_block ?_
     refine swp_loopA (Hint.ann (h71d r x61) [(1,AV.ptr 0 []),(76,AV.sl 3 r.found.length fun (i:Nat)=>cFnd (fnd r i)),(77,iv (↑(r.found.length):Int)),(78,iv (x61:Int)),(8,AV.ptr 20296 []),(109,aInts (fnd r x61).frm),(110,iv (↑((fnd r x61).frm.length):Int))] [(0,OB.cells 25 (cRun r)),(20296,OB.cells 32 (cFnd (fnd r x61)))] 30552) (ent_q hE [] [(0,.same 0),(20296,.same 20296)] [76,77,78,109,110] [0,20296] (((some (Src.same 0)=some (Src.same 0)/\nilP = [])/\(((AV.sl 3 r.found.length fun (i:Nat)=>cFnd (fnd r i))=AV.sl 3 r.found.length fun (i:Nat)=>cFnd (fnd r i))/\true=true)/\(iv (↑(r.found.length):Int)=iv (↑(r.found.length):Int)/\true=true)/\(iv (x61:Int)=iv (x61:Int)/\true=true)/\(some (Src.same 20296)=some (Src.same 20296)/\nilP = [])/\(aInts (fnd r x61).frm=aInts (fnd r x61).frm/\true=true)/\(iv (↑((fnd r x61).frm.length):Int)=iv (↑((fnd r x61).frm.length):Int)/\true=true)/\(iv 0=iv (↑0:Int)/\nilN = [])/\True)/\((OB.cells 25 (cRun r)=OB.cells 25 (cRun r)/\true=true)/\(OB.cells 32 (cFnd (fnd r x61))=OB.cells 32 (cFnd (fnd r x61))/\true=true)/\True)/\T2) (by kernel_rfl) (by kernel_rfl) ⟨⟨⟨rfl,rfl⟩,⟨rfl,rfl⟩,⟨rfl,rfl⟩,⟨rfl,rfl⟩,⟨rfl,rfl⟩,⟨rfl,rfl⟩,⟨rfl,rfl⟩,⟨(congrArg iv (o35 hp h32 x33 hx33 h34 x61 hx61 h62 h98)),rfl⟩,tv⟩,⟨⟨rfl,rfl⟩,⟨rfl,rfl⟩,tv⟩,rfl,rfl⟩) (o36 hp h32 x33 hx33 h34 x61 hx61 h62 h98) (fun (x99:Nat) hx99 => ?_)
     refine swp_seq ?_
     refine sR (kt:=[1,76,77,78,8,109,110,111,112]) (kh:=[0,20296]) (q:=True/\True) (st':=ASt.mk [(1,.ptr 0 []),(76,.sl 3 r.found.length fun (i:Nat)=>cFnd (fnd r i)),(77,iv (↑(r.found.length):Int)),(78,iv (x61:Int)),(8,.ptr 20296 []),(109,aInts (fnd r x61).frm),(110,iv (↑((fnd r x61).frm.length):Int)),(111,iv (x99:Int)),(112,bv (decide ((x99:Int) < (↑((fnd r x61).frm.length):Int))))] [(0,.cells 25 (cRun r)),(20296,.cells 32 (cFnd (fnd r x61)))] 30560) (by kernel_rfl) ⟨tv,tv⟩ ?_
     refine swp_seq ?_
     refine swp_cond (decide ((x99:Int) < (↑((fnd r x61).frm.length):Int))) (by kernel_rfl) (fun h100 => ?_) (fun h100 => ?_)
     ·refine swp_skip (swp_seq (swp_block (swp_seq ?_)))
      refine sR (kt:=[1,76,77,78,8,109,110,111,9,10]) (kh:=[0,20296]) (q:=True/\(0<=(x99:Int)/\(x99:Int) < (↑((fnd r x61).frm.length):Int))/\True/\True/\True/\True) (st':=ASt.mk [(1,.ptr 0 []),(76,.sl 3 r.found.length fun (i:Nat)=>cFnd (fnd r i)),(77,iv (↑(r.found.length):Int)),(78,iv (x61:Int)),(8,.ptr 20296 []),(109,aInts (fnd r x61).frm),(110,iv (↑((fnd r x61).frm.length):Int)),(111,iv (x99:Int)),(9,iv (x99:Int)),(10,iv ((fnd r x61).frm.getD x99 0))] [(0,.cells 25 (cRun r)),(20296,.cells 32 (cFnd (fnd r x61)))] 30600) (by kernel_rfl) ⟨tv,⟨(o37 hp h32 x33 hx33 h34 x61 hx61 h62 h98 x99 hx99 h100),(o38 hp h32 x33 hx33 h34 x61 hx61 h62 h98 x99 hx99 h100)⟩,tv,tv,tv,tv⟩ ?_
      refine swp_seq ?_
      refine swp_region T0_ok mixed (cs:=[(5,CallSpec.eq (s112 ((fnd r x61).frm.getD x99 0) 0 ((↑(r.machines.length):Int) - 1)) [true,true,true])]) (kt:=[1,76,77,78,8,109,110,111,136]) (kh:=[0,20296]) (q:=True/\True/\True/\True/\inI ((↑(r.machines.length):Int) - 1)/\((iv ((fnd r x61).frm.getD x99 0)=iv ((fnd r x61).frm.getD x99 0)/\iv 0=iv 0/\iv ((↑(r.machines.length):Int) - 1)=iv ((↑(r.machines.length):Int) - 1)/\True)/\Triple Try.prog 112 (s112 ((fnd r x61).frm.getD x99 0) 0 ((↑(r.machines.length):Int) - 1))/\True/\True /\ ∀ (i101:Env),True)/\True/\True/\((!!within ((fnd r x61).frm.getD x99 0) 0 ((↑(r.machines.length):Int) - 1))=true->(True/\True)/\True)/\((!!within ((fnd r x61).frm.getD x99 0) 0 ((↑(r.machines.length):Int) - 1))=true->(((!!within ((fnd r x61).frm.getD x99 0) 0 ((↑(r.machines.length):Int) - 1))=true->(!!within ((fnd r x61).frm.getD x99 0) 0 ((↑(r.machines.length):Int) - 1))=true)/\True/\True)/\True)/\((!!within ((fnd r x61).frm.getD x99 0) 0 ((↑(r.machines.length):Int) - 1))=true->(((!!within ((fnd r x61).frm.getD x99 0) 0 ((↑(r.machines.length):Int) - 1))=true->(!!within ((fnd r x61).frm.getD x99 0) 0 ((↑(r.machines.length):Int) - 1))=true)/\True)/\True)/\((!!within ((fnd r x61).frm.getD x99 0) 0 ((↑(r.machines.length):Int) - 1) && decide (0 < (x99:Int)))=true->(True/\True)/\True)/\((!!within ((fnd r x61).frm.getD x99 0) 0 ((↑(r.machines.length):Int) - 1) && decide (0 < (x99:Int)))=true->(True/\True)/\True)/\((!!within ((fnd r x61).frm.getD x99 0) 0 ((↑(r.machines.length):Int) - 1) && decide (0 < (x99:Int)))=true->(((!!within ((fnd r x61).frm.getD x99 0) 0 ((↑(r.machines.length):Int) - 1) && decide (0 < (x99:Int)))=true->(!!within ((fnd r x61).frm.getD x99 0) 0 ((↑(r.machines.length):Int) - 1) && decide (0 < (x99:Int)))=true)/\True)/\True)/\((!!within ((fnd r x61).frm.getD x99 0) 0 ((↑(r.machines.length):Int) - 1) && decide (0 < (x99:Int)))=true->(True/\True)/\True)/\((!!within ((fnd r x61).frm.getD x99 0) 0 ((↑(r.machines.length):Int) - 1) && decide (0 < (x99:Int)))=true->(((!!within ((fnd r x61).frm.getD x99 0) 0 ((↑(r.machines.length):Int) - 1) && decide (0 < (x99:Int)))=true->(!!within ((fnd r x61).frm.getD x99 0) 0 ((↑(r.machines.length):Int) - 1) && decide (0 < (x99:Int)))=true)/\True/\True)/\inI ((x99:Int) - 1))/\((!!within ((fnd r x61).frm.getD x99 0) 0 ((↑(r.machines.length):Int) - 1) && decide (0 < (x99:Int)))=true->(((!!within ((fnd r x61).frm.getD x99 0) 0 ((↑(r.machines.length):Int) - 1) && decide (0 < (x99:Int)))=true->(!!within ((fnd r x61).frm.getD x99 0) 0 ((↑(r.machines.length):Int) - 1) && decide (0 < (x99:Int)))=true)/\((!!within ((fnd r x61).frm.getD x99 0) 0 ((↑(r.machines.length):Int) - 1) && decide (0 < (x99:Int)))=true->(!!within ((fnd r x61).frm.getD x99 0) 0 ((↑(r.machines.length):Int) - 1) && decide (0 < (x99:Int)))=true)/\True)/\0<=(x99:Int) - 1/\(x99:Int) - 1 < (↑((fnd r x61).frm.length):Int))/\((!!within ((fnd r x61).frm.getD x99 0) 0 ((↑(r.machines.length):Int) - 1) && decide (0 < (x99:Int)))=true->(((!!within ((fnd r x61).frm.getD x99 0) 0 ((↑(r.machines.length):Int) - 1) && decide (0 < (x99:Int)))=true->(!!within ((fnd r x61).frm.getD x99 0) 0 ((↑(r.machines.length):Int) - 1) && decide (0 < (x99:Int)))=true)/\True)/\True)/\((!!within ((fnd r x61).frm.getD x99 0) 0 ((↑(r.machines.length):Int) - 1) && decide (0 < (x99:Int)))=true->(((!!within ((fnd r x61).frm.getD x99 0) 0 ((↑(r.machines.length):Int) - 1) && decide (0 < (x99:Int)))=true->(!!within ((fnd r x61).frm.getD x99 0) 0 ((↑(r.machines.length):Int) - 1) && decide (0 < (x99:Int)))=true)/\((!!within ((fnd r x61).frm.getD x99 0) 0 ((↑(r.machines.length):Int) - 1) && decide (0 < (x99:Int)))=true->(!!within ((fnd r x61).frm.getD x99 0) 0 ((↑(r.machines.length):Int) - 1) && decide (0 < (x99:Int)))=true)/\True)/\True)/\((!!within ((fnd r x61).frm.getD x99 0) 0 ((↑(r.machines.length):Int) - 1))=true->(((!!within ((fnd r x61).frm.getD x99 0) 0 ((↑(r.machines.length):Int) - 1))=true->(!!within ((fnd r x61).frm.getD x99 0) 0 ((↑(r.machines.length):Int) - 1))=true)/\True)/\(decide (0 < (x99:Int))=true->(!!within ((fnd r x61).frm.getD x99 0) 0 ((↑(r.machines.length):Int) - 1) && decide (0 < (x99:Int)))=true)/\(decide (0 < (x99:Int))=false->True))/\(((!within ((fnd r x61).frm.getD x99 0) 0 ((↑(r.machines.length):Int) - 1))=true->True)/\((!within ((fnd r x61).frm.getD x99 0) 0 ((↑(r.machines.length):Int) - 1))=false->(!!within ((fnd r x61).frm.getD x99 0) 0 ((↑(r.machines.length):Int) - 1))=true))/\True) (st':=ASt.mk [(1,.ptr 0 []),(76,.sl 3 r.found.length fun (i:Nat)=>cFnd (fnd r i)),(77,iv (↑(r.found.length):Int)),(78,iv (x61:Int)),(8,.ptr 20296 []),(109,aInts (fnd r x61).frm),(110,iv (↑((fnd r x61).frm.length):Int)),(111,iv (x99:Int)),(136,bv (bif !within ((fnd r x61).frm.getD x99 0) 0 ((↑(r.machines.length):Int) - 1) then true else bif decide (0 < (x99:Int)) then decide ((fnd r x61).frm.getD x99 0<=(fnd r x61).frm.getD ((x99:Int) - 1).toNat 0) else false))] [(0,.cells 25 (cRun r)),(20296,.cells 32 (cFnd (fnd r x61)))] 30768) (by kernel_rfl) ⟨tv,tv,tv,tv,(o39 hp h32 x33 hx33 h34 x61 hx61 h62 h98 x99 hx99 h100),⟨⟨rfl,rfl,rfl,tv⟩,(t112 ((fnd r x61).frm.getD x99 0) (0) ((↑(r.machines.length):Int) - 1)),tv,tv,(fun i101=>tv)⟩,tv,tv,(fun h102=>⟨⟨tv,tv⟩,tv⟩),(fun h103=>⟨⟨(fun h104=>h103),tv,tv⟩,tv⟩),(fun h105=>⟨⟨(fun h106=>h105),tv⟩,tv⟩),(fun h107=>⟨⟨tv,tv⟩,tv⟩),(fun h108=>⟨⟨tv,tv⟩,tv⟩),(fun h109=>⟨⟨(fun h110=>h109),tv⟩,tv⟩),(fun h111=>⟨⟨tv,tv⟩,tv⟩),(fun h112=>⟨⟨(fun h113=>h112),tv,tv⟩,(o40 hp h32 x33 hx33 h34 x61 hx61 h62 h98 x99 hx99 h100 h112)⟩),(fun h114=>⟨⟨(fun h115=>h114),(fun h116=>h114),tv⟩,(o41 hp h32 x33 hx33 h34 x61 hx61 h62 h98 x99 hx99 h100 h114),(o42 hp h32 x33 hx33 h34 x61 hx61 h62 h98 x99 hx99 h100 h114)⟩),(fun h117=>⟨⟨(fun h118=>h117),tv⟩,tv⟩),(fun h119=>⟨⟨(fun h120=>h119),(fun h121=>h119),tv⟩,tv⟩),(fun h122=>⟨⟨(fun h123=>h122),tv⟩,(fun h124=>(o43 hp h32 x33 hx33 h34 x61 hx61 h62 h98 x99 hx99 h100 h122 h124)),(fun h125=>tv)⟩),⟨(fun h126=>tv),(fun h127=>(o44 hp h32 x33 hx33 h34 x61 hx61 h62 h98 x99 hx99 h100 h127))⟩,tv⟩ ?_
      refine swp_cond (bif !within ((fnd r x61).frm.getD x99 0) 0 ((↑(r.machines.length):Int) - 1) then true else bif decide (0 < (x99:Int)) then decide ((fnd r x61).frm.getD x99 0<=(fnd r x61).frm.getD ((x99:Int) - 1).toNat 0) else false) (by kernel_rfl) (fun h128 => ?_) (fun h128 => ?_)
      ·refine swp_seq ?_
       refine sR (kt:=[2]) (kh:=[]) (q:=True/\True) (st':=ASt.mk [(2,iv 60)] [] 30776) (by kernel_rfl) ⟨tv,tv⟩ ?_
       refine swp_ret ?_
       exact ret_q [] ((True/\True)/\(iv 60=iv (check r)/\nilN = [])/\T3) (by kernel_rfl) ⟨⟨tv,tv⟩,⟨(congrArg iv (o45 hp h32 x33 hx33 h34 x61 hx61 h62 h98 x99 hx99 h100 h128)),rfl⟩,rfl,rfl,rfl⟩
      ·refine swp_skip ?_
       refine sR (kt:=[1,76,77,78,8,109,110,111]) (kh:=[0,20296]) (q:=inI ((x99:Int) + 1)/\True/\True) (st':=ASt.mk [(1,.ptr 0 []),(76,.sl 3 r.found.length fun (i:Nat)=>cFnd (fnd r i)),(77,iv (↑(r.found.length):Int)),(78,iv (x61:Int)),(8,.ptr 20296 []),(109,aInts (fnd r x61).frm),(110,iv (↑((fnd r x61).frm.length):Int)),(111,iv ((x99:Int) + 1))] [(0,.cells 25 (cRun r)),(20296,.cells 32 (cFnd (fnd r x61)))] 30784) (by kernel_rfl) ⟨(o46 hp h32 x33 hx33 h34 x61 hx61 h62 h98 x99 hx99 h100 h128),tv,tv⟩ ?_
       exact loop_next (Hint.ann (h71d r x61) [(1,AV.ptr 0 []),(76,AV.sl 3 r.found.length fun (i:Nat)=>cFnd (fnd r i)),(77,iv (↑(r.found.length):Int)),(78,iv (x61:Int)),(8,AV.ptr 20296 []),(109,aInts (fnd r x61).frm),(110,iv (↑((fnd r x61).frm.length):Int))] [(0,OB.cells 25 (cRun r)),(20296,OB.cells 32 (cFnd (fnd r x61)))] 30552) x99 (ent_q hE [] [(0,.same 0),(20296,.same 20296)] [76,77,78,109,110] [0,20296] (((some (Src.same 0)=some (Src.same 0)/\nilP = [])/\(((AV.sl 3 r.found.length fun (i:Nat)=>cFnd (fnd r i))=AV.sl 3 r.found.length fun (i:Nat)=>cFnd (fnd r i))/\true=true)/\(iv (↑(r.found.length):Int)=iv (↑(r.found.length):Int)/\true=true)/\(iv (x61:Int)=iv (x61:Int)/\true=true)/\(some (Src.same 20296)=some (Src.same 20296)/\nilP = [])/\(aInts (fnd r x61).frm=aInts (fnd r x61).frm/\true=true)/\(iv (↑((fnd r x61).frm.length):Int)=iv (↑((fnd r x61).frm.length):Int)/\true=true)/\(iv ((x99:Int) + 1)=iv (↑(x99 + 1):Int)/\nilN = [])/\True)/\((OB.cells 25 (cRun r)=OB.cells 25 (cRun r)/\true=true)/\(OB.cells 32 (cFnd (fnd r x61))=OB.cells 32 (cFnd (fnd r x61))/\true=true)/\True)/\T2) (by kernel_rfl) (by kernel_rfl) ⟨⟨⟨rfl,rfl⟩,⟨rfl,rfl⟩,⟨rfl,rfl⟩,⟨rfl,rfl⟩,⟨rfl,rfl⟩,⟨rfl,rfl⟩,⟨rfl,rfl⟩,⟨(congrArg iv (o47 hp h32 x33 hx33 h34 x61 hx61 h62 h98 x99 hx99 h100 h128)),rfl⟩,tv⟩,⟨⟨rfl,rfl⟩,⟨rfl,rfl⟩,tv⟩,rfl,rfl⟩) (o48 hp h32 x33 hx33 h34 x61 hx61 h62 h98 x99 hx99 h100 h128) (o49 hp h32 x33 hx33 h34 x61 hx61 h62 h98 x99 hx99 h100 h128)
     ·refine swp_exit ?_
      refine sR (kt:=[1,76,77,78]) (kh:=[0]) (q:=inI ((x61:Int) + 1)/\True/\True) (st':=ASt.mk [(1,.ptr 0 []),(76,.sl 3 r.found.length fun (i:Nat)=>cFnd (fnd r i)),(77,iv (↑(r.found.length):Int)),(78,iv ((x61:Int) + 1))] [(0,.cells 25 (cRun r))] 30576) (by kernel_rfl) ⟨(o50 hp h32 x33 hx33 h34 x61 hx61 h62 h98 x99 hx99 h100),tv,tv⟩ ?_
      exact loop_next (Hint.ann (h71c r) [(1,AV.ptr 0 []),(76,AV.sl 3 r.found.length fun (i:Nat)=>cFnd (fnd r i)),(77,iv (↑(r.found.length):Int))] [(0,OB.cells 25 (cRun r))] 20272) x61 (ent_q hE [] [(0,.same 0)] [76,77] [0] (((some (Src.same 0)=some (Src.same 0)/\nilP = [])/\(((AV.sl 3 r.found.length fun (i:Nat)=>cFnd (fnd r i))=AV.sl 3 r.found.length fun (i:Nat)=>cFnd (fnd r i))/\true=true)/\(iv (↑(r.found.length):Int)=iv (↑(r.found.length):Int)/\true=true)/\(iv ((x61:Int) + 1)=iv (↑(x61 + 1):Int)/\nilN = [])/\True)/\((OB.cells 25 (cRun r)=OB.cells 25 (cRun r)/\true=true)/\True)/\T2) (by kernel_rfl) (by kernel_rfl) ⟨⟨⟨rfl,rfl⟩,⟨rfl,rfl⟩,⟨rfl,rfl⟩,⟨(congrArg iv (o51 hp h32 x33 hx33 h34 x61 hx61 h62 h98 x99 hx99 h100)),rfl⟩,tv⟩,⟨⟨rfl,rfl⟩,tv⟩,rfl,rfl⟩) (o52 hp h32 x33 hx33 h34 x61 hx61 h62 h98 x99 hx99 h100) (o53 hp h32 x33 hx33 h34 x61 hx61 h62 h98 x99 hx99 h100)
   ·refine swp_exit (swp_seq ?_)
    refine sR (kt:=[2]) (kh:=[]) (q:=True/\True) (st':=ASt.mk [(2,iv 0)] [] 20288) (by kernel_rfl) ⟨tv,tv⟩ ?_
    refine swp_ret ?_
    exact ret_q [] ((True/\True)/\(iv 0=iv (check r)/\nilN = [])/\T3) (by kernel_rfl) ⟨⟨tv,tv⟩,⟨(congrArg iv (o54 hp h32 x33 hx33 h34 x61 hx61 h62)),rfl⟩,rfl,rfl,rfl⟩
theorem t71 (r:Run):Triple Try.prog 71 (s71 r):=by
 apply w71
 case o3=>intro _ h; rw [nbor4'] at h; exact (check_head (by rw [Bool.not_eq_true'] at h; exact h)).symm
 case o9 =>
  intro _ _ x hx hl h
  rw [nbor2] at h
  refine (check_mach (by simpa using hl) ?_).symm
  have h':okMach r (mach r x)=false:=by rw [Bool.not_eq_true'] at h; exact h
  simp [okMachA,h']
 case o15 =>
  intro _ h0 x hx hl _ y hy hyl h
  rw [nbor4'] at h0
  have hh:okHead r=true:=by rw [Bool.not_eq_false'] at h0; exact h0
  refine (check_mach (by simpa using hl) ?_).symm
  rw [spanB _ _ (head_last hh)] at h
  have h':(mach r x).changes.all (fun s=>isSpan s r.last)=false:=not_all _ default _ (by simpa using hyl) (by simpa using h)
  simp [okMachA,h']
 case o16=>intro hf _ x hx hl _ y hy hyl _; have:=hf.2.2.1 x; simp only [decide_eq_true_eq] at hyl; simp only [inI]; omega
 case o18 =>
  intro _ h0 x hx hl _ y hy hyl h
  rw [nbor4'] at h0
  have hh:okHead r=true:=by rw [Bool.not_eq_false'] at h0; exact h0
  rw [spanB _ _ (head_last hh)] at h
  exact ⟨by simp only [decide_eq_true_eq] at hyl; omega,lt_succ_cases hy.2 (by simpa [chg] using h)⟩
 case o22 =>
  intro _ _ x hx hl h y hy hyl
  refine ⟨by simp only [decide_eq_true_eq] at hl; omega,lt_succ_cases hx.2 ?_⟩
  rw [nbor2] at h
  have h1:okMach r (mach r x)=true:=by simpa [okMach] using h
  simp only [decide_eq_false_iff_not] at hyl
  have h2:(mach r x).changes.all (fun s=>isSpan s r.last)=true:=all_idx _ default _ (fun j hj=>hy.2 j (by omega))
  simp [okMachA,h1,h2]
 case o28 =>
  intro _ h
  rw [nbor4'] at h
  have hh:okHead r=true:=by rw [Bool.not_eq_false'] at h; exact h
  (repeat intro _)
  simp only [okHead,Bool.and_eq_true,within_iff] at hh
  simp only [inI]; omega
 case o32 =>
  intro E0 _ _ _ _ _ x hx hl _ E us le hlen hr
  refine fnok_arg (vals:=[aInts (fnd r x).new,.clo 114 []]) 1 (fun j' h => ?_) (fun E u hu i=>fnok_clo (caps:=[]) (s114 i) (t114 i) rfl trivial (fun _=>trivial) rfl rfl rfl rfl rfl hu) E us le hlen hr
  match j',h with
  | 0,h=>cases h
  | 1,_=>rfl
  | n + 2,h=>simp at h
 case o34 =>
  intro _ _ _ _ _ x hx hl h
  refine (check_fnd (by simpa using hl) ?_).symm
  rw [bor] at h
  rw [Bool.or_eq_true] at h
  rcases h with h | h
  ·rw [nbor3'] at h
   have h':okFnd r (fnd r x)=false:=by
    rw [Bool.not_eq_true'] at h
    unfold okFnd
    rw [h]; rfl
   simp [okFndA,h']
  ·have h':(fnd r x).new.all (fun n=>within n (-1) 1)=false:=by
    rw [List.any_eq_true] at h
    obtain ⟨n,hn,h⟩:=h
    rw [List.all_eq_false]
    exact ⟨n,hn,by simpa [badNew] using h⟩
   simp [okFndA,h']
 case o45 =>
  intro _ _ _ _ _ x hx hl _ y hy hyl h
  refine (check_fnd (by simpa using hl) ?_).symm
  rw [risB] at h
  have h':rising (fnd r x).frm 0 ((r.machines.length:Int) - 1)=false:=ris_not (by simpa using hyl) (by simpa using h)
  have h2:okFnd r (fnd r x)=false:=by unfold okFnd; rw [h']; simp
  simp [okFndA,h2]
 case o46=>intro hf _ _ _ _ x hx hl _ y hy hyl _; have:=(hf.2.2.2 x).2; simp only [decide_eq_true_eq] at hyl; simp only [inI]; omega
 case o40=>intro hf _ _ _ _ x hx hl _ y hy hyl _; have:=(hf.2.2.2 x).2; simp only [decide_eq_true_eq] at hyl; simp only [inI]; omega
 case o48=>intro _ _ _ _ _ x hx hl _ y hy hyl h; rw [risB] at h; exact ⟨by simp only [decide_eq_true_eq] at hyl; omega,lt_succ_cases hy.2 (by simpa using h)⟩
 case o52 =>
  intro _ _ _ _ _ x hx hl h y hy hyl
  refine ⟨by simp only [decide_eq_true_eq] at hl; omega,lt_succ_cases hx.2 ?_⟩
  simp only [decide_eq_false_iff_not] at hyl
  rw [bor] at h
  obtain ⟨h1,h2⟩:=(Bool.or_eq_false_iff).1 h
  rw [nbor3',Bool.not_eq_false'] at h1
  have hr:rising (fnd r x).frm 0 ((r.machines.length:Int) - 1)=true:=by
   unfold rising; rw [List.all_eq_true]; intro j hj; exact hy.2 j (by have:=List.mem_range.1 hj; omega)
  have h3:okFnd r (fnd r x)=true:=by unfold okFnd; rw [h1,hr]; rfl
  have h4:(fnd r x).new.all (fun n=>within n (-1) 1)=true:=by
   rw [List.any_eq_false] at h2
   rw [List.all_eq_true]
   intro n hn
   simpa [badNew] using h2 n hn
  simp [okFndA,h3,h4]
 case o54 =>
  intro _ h x hx hl y hy hyl
  rw [nbor4'] at h
  simp only [decide_eq_false_iff_not] at hl hyl
  have:=okRun_of (r:=r) (by rw [Bool.not_eq_false'] at h; exact h) (fun j hj=>hx.2 j (by omega)) (fun j hj=>hy.2 j (by omega))
  exact (check_zero.2 this).symm
 all_goals (try ((repeat intro _) <;> (try simp only [v0,v1,v2,v3,v4,v5,v6,v7,v8,v9,inI,fits,Go.Sh.small] at *) <;> first | (exact rfl) | omega | exact vz | (simp_all; done) | (simp_all; omega)))
end Go.Ab
namespace Go.Sh
structure WayS where
 frm:List Int
 whn:Nat->Nat->Span
def upd2 (f:Nat->Nat->Span) (m p:Nat) (s:Span):Nat->Nat->Span:=fun j q=>if j=m then (if q=p then s else f j q) else f j q
def seeOne (c:Fnd) (p:Nat) (s:Span):Span:=if c.new.getD p 0=0 then ⟨max s.lo (c.minute + 1),s.hi⟩ else if c.new.getD p 0=1 then ⟨s.lo,min s.hi c.minute⟩ else s
def seeN (c:Fnd) (m:Nat):Nat->Nat->(Nat->Nat->Span)->Bool × (Nat->Nat->Span)
 | 0,_,f=>(true,f)
 | k + 1,p,f=>if (seeOne c p (f m p)).lo > (seeOne c p (f m p)).hi then (false,upd2 f m p (seeOne c p (f m p))) else seeN c m k (p + 1) (upd2 f m p (seeOne c p (f m p)))
def see (c:Fnd) (m:Nat) (f:Nat->Nat->Span):Bool × (Nat->Nat->Span):=seeN c m c.new.length 0 f
theorem seeN_stop {c:Fnd} {m k p:Nat} {f:Nat->Nat->Span} (h:(seeOne c p (f m p)).lo > (seeOne c p (f m p)).hi):seeN c m (k + 1) p f=(false,upd2 f m p (seeOne c p (f m p))):=by rw [seeN,if_pos h]
theorem seeN_go {c:Fnd} {m k p:Nat} {f:Nat->Nat->Span} (h:¬ (seeOne c p (f m p)).lo > (seeOne c p (f m p)).hi):seeN c m (k + 1) p f=seeN c m k (p + 1) (upd2 f m p (seeOne c p (f m p))):=by rw [seeN,if_neg h]
theorem upd2_at (f:Nat->Nat->Span) (m p:Nat) (s:Span):upd2 f m p s m p=s:=by simp [upd2]
theorem see_stop {c:Fnd} {m x:Nat} {f g:Nat->Nat->Span} (hx:see c m f=seeN c m (c.new.length - x) x g) (hl:x < c.new.length) (h:(upd2 g m x (seeOne c x (g m x)) m x).hi < (upd2 g m x (seeOne c x (g m x)) m x).lo):see c m f=(false,upd2 g m x (seeOne c x (g m x))):=by
 rw [upd2_at] at h
 rw [hx,show c.new.length - x=(c.new.length - (x + 1)) + 1 by omega,seeN_stop h]
theorem see_go {c:Fnd} {m x:Nat} {f g:Nat->Nat->Span} (hx:see c m f=seeN c m (c.new.length - x) x g) (hl:x < c.new.length) (h:¬ (upd2 g m x (seeOne c x (g m x)) m x).hi < (upd2 g m x (seeOne c x (g m x)) m x).lo):see c m f=seeN c m (c.new.length - (x + 1)) (x + 1) (upd2 g m x (seeOne c x (g m x))):=by
 rw [upd2_at] at h
 rw [hx,show c.new.length - x=(c.new.length - (x + 1)) + 1 by omega,seeN_go h]
theorem see_end {c:Fnd} {m x:Nat} {f g:Nat->Nat->Span} (hx:see c m f=seeN c m (c.new.length - x) x g) (hl:c.new.length<=x):see c m f=(true,g):=by
 rw [hx,show c.new.length - x=0 by omega,seeN]
theorem upd2_id (f:Nat->Nat->Span) (m p:Nat):upd2 f m p (f m p)=f:=by
 funext j q
 unfold upd2
 split
 ·rename_i e; subst e; split
  ·rename_i e; subst e; rfl
  ·rfl
 ·rfl
end Go.Sh
namespace Go.En
open Go Go.Ab Go.Sh
def cWay (w:WayS):List AV:=[aInts w.frm,.arr 6 3 (fun m=>[.arr 2 3 (fun p=>cSpan (w.whn m p))])]
end Go.En
namespace Go.Ab
open Go Go.RowKit Go.Proofs Go.Sh Go.En
def s139 (b:Nat) (frm:List Int) (f:Nat->Nat->Span) (c:Fnd) (m:Nat):CallSpec:=ptrSpec b [.fld 1] [vFnd c,iv m] 107 (cWay ⟨frm,f⟩) (cWay ⟨frm,(see c m f).2⟩) (m < 3/\c.new.length<=3/\0<=c.minute/\c.minute<=1000) (bv (see c m f).1)
def h139 (b:Nat) (frm:List Int) (f:Nat->Nat->Span) (c:Fnd) (m:Nat):Hint:={ X:=Nat × (Nat->Nat->Span),M:=fun x=>[(13,iv x.1)],H:=fun x=>[(0,.cells 107 (cWay ⟨frm,x.2⟩))],I:=fun x=>x.1<=c.new.length/\see c m f=seeN c m (c.new.length - x.1) x.1 x.2,mu:=fun x=>c.new.length - x.1,x0:=(0,f),nx:=fun x=>(x.1 + 1,upd2 x.2 m x.1 (seeOne c x.1 (x.2 m x.1))) }
end Go.Ab
