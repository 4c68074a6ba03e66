/- Part 3 of the proof: own library, plain forms and walks. -/
import Derived.Test.YtcbgfmalillplaaQWhere2
set_option linter.all false
set_option linter.deprecated false
namespace Go.Ab
open Go Go.RowKit Go.Proofs Go.Sh Go.En
theorem w24 (n : Int) (lo : Int) (hi : Int)
  (o0 : (bif decide (lo <= n) then decide (n <= hi) else false) = within n lo hi) :
  Triple Try.prog 24 (s24 n lo hi) := by
 refine triple_of Try.func24 rfl Try.call24 T0_ok _ rfl rfl rfl rfl (Nat.le_of_ble_eq_true (by kernel_rfl)) (fun _ _ _ _ h => h) ?_
 intro _ C hC _ hE
 obtain ⟨P, w0, E0, av, hA⟩ := C
 subst hC
 refine swp_seq ?_
 refine sR (kt := [0, 1, 2]) (kh := []) (q := True /\ True) (st' := ASt.mk [(0, iv n), (1, iv lo), (2, iv hi)] [] 8) (by kernel_rfl) ⟨tv, tv⟩ ?_
 refine swp_seq ?_
 refine sR (kt := [6]) (kh := []) (q := True /\ True /\ True /\ True /\ (decide (lo <= n) = true -> (True /\ True) /\ True) /\ (decide (lo <= n) = true -> (True /\ True) /\ True) /\ (decide (lo <= n) = true -> ((decide (lo <= n) = true -> decide (lo <= n) = true) /\ (decide (lo <= n) = true -> decide (lo <= n) = true) /\ True) /\ True) /\ ((decide (lo <= n) = true -> decide (lo <= n) = true) /\ (decide (lo <= n) = false -> True)) /\ True /\ True) (st' := ASt.mk [(6, bv (bif decide (lo <= n) then decide (n <= hi) else false))] [] 80) (by kernel_rfl) ⟨tv, tv, tv, tv, (fun h0 => ⟨⟨tv, tv⟩, tv⟩), (fun h1 => ⟨⟨tv, tv⟩, tv⟩), (fun h2 => ⟨⟨(fun h3 => h2), (fun h4 => h2), tv⟩, tv⟩), ⟨(fun h5 => h5), (fun h6 => tv)⟩, tv, tv⟩ ?_
 refine swp_ret ?_
 exact ret_q [] ((True /\ True) /\ (bv (bif decide (lo <= n) then decide (n <= hi) else false) = bv (within n lo hi) /\ nilN = []) /\ T3) (by kernel_rfl) ⟨⟨tv, tv⟩, ⟨(congrArg bv (o0)), rfl⟩, rfl, rfl, rfl⟩
theorem t24 (n lo hi : Int) : Triple Try.prog 24 (s24 n lo hi) := by
 refine w24 n lo hi ?_
 unfold within; cases decide (lo <= n) <;> rfl
abbrev q51_1 (l : List Int) (n : Int) (C : Nat -> Prop) : Prop := l.length <= 1125899906842624 -> ∀ (x0 : Nat), x0 <= l.length /\ isIn (List.take x0 l) n = false -> decide ((x0 : Int) < (↑(l.length) : Int)) = true -> C x0
abbrev q51_2 (l : List Int) (n : Int) (C : Nat -> Prop) : Prop := q51_1 l n fun x0 => decide (l.getD x0 0 = n) = false -> C x0
theorem w51 (l : List Int) (n : Int)
 (o0 : List.length l <= 1125899906842624 -> 0 = (↑0 : Int))
 (o1 : l.length <= 1125899906842624 -> 0 <= l.length /\ isIn (List.take 0 l) n = false)
 (o2 : q51_1 l n fun x0 => 0 <= (x0 : Int))
 (o3 : q51_1 l n fun x0 => (x0 : Int) < (↑(l.length) : Int))
 (o4 : q51_1 l n fun x0 => decide (l.getD x0 0 = n) = true -> true = isIn l n)
 (o5 : q51_2 l n fun x0 => inI ((x0 : Int) + 1))
 (o6 : q51_2 l n fun x0 => (x0 : Int) + 1 = (↑(x0 + 1) : Int))
 (o7 : q51_2 l n fun x0 => x0 + 1 <= l.length /\ isIn (List.take (x0 + 1) l) n = false)
 (o8 : q51_2 l n fun x0 => l.length - (x0 + 1) < l.length - x0)
 (o9 : l.length <= 1125899906842624 -> ∀ (x0 : Nat), x0 <= l.length /\ isIn (List.take x0 l) n = false -> decide ((x0 : Int) < (↑(l.length) : Int)) = false -> false = isIn l n) :
  Triple Try.prog 51 (s51 l n) := by
 refine triple_of Try.func51 rfl Try.call51 T0_ok _ rfl rfl rfl rfl (Nat.le_of_ble_eq_true (by kernel_rfl)) (fun _ _ _ _ h => h) ?_
 intro hp C hC _ hE
 obtain ⟨P, w0, E0, av, hA⟩ := C
 subst hC
 refine swp_seq ?_
 refine sR (kt := [0, 1]) (kh := []) (q := True /\ True) (st' := ASt.mk [(0, aInts l), (1, iv n)] [] 8) (by kernel_rfl) ⟨tv, tv⟩ ?_
 refine swp_seq (swp_seq ?_)
 refine sR (kt := [0, 1, 5]) (kh := []) (q := True /\ True) (st' := ASt.mk [(0, aInts l), (1, iv n), (5, iv 0)] [] 16) (by kernel_rfl) ⟨tv, tv⟩ ?_
 refine swp_block ?_
 refine swp_loopA (Hint.ann (h51 l n) [(0, aInts l), (1, iv n)] [] 10016) (ent_q hE [] [] [0, 1] [] (((aInts l = aInts l /\ true = true) /\ (iv n = iv n /\ true = true) /\ (iv 0 = iv (↑0 : Int) /\ nilN = []) /\ True) /\ True /\ T2) (by kernel_rfl) (by kernel_rfl) ⟨⟨⟨rfl, rfl⟩, ⟨rfl, rfl⟩, ⟨(congrArg iv (o0 hp)), rfl⟩, tv⟩, tv, rfl, rfl⟩) (o1 hp) (fun (x0 : Nat) hx0 => ?_)
 refine swp_seq (swp_seq ?_)
 refine sR (kt := [0, 1, 5, 9]) (kh := []) (q := True /\ True /\ True /\ True /\ True) (st' := ASt.mk [(0, aInts l), (1, iv n), (5, iv (x0 : Int)), (9, bv (decide ((x0 : Int) < (↑(l.length) : Int))))] [] 10048) (by kernel_rfl) ⟨tv, tv, tv, tv, tv⟩ ?_
 refine swp_cond (decide ((x0 : Int) < (↑(l.length) : Int))) (by kernel_rfl) (fun h1 => ?_) (fun h1 => ?_)
 ·refine swp_skip (swp_seq (swp_block (swp_seq ?_)))
  refine sR (kt := [0, 1, 5, 17]) (kh := []) (q := True /\ True /\ (0 <= (x0 : Int) /\ (x0 : Int) < (↑(l.length) : Int)) /\ True /\ True /\ True /\ True) (st' := ASt.mk [(0, aInts l), (1, iv n), (5, iv (x0 : Int)), (17, bv (decide (l.getD x0 0 = n)))] [] 10096) (by kernel_rfl) ⟨tv, tv, ⟨(o2 hp x0 hx0 h1), (o3 hp x0 hx0 h1)⟩, tv, tv, tv, tv⟩ ?_
  refine swp_cond (decide (l.getD x0 0 = n)) (by kernel_rfl) (fun h2 => ?_) (fun h2 => ?_)
  ·refine swp_seq ?_
   refine sR (kt := [4]) (kh := []) (q := True /\ True) (st' := ASt.mk [(4, bv true)] [] 10104) (by kernel_rfl) ⟨tv, tv⟩ ?_
   refine swp_ret ?_
   exact ret_q [] ((True /\ True) /\ (bv true = bv (isIn l n) /\ nilN = []) /\ T3) (by kernel_rfl) ⟨⟨tv, tv⟩, ⟨(congrArg bv (o4 hp x0 hx0 h1 h2)), rfl⟩, rfl, rfl, rfl⟩
  ·refine swp_skip ?_
   refine sR (kt := [0, 1, 5]) (kh := []) (q := True /\ inI ((x0 : Int) + 1) /\ True /\ True) (st' := ASt.mk [(0, aInts l), (1, iv n), (5, iv ((x0 : Int) + 1))] [] 10120) (by kernel_rfl) ⟨tv, (o5 hp x0 hx0 h1 h2), tv, tv⟩ ?_
   exact loop_next (Hint.ann (h51 l n) [(0, aInts l), (1, iv n)] [] 10016) x0 (ent_q hE [] [] [0, 1] [] (((aInts l = aInts l /\ true = true) /\ (iv n = iv n /\ true = true) /\ (iv ((x0 : Int) + 1) = iv (↑(x0 + 1) : Int) /\ nilN = []) /\ True) /\ True /\ T2) (by kernel_rfl) (by kernel_rfl) ⟨⟨⟨rfl, rfl⟩, ⟨rfl, rfl⟩, ⟨(congrArg iv (o6 hp x0 hx0 h1 h2)), rfl⟩, tv⟩, tv, rfl, rfl⟩) (o7 hp x0 hx0 h1 h2) (o8 hp x0 hx0 h1 h2)
 ·refine swp_exit (swp_seq ?_)
  refine sR (kt := [4]) (kh := []) (q := True /\ True) (st' := ASt.mk [(4, bv false)] [] 10056) (by kernel_rfl) ⟨tv, tv⟩ ?_
  refine swp_ret ?_
  exact ret_q [] ((True /\ True) /\ (bv false = bv (isIn l n) /\ nilN = []) /\ T3) (by kernel_rfl) ⟨⟨tv, tv⟩, ⟨(congrArg bv (o9 hp x0 hx0 h1)), rfl⟩, rfl, rfl, rfl⟩
theorem t51 (l : List Int) (n : Int) : Triple Try.prog 51 (s51 l n) := by
 apply w51
 case o1 => intro _; exact ⟨Nat.zero_le _, rfl⟩
 case o4 =>
  intro hp x hx h h2
  simp only [decide_eq_true_eq] at h
  exact (some_any l 0 _ (by omega) h2).symm
 case o7 =>
  intro hp x hx h h2
  simp only [decide_eq_true_eq] at h
  refine ⟨by omega, ?_⟩
  rw [take_succ l 0 (by omega)]
  have h3 := hx.2
  unfold isIn at h3 ⊢
  rw [List.any_append, h3]; simpa using h2
 case o9 =>
  intro hp x hx h
  simp only [decide_eq_false_iff_not] at h
  have h3 := hx.2
  rw [List.take_of_length_le (by omega)] at h3
  exact h3.symm
 all_goals (try ((repeat intro _) <;> (try simp only [v0, v1, v2, v3, v4, v5, v6, v7, v8, v9, inI, fits, Go.Sh.small] at *) <;> first | (exact rfl) | omega | exact vz | (simp_all; done) | (simp_all; omega)))
abbrev q37_1 (a : List Int) (b : List Int) (C : Prop) : Prop := a.length <= 1125899906842624 -> (!decide ((↑(a.length) : Int) = (↑(b.length) : Int))) = false -> C
abbrev q37_2 (a : List Int) (b : List Int) (C : Nat -> Prop) : Prop := q37_1 a b (∀ (x1 : Nat), x1 <= a.length /\ List.take x1 a = List.take x1 b -> decide ((x1 : Int) < (↑(a.length) : Int)) = true -> C x1)
abbrev q37_3 (a : List Int) (b : List Int) (C : Nat -> Prop) : Prop := q37_2 a b fun x1 => (!decide (a.getD x1 0 = b.getD x1 0)) = false -> C x1
theorem w37 (a : List Int) (b : List Int)
 (o0 : a.length <= 1125899906842624 -> (!decide ((↑(a.length) : Int) = (↑(b.length) : Int))) -> false = sameInts a b)
 (o1 : q37_1 a b (0 = (↑0 : Int)))
 (o2 : q37_1 a b (0 <= a.length /\ List.take 0 a = List.take 0 b))
 (o3 : q37_2 a b fun x1 => 0 <= (x1 : Int))
 (o4 : q37_2 a b fun x1 => (x1 : Int) < (↑(a.length) : Int))
 (o5 : q37_2 a b fun x1 => 0 <= (x1 : Int))
 (o6 : q37_2 a b fun x1 => (x1 : Int) < (↑(b.length) : Int))
 (o7 : q37_2 a b fun x1 => (!decide (a.getD x1 0 = b.getD x1 0)) -> false = sameInts a b)
 (o8 : q37_3 a b fun x1 => inI ((x1 : Int) + 1))
 (o9 : q37_3 a b fun x1 => (x1 : Int) + 1 = (↑(x1 + 1) : Int))
 (o10 : q37_3 a b fun x1 => x1 + 1 <= a.length /\ List.take (x1 + 1) a = List.take (x1 + 1) b)
 (o11 : q37_3 a b fun x1 => a.length - (x1 + 1) < a.length - x1)
 (o12 : q37_1 a b (∀ (x1 : Nat), x1 <= a.length /\ List.take x1 a = List.take x1 b -> decide ((x1 : Int) < (↑(a.length) : Int)) = false -> true = sameInts a b)) :
  Triple Try.prog 37 (s37 a b) := by
 refine triple_of Try.func37 rfl Try.call37 T0_ok _ rfl rfl rfl rfl (Nat.le_of_ble_eq_true (by kernel_rfl)) (fun _ _ _ _ h => h) ?_
 intro hp C hC _ hE
 obtain ⟨P, w0, E0, av, hA⟩ := C
 subst hC
 refine swp_seq ?_
 refine sR (kt := [0, 1]) (kh := []) (q := True /\ True) (st' := ASt.mk [(0, aInts a), (1, aInts b)] [] 8) (by kernel_rfl) ⟨tv, tv⟩ ?_
 refine swp_seq (swp_seq ?_)
 refine sR (kt := [0, 1, 10]) (kh := []) (q := True /\ True /\ True /\ True /\ True /\ True) (st' := ASt.mk [(0, aInts a), (1, aInts b), (10, bv !decide ((↑(a.length) : Int) = (↑(b.length) : Int)))] [] 48) (by kernel_rfl) ⟨tv, tv, tv, tv, tv, tv⟩ ?_
 refine swp_cond (!decide ((↑(a.length) : Int) = (↑(b.length) : Int))) (by kernel_rfl) (fun h0 => ?_) (fun h0 => ?_)
 ·refine swp_seq ?_
  refine sR (kt := [4]) (kh := []) (q := True /\ True) (st' := ASt.mk [(4, bv false)] [] 56) (by kernel_rfl) ⟨tv, tv⟩ ?_
  refine swp_ret ?_
  exact ret_q [] ((True /\ True) /\ (bv false = bv (sameInts a b) /\ nilN = []) /\ T3) (by kernel_rfl) ⟨⟨tv, tv⟩, ⟨(congrArg bv (o0 hp h0)), rfl⟩, rfl, rfl, rfl⟩
 ·refine swp_skip (swp_seq (swp_seq ?_))
  refine sR (kt := [0, 1, 5]) (kh := []) (q := True /\ True) (st' := ASt.mk [(0, aInts a), (1, aInts b), (5, iv 0)] [] 56) (by kernel_rfl) ⟨tv, tv⟩ ?_
  refine swp_block ?_
  refine swp_loopA (Hint.ann (h37 a b) [(0, aInts a), (1, aInts b)] [] 10056) (ent_q hE [] [] [0, 1] [] (((aInts a = aInts a /\ true = true) /\ (aInts b = aInts b /\ true = true) /\ (iv 0 = iv (↑0 : Int) /\ nilN = []) /\ True) /\ True /\ T2) (by kernel_rfl) (by kernel_rfl) ⟨⟨⟨rfl, rfl⟩, ⟨rfl, rfl⟩, ⟨(congrArg iv (o1 hp h0)), rfl⟩, tv⟩, tv, rfl, rfl⟩) (o2 hp h0) (fun (x1 : Nat) hx1 => ?_)
  refine swp_seq (swp_seq ?_)
  refine sR (kt := [0, 1, 5, 14]) (kh := []) (q := True /\ True /\ True /\ True /\ True) (st' := ASt.mk [(0, aInts a), (1, aInts b), (5, iv (x1 : Int)), (14, bv (decide ((x1 : Int) < (↑(a.length) : Int))))] [] 10088) (by kernel_rfl) ⟨tv, tv, tv, tv, tv⟩ ?_
  refine swp_cond (decide ((x1 : Int) < (↑(a.length) : Int))) (by kernel_rfl) (fun h2 => ?_) (fun h2 => ?_)
  ·refine swp_skip (swp_seq (swp_block (swp_seq ?_)))
   refine sR (kt := [0, 1, 5, 25]) (kh := []) (q := True /\ True /\ (0 <= (x1 : Int) /\ (x1 : Int) < (↑(a.length) : Int)) /\ True /\ True /\ True /\ (0 <= (x1 : Int) /\ (x1 : Int) < (↑(b.length) : Int)) /\ True /\ True /\ True) (st' := ASt.mk [(0, aInts a), (1, aInts b), (5, iv (x1 : Int)), (25, bv !decide (a.getD x1 0 = b.getD x1 0))] [] 10160) (by kernel_rfl) ⟨tv, tv, ⟨(o3 hp h0 x1 hx1 h2), (o4 hp h0 x1 hx1 h2)⟩, tv, tv, tv, ⟨(o5 hp h0 x1 hx1 h2), (o6 hp h0 x1 hx1 h2)⟩, tv, tv, tv⟩ ?_
   refine swp_cond (!decide (a.getD x1 0 = b.getD x1 0)) (by kernel_rfl) (fun h3 => ?_) (fun h3 => ?_)
   ·refine swp_seq ?_
    refine sR (kt := [4]) (kh := []) (q := True /\ True) (st' := ASt.mk [(4, bv false)] [] 10168) (by kernel_rfl) ⟨tv, tv⟩ ?_
    refine swp_ret ?_
    exact ret_q [] ((True /\ True) /\ (bv false = bv (sameInts a b) /\ nilN = []) /\ T3) (by kernel_rfl) ⟨⟨tv, tv⟩, ⟨(congrArg bv (o7 hp h0 x1 hx1 h2 h3)), rfl⟩, rfl, rfl, rfl⟩
   ·refine swp_skip ?_
    refine sR (kt := [0, 1, 5]) (kh := []) (q := True /\ inI ((x1 : Int) + 1) /\ True /\ True) (st' := ASt.mk [(0, aInts a), (1, aInts b), (5, iv ((x1 : Int) + 1))] [] 10184) (by kernel_rfl) ⟨tv, (o8 hp h0 x1 hx1 h2 h3), tv, tv⟩ ?_
    exact loop_next (Hint.ann (h37 a b) [(0, aInts a), (1, aInts b)] [] 10056) x1 (ent_q hE [] [] [0, 1] [] (((aInts a = aInts a /\ true = true) /\ (aInts b = aInts b /\ true = true) /\ (iv ((x1 : Int) + 1) = iv (↑(x1 + 1) : Int) /\ nilN = []) /\ True) /\ True /\ T2) (by kernel_rfl) (by kernel_rfl) ⟨⟨⟨rfl, rfl⟩, ⟨rfl, rfl⟩, ⟨(congrArg iv (o9 hp h0 x1 hx1 h2 h3)), rfl⟩, tv⟩, tv, rfl, rfl⟩) (o10 hp h0 x1 hx1 h2 h3) (o11 hp h0 x1 hx1 h2 h3)
  ·refine swp_exit (swp_seq ?_)
   refine sR (kt := [4]) (kh := []) (q := True /\ True) (st' := ASt.mk [(4, bv true)] [] 10096) (by kernel_rfl) ⟨tv, tv⟩ ?_
   refine swp_ret ?_
   exact ret_q [] ((True /\ True) /\ (bv true = bv (sameInts a b) /\ nilN = []) /\ T3) (by kernel_rfl) ⟨⟨tv, tv⟩, ⟨(congrArg bv (o12 hp h0 x1 hx1 h2)), rfl⟩, rfl, rfl, rfl⟩
theorem t37 (a b : List Int) : Triple Try.prog 37 (s37 a b) := by
 apply w37
 case o0 =>
  intro hp h
  simp only [Bool.not_eq_true', decide_eq_false_iff_not] at h
  symm
  simp only [sameInts, decide_eq_false_iff_not]
  intro e; rw [e] at h; exact h rfl
 case o6 => intro hp h x hx hl; simp only [Bool.not_eq_false', decide_eq_true_eq] at *; omega
 case o7 =>
  intro hp h x hx hl h2
  simp only [Bool.not_eq_true', decide_eq_false_iff_not] at h2
  symm
  simp only [sameInts, decide_eq_false_iff_not]
  intro e; rw [e] at h2; exact h2 rfl
 case o10 =>
  intro hp h x hx hl h2
  simp only [Bool.not_eq_false', decide_eq_true_eq] at *
  refine ⟨by omega, ?_⟩
  rw [take_succ a 0 (by omega), take_succ b 0 (by omega), hx.2, h2]
 case o12 =>
  intro hp h x hx hl
  simp only [Bool.not_eq_false', decide_eq_true_eq, decide_eq_false_iff_not] at *
  symm
  simp only [sameInts, decide_eq_true_eq]
  have h1 := hx.2
  rwa [List.take_of_length_le (by omega), List.take_of_length_le (by omega)] at h1
 all_goals (try ((repeat intro _) <;> (try simp only [v0, v1, v2, v3, v4, v5, v6, v7, v8, v9, inI, fits, Go.Sh.small] at *) <;> first | (exact rfl) | omega | exact vz | (simp_all; done) | (simp_all; omega)))
abbrev q52_1 (l : List Int) (lo : Int) (hi : Int) (C : Nat -> Prop) : Prop := l.length <= 1125899906842624 -> ∀ (x0 : Nat), (x0 <= l.length /\ ∀ (j : Nat), j < x0 -> risAt l lo hi j = true) -> C x0
abbrev q52_2 (l : List Int) (lo : Int) (hi : Int) (C : Nat -> Prop) : Prop := q52_1 l lo hi fun x0 => decide ((x0 : Int) < (↑(l.length) : Int)) = true -> C x0
abbrev q52_3 (l : List Int) (lo : Int) (hi : Int) (C : Nat -> Prop) : Prop := q52_2 l lo hi fun x0 => (!!within (l.getD x0 0) lo hi && decide (0 < (x0 : Int))) = true -> C x0
abbrev q52_4 (l : List Int) (lo : Int) (hi : Int) (C : Nat -> Prop) : Prop := q52_2 l lo hi fun x0 => (bif !within (l.getD x0 0) lo hi then true else bif decide (0 < (x0 : Int)) then decide (l.getD x0 0 <= l.getD ((x0 : Int) - 1).toNat 0) else false) = false -> C x0
theorem w52 (l : List Int) (lo : Int) (hi : Int)
 (o0 : List.length l <= 1125899906842624 -> 0 = (↑0 : Int))
 (o1 : l.length <= 1125899906842624 -> 0 <= l.length /\ ∀ (j : Nat), j < 0 -> risAt l lo hi j = true)
 (o2 : q52_2 l lo hi fun x0 => 0 <= (x0 : Int))
 (o3 : q52_2 l lo hi fun x0 => (x0 : Int) < (↑(l.length) : Int))
 (o4 : q52_3 l lo hi fun x0 => 0 <= (x0 : Int))
 (o5 : q52_3 l lo hi fun x0 => (x0 : Int) < (↑(l.length) : Int))
 (o6 : q52_3 l lo hi fun x0 => inI ((x0 : Int) - 1))
 (o7 : q52_3 l lo hi fun x0 => 0 <= (x0 : Int) - 1)
 (o8 : q52_3 l lo hi fun x0 => (x0 : Int) - 1 < (↑(l.length) : Int))
 (o9 : q52_2 l lo hi fun x0 => (!!within (l.getD x0 0) lo hi) = true -> decide (0 < (x0 : Int)) = true -> (!!within (l.getD x0 0) lo hi && decide (0 < (x0 : Int))) = true)
 (o10 : q52_2 l lo hi fun x0 => (!within (l.getD x0 0) lo hi) = false -> (!!within (l.getD x0 0) lo hi) = true)
 (o11 : q52_2 l lo hi fun x0 => (bif !within (l.getD x0 0) lo hi then true else bif decide (0 < (x0 : Int)) then decide (l.getD x0 0 <= l.getD ((x0 : Int) - 1).toNat 0) else false) = true -> false = rising l lo hi)
 (o12 : q52_4 l lo hi fun x0 => inI ((x0 : Int) + 1))
 (o13 : q52_4 l lo hi fun x0 => (x0 : Int) + 1 = (↑(x0 + 1) : Int))
 (o14 : q52_4 l lo hi fun x0 => x0 + 1 <= l.length /\ ∀ (j : Nat), j < x0 + 1 -> risAt l lo hi j = true)
 (o15 : q52_4 l lo hi fun x0 => l.length - (x0 + 1) < l.length - x0)
 (o16 : q52_1 l lo hi fun x0 => decide ((x0 : Int) < (↑(l.length) : Int)) = false -> true = rising l lo hi) :
  Triple Try.prog 52 (s52 l lo hi) := by
 refine triple_of Try.func52 rfl Try.call52 T0_ok _ rfl rfl rfl rfl (Nat.le_of_ble_eq_true (by kernel_rfl)) (fun _ _ _ _ h => h) ?_
 intro hp C hC _ hE
 obtain ⟨P, w0, E0, av, hA⟩ := C
 subst hC
 refine swp_seq ?_
 refine sR (kt := [0, 1, 2]) (kh := []) (q := True /\ True) (st' := ASt.mk [(0, aInts l), (1, iv lo), (2, iv hi)] [] 8) (by kernel_rfl) ⟨tv, tv⟩ ?_
 refine swp_seq (swp_seq ?_)
 refine sR (kt := [0, 1, 2, 7]) (kh := []) (q := True /\ True) (st' := ASt.mk [(0, aInts l), (1, iv lo), (2, iv hi), (7, iv 0)] [] 16) (by kernel_rfl) ⟨tv, tv⟩ ?_
 refine swp_block ?_
 refine swp_loopA (Hint.ann (h52 l lo hi) [(0, aInts l), (1, iv lo), (2, iv hi)] [] 10016) (ent_q hE [] [] [0, 1, 2] [] (((aInts l = aInts l /\ true = true) /\ (iv lo = iv lo /\ true = true) /\ (iv hi = iv hi /\ true = true) /\ (iv 0 = iv (↑0 : Int) /\ nilN = []) /\ True) /\ True /\ T2) (by kernel_rfl) (by kernel_rfl) ⟨⟨⟨rfl, rfl⟩, ⟨rfl, rfl⟩, ⟨rfl, rfl⟩, ⟨(congrArg iv (o0 hp)), rfl⟩, tv⟩, tv, rfl, rfl⟩) (o1 hp) (fun (x0 : Nat) hx0 => ?_)
 refine swp_seq (swp_seq ?_)
 refine sR (kt := [0, 1, 2, 7, 11]) (kh := []) (q := True /\ True /\ True /\ True /\ True) (st' := ASt.mk [(0, aInts l), (1, iv lo), (2, iv hi), (7, iv (x0 : Int)), (11, bv (decide ((x0 : Int) < (↑(l.length) : Int))))] [] 10048) (by kernel_rfl) ⟨tv, tv, tv, tv, tv⟩ ?_
 refine swp_cond (decide ((x0 : Int) < (↑(l.length) : Int))) (by kernel_rfl) (fun h1 => ?_) (fun h1 => ?_)
 ·refine swp_skip (swp_seq (swp_block (swp_seq ?_)))
  refine swp_region T0_ok mixed (cs := [(6, CallSpec.eq (s24 (l.getD x0 0) lo hi) [true, true, true])]) (kt := [0, 1, 2, 7, 37]) (kh := []) (q := True /\ True /\ (0 <= (x0 : Int) /\ (x0 : Int) < (↑(l.length) : Int)) /\ True /\ True /\ True /\ ((iv (l.getD x0 0) = iv (l.getD x0 0) /\ iv lo = iv lo /\ iv hi = iv hi /\ True) /\ Triple Try.prog 24 (s24 (l.getD x0 0) lo hi) /\ True /\ True /\ ∀ (i2 : Env), True) /\ True /\ True /\ ((!!within (l.getD x0 0) lo hi) = true -> (True /\ True) /\ True) /\ ((!!within (l.getD x0 0) lo hi) = true -> (((!!within (l.getD x0 0) lo hi) = true -> (!!within (l.getD x0 0) lo hi) = true) /\ True /\ True) /\ True) /\ ((!!within (l.getD x0 0) lo hi) = true -> (((!!within (l.getD x0 0) lo hi) = true -> (!!within (l.getD x0 0) lo hi) = true) /\ True) /\ True) /\ ((!!within (l.getD x0 0) lo hi && decide (0 < (x0 : Int))) = true -> (True /\ True) /\ True) /\ ((!!within (l.getD x0 0) lo hi && decide (0 < (x0 : Int))) = true -> (True /\ True) /\ True) /\ ((!!within (l.getD x0 0) lo hi && decide (0 < (x0 : Int))) = true -> (((!!within (l.getD x0 0) lo hi && decide (0 < (x0 : Int))) = true -> (!!within (l.getD x0 0) lo hi && decide (0 < (x0 : Int))) = true) /\ ((!!within (l.getD x0 0) lo hi && decide (0 < (x0 : Int))) = true -> (!!within (l.getD x0 0) lo hi && decide (0 < (x0 : Int))) = true) /\ True) /\ 0 <= (x0 : Int) /\ (x0 : Int) < (↑(l.length) : Int)) /\ ((!!within (l.getD x0 0) lo hi && decide (0 < (x0 : Int))) = true -> (((!!within (l.getD x0 0) lo hi && decide (0 < (x0 : Int))) = true -> (!!within (l.getD x0 0) lo hi && decide (0 < (x0 : Int))) = true) /\ True) /\ True) /\ ((!!within (l.getD x0 0) lo hi && decide (0 < (x0 : Int))) = true -> (True /\ True) /\ True) /\ ((!!within (l.getD x0 0) lo hi && decide (0 < (x0 : Int))) = true -> (True /\ True) /\ True) /\ ((!!within (l.getD x0 0) lo hi && decide (0 < (x0 : Int))) = true -> (((!!within (l.getD x0 0) lo hi && decide (0 < (x0 : Int))) = true -> (!!within (l.getD x0 0) lo hi && decide (0 < (x0 : Int))) = true) /\ True /\ True) /\ inI ((x0 : Int) - 1)) /\ ((!!within (l.getD x0 0) lo hi && decide (0 < (x0 : Int))) = true -> (((!!within (l.getD x0 0) lo hi && decide (0 < (x0 : Int))) = true -> (!!within (l.getD x0 0) lo hi && decide (0 < (x0 : Int))) = true) /\ ((!!within (l.getD x0 0) lo hi && decide (0 < (x0 : Int))) = true -> (!!within (l.getD x0 0) lo hi && decide (0 < (x0 : Int))) = true) /\ True) /\ 0 <= (x0 : Int) - 1 /\ (x0 : Int) - 1 < (↑(l.length) : Int)) /\ ((!!within (l.getD x0 0) lo hi && decide (0 < (x0 : Int))) = true -> (((!!within (l.getD x0 0) lo hi && decide (0 < (x0 : Int))) = true -> (!!within (l.getD x0 0) lo hi && decide (0 < (x0 : Int))) = true) /\ True) /\ True) /\ ((!!within (l.getD x0 0) lo hi && decide (0 < (x0 : Int))) = true -> (((!!within (l.getD x0 0) lo hi && decide (0 < (x0 : Int))) = true -> (!!within (l.getD x0 0) lo hi && decide (0 < (x0 : Int))) = true) /\ ((!!within (l.getD x0 0) lo hi && decide (0 < (x0 : Int))) = true -> (!!within (l.getD x0 0) lo hi && decide (0 < (x0 : Int))) = true) /\ True) /\ True) /\ ((!!within (l.getD x0 0) lo hi) = true -> (((!!within (l.getD x0 0) lo hi) = true -> (!!within (l.getD x0 0) lo hi) = true) /\ True) /\ (decide (0 < (x0 : Int)) = true -> (!!within (l.getD x0 0) lo hi && decide (0 < (x0 : Int))) = true) /\ (decide (0 < (x0 : Int)) = false -> True)) /\ (((!within (l.getD x0 0) lo hi) = true -> True) /\ ((!within (l.getD x0 0) lo hi) = false -> (!!within (l.getD x0 0) lo hi) = true)) /\ True) (st' := ASt.mk [(0, aInts l), (1, iv lo), (2, iv hi), (7, iv (x0 : Int)), (37, bv (bif !within (l.getD x0 0) lo hi then true else bif decide (0 < (x0 : Int)) then decide (l.getD x0 0 <= l.getD ((x0 : Int) - 1).toNat 0) else false))] [] 10240) (by kernel_rfl) ⟨tv, tv, ⟨(o2 hp x0 hx0 h1), (o3 hp x0 hx0 h1)⟩, tv, tv, tv, ⟨⟨rfl, rfl, rfl, tv⟩, (t24 (l.getD x0 0) (lo) (hi)), tv, tv, (fun i2 => tv)⟩, tv, tv, (fun h3 => ⟨⟨tv, tv⟩, tv⟩), (fun h4 => ⟨⟨(fun h5 => h4), tv, tv⟩, tv⟩), (fun h6 => ⟨⟨(fun h7 => h6), tv⟩, tv⟩), (fun h8 => ⟨⟨tv, tv⟩, tv⟩), (fun h9 => ⟨⟨tv, tv⟩, tv⟩), (fun h10 => ⟨⟨(fun h11 => h10), (fun h12 => h10), tv⟩, (o4 hp x0 hx0 h1 h10), (o5 hp x0 hx0 h1 h10)⟩), (fun h13 => ⟨⟨(fun h14 => h13), tv⟩, tv⟩), (fun h15 => ⟨⟨tv, tv⟩, tv⟩), (fun h16 => ⟨⟨tv, tv⟩, tv⟩), (fun h17 => ⟨⟨(fun h18 => h17), tv, tv⟩, (o6 hp x0 hx0 h1 h17)⟩), (fun h19 => ⟨⟨(fun h20 => h19), (fun h21 => h19), tv⟩, (o7 hp x0 hx0 h1 h19), (o8 hp x0 hx0 h1 h19)⟩), (fun h22 => ⟨⟨(fun h23 => h22), tv⟩, tv⟩), (fun h24 => ⟨⟨(fun h25 => h24), (fun h26 => h24), tv⟩, tv⟩), (fun h27 => ⟨⟨(fun h28 => h27), tv⟩, (fun h29 => (o9 hp x0 hx0 h1 h27 h29)), (fun h30 => tv)⟩), ⟨(fun h31 => tv), (fun h32 => (o10 hp x0 hx0 h1 h32))⟩, tv⟩ ?_
  refine swp_cond (bif !within (l.getD x0 0) lo hi then true else bif decide (0 < (x0 : Int)) then decide (l.getD x0 0 <= l.getD ((x0 : Int) - 1).toNat 0) else false) (by kernel_rfl) (fun h33 => ?_) (fun h33 => ?_)
  ·refine swp_seq ?_
   refine sR (kt := [6]) (kh := []) (q := True /\ True) (st' := ASt.mk [(6, bv false)] [] 10248) (by kernel_rfl) ⟨tv, tv⟩ ?_
   refine swp_ret ?_
   exact ret_q [] ((True /\ True) /\ (bv false = bv (rising l lo hi) /\ nilN = []) /\ T3) (by kernel_rfl) ⟨⟨tv, tv⟩, ⟨(congrArg bv (o11 hp x0 hx0 h1 h33)), rfl⟩, rfl, rfl, rfl⟩
  ·refine swp_skip ?_
   refine sR (kt := [0, 1, 2, 7]) (kh := []) (q := True /\ inI ((x0 : Int) + 1) /\ True /\ True) (st' := ASt.mk [(0, aInts l), (1, iv lo), (2, iv hi), (7, iv ((x0 : Int) + 1))] [] 10264) (by kernel_rfl) ⟨tv, (o12 hp x0 hx0 h1 h33), tv, tv⟩ ?_
   exact loop_next (Hint.ann (h52 l lo hi) [(0, aInts l), (1, iv lo), (2, iv hi)] [] 10016) x0 (ent_q hE [] [] [0, 1, 2] [] (((aInts l = aInts l /\ true = true) /\ (iv lo = iv lo /\ true = true) /\ (iv hi = iv hi /\ true = true) /\ (iv ((x0 : Int) + 1) = iv (↑(x0 + 1) : Int) /\ nilN = []) /\ True) /\ True /\ T2) (by kernel_rfl) (by kernel_rfl) ⟨⟨⟨rfl, rfl⟩, ⟨rfl, rfl⟩, ⟨rfl, rfl⟩, ⟨(congrArg iv (o13 hp x0 hx0 h1 h33)), rfl⟩, tv⟩, tv, rfl, rfl⟩) (o14 hp x0 hx0 h1 h33) (o15 hp x0 hx0 h1 h33)
 ·refine swp_exit (swp_seq ?_)
  refine sR (kt := [6]) (kh := []) (q := True /\ True) (st' := ASt.mk [(6, bv true)] [] 10056) (by kernel_rfl) ⟨tv, tv⟩ ?_
  refine swp_ret ?_
  exact ret_q [] ((True /\ True) /\ (bv true = bv (rising l lo hi) /\ nilN = []) /\ T3) (by kernel_rfl) ⟨⟨tv, tv⟩, ⟨(congrArg bv (o16 hp x0 hx0 h1)), rfl⟩, rfl, rfl, rfl⟩
theorem t52 (l : List Int) (lo hi : Int) : Triple Try.prog 52 (s52 l lo hi) := by
 apply w52
 case o11 =>
  intro hp x hx h h2
  simp only [decide_eq_true_eq] at h
  symm
  unfold rising
  rw [List.all_eq_false]
  refine ⟨x, List.mem_range.2 (by omega), ?_⟩
  simp only [risAt]
  have e : Int.toNat ((x : Int) - 1) = x - 1 := by omega
  rw [e] at h2
  generalize l.getD x 0 = a at *
  generalize l.getD (x - 1) 0 = b at *
  cases e2 : within a lo hi
  ·simp
  ·simp only [e2, Bool.not_true, cond_false, Bool.cond_false_right, Bool.and_eq_true, decide_eq_true_eq] at h2
   have h3 : (x : Int) > 0 := h2.1
   simp [h2.2]; omega
 case o14 =>
  intro hp x hx h h2
  simp only [decide_eq_true_eq] at h
  refine ⟨by omega, lt_succ_cases hx.2 ?_⟩
  simp only [risAt]
  have e : Int.toNat ((x : Int) - 1) = x - 1 := by omega
  rw [e] at h2
  generalize l.getD x 0 = a at *
  generalize l.getD (x - 1) 0 = b at *
  cases e2 : within a lo hi
  ·simp [e2] at h2
  ·simp only [e2, Bool.not_true, cond_false, Bool.cond_false_right, Bool.and_eq_false_imp, decide_eq_true_eq, decide_eq_false_iff_not] at h2
   simp only [Bool.true_and, Bool.or_eq_true, Bool.not_eq_true', decide_eq_false_iff_not]
   by_cases e : (x : Int) > 0
   ·exact .inr (h2 (by omega))
   ·exact .inl e
 case o16 =>
  intro hp x hx h
  simp only [decide_eq_false_iff_not] at h
  symm
  unfold rising
  rw [List.all_eq_true]
  intro j hj
  exact hx.2 j (by have := List.mem_range.1 hj; omega)
 all_goals (try ((repeat intro _) <;> (try simp only [v0, v1, v2, v3, v4, v5, v6, v7, v8, v9, inI, fits, Go.Sh.small] at *) <;> first | (exact rfl) | omega | exact vz | (simp_all; done) | (simp_all; omega)))
theorem w105 (s : Span) (most : Int)
  (o0 : (bif within s.hi 0 most then within s.lo 0 s.hi else false) = isSpan s most) :
  Triple Try.prog 105 (s105 s most) := by
 refine triple_of Try.func105 rfl Try.call105 T0_ok _ rfl rfl rfl rfl (Nat.le_of_ble_eq_true (by kernel_rfl)) (fun _ _ _ _ h => h) ?_
 intro _ C hC _ hE
 obtain ⟨P, w0, E0, av, hA⟩ := C
 subst hC
 refine swp_seq ?_
 refine sR (kt := [1, 2]) (kh := [0]) (q := True /\ True /\ True) (st' := ASt.mk [(1, iv most), (2, .ptr 0 [])] [(0, .cells 37 (cSpan s))] 16) (by kernel_rfl) ⟨tv, tv, tv⟩ ?_
 refine swp_seq ?_
 refine swp_region T0_ok mixed (cs := [(3, CallSpec.eq (s24 s.hi 0 most) [true, true, true]), (9, CallSpec.eq (s24 s.lo 0 s.hi) [true, true, true])]) (kt := [4]) (kh := []) (q := True /\ True /\ True /\ ((iv s.hi = iv s.hi /\ iv 0 = iv 0 /\ iv most = iv most /\ True) /\ Triple Try.prog 24 (s24 s.hi 0 most) /\ True /\ True /\ ∀ (i0 : Env), True) /\ True /\ (within s.hi 0 most = true -> (True /\ True) /\ True) /\ (within s.hi 0 most = true -> ((within s.hi 0 most = true -> within s.hi 0 most = true) /\ True) /\ True) /\ (within s.hi 0 most = true -> (True /\ True) /\ True) /\ (within s.hi 0 most = true -> ((within s.hi 0 most = true -> within s.hi 0 most = true) /\ True) /\ True) /\ (within s.hi 0 most = true -> (True /\ (within s.hi 0 most = true -> within s.hi 0 most = true) /\ True /\ (within s.hi 0 most = true -> within s.hi 0 most = true) /\ True) /\ (iv s.lo = iv s.lo /\ iv 0 = iv 0 /\ iv s.hi = iv s.hi /\ True) /\ Triple Try.prog 24 (s24 s.lo 0 s.hi) /\ True /\ True /\ ∀ (i10 : Env), True) /\ ((within s.hi 0 most = true -> within s.hi 0 most = true) /\ (within s.hi 0 most = false -> True)) /\ True /\ True) (st' := ASt.mk [(4, bv (bif within s.hi 0 most then within s.lo 0 s.hi else false))] [] 112) (by kernel_rfl) ⟨tv, tv, tv, ⟨⟨rfl, rfl, rfl, tv⟩, (t24 s.hi (0) (most)), tv, tv, (fun i0 => tv)⟩, tv, (fun h1 => ⟨⟨tv, tv⟩, tv⟩), (fun h2 => ⟨⟨(fun h3 => h2), tv⟩, tv⟩), (fun h4 => ⟨⟨tv, tv⟩, tv⟩), (fun h5 => ⟨⟨(fun h6 => h5), tv⟩, tv⟩), (fun h7 => ⟨⟨tv, (fun h8 => h7), tv, (fun h9 => h7), tv⟩, ⟨rfl, rfl, rfl, tv⟩, (t24 s.lo (0) s.hi), tv, tv, (fun i10 => tv)⟩), ⟨(fun h11 => h11), (fun h12 => tv)⟩, tv, tv⟩ ?_
 refine swp_ret ?_
 exact ret_q [] ((True /\ True) /\ (bv (bif within s.hi 0 most then within s.lo 0 s.hi else false) = bv (isSpan s most) /\ nilN = []) /\ T3) (by kernel_rfl) ⟨⟨tv, tv⟩, ⟨(congrArg bv (o0)), rfl⟩, rfl, rfl, rfl⟩
theorem t105 (s : Span) (most : Int) : Triple Try.prog 105 (s105 s most) := by
 apply w105
 unfold isSpan; cases within s.hi 0 most <;> rfl
theorem w76 (n : Int) (lo : Int) (hi : Int) :
  Triple Try.prog 76 (s76 n lo hi) := by
 refine triple_of Try.func76 rfl Try.call76 T0_ok _ rfl rfl rfl rfl (Nat.le_of_ble_eq_true (by kernel_rfl)) (fun _ _ _ _ h => h) ?_
 intro _ C hC _ hE
 obtain ⟨P, w0, E0, av, hA⟩ := C
 subst hC
 refine swp_seq ?_
 refine sR (kt := [0, 1, 2]) (kh := []) (q := True /\ True) (st' := ASt.mk [(0, iv n), (1, iv lo), (2, iv hi)] [] 8) (by kernel_rfl) ⟨tv, tv⟩ ?_
 refine swp_seq ?_
 refine swp_region T0_ok mixed (cs := [(3, CallSpec.eq (s24 n lo hi) [true, true, true])]) (kt := [6]) (kh := []) (q := True /\ True /\ True /\ ((iv n = iv n /\ iv lo = iv lo /\ iv hi = iv hi /\ True) /\ Triple Try.prog 24 (s24 n lo hi) /\ True /\ True /\ ∀ (i0 : Env), True) /\ True /\ True) (st' := ASt.mk [(6, bv (within n lo hi))] [] 48) (by kernel_rfl) ⟨tv, tv, tv, ⟨⟨rfl, rfl, rfl, tv⟩, (t24 (n) (lo) (hi)), tv, tv, (fun i0 => tv)⟩, tv, tv⟩ ?_
 refine swp_ret ?_
 exact ret_q [] ((True /\ True) /\ (bv (within n lo hi) = bv (within n lo hi) /\ nilN = []) /\ T3) (by kernel_rfl) ⟨⟨tv, tv⟩, ⟨rfl, rfl⟩, rfl, rfl, rfl⟩
theorem t76 (n lo hi : Int) : Triple Try.prog 76 (s76 n lo hi) := w76 n lo hi
theorem w112 (n : Int) (lo : Int) (hi : Int)
  (o0 : (bif decide (lo <= n) then decide (n <= hi) else false) = within n lo hi) :
  Triple Try.prog 112 (s112 n lo hi) := by
 refine triple_of Try.func112 rfl Try.call112 T0_ok _ rfl rfl rfl rfl (Nat.le_of_ble_eq_true (by kernel_rfl)) (fun _ _ _ _ h => h) ?_
 intro _ C hC _ hE
 obtain ⟨P, w0, E0, av, hA⟩ := C
 subst hC
 refine swp_seq ?_
 refine sR (kt := [0, 1, 2]) (kh := []) (q := True /\ True) (st' := ASt.mk [(0, iv n), (1, iv lo), (2, iv hi)] [] 8) (by kernel_rfl) ⟨tv, tv⟩ ?_
 refine swp_seq ?_
 refine sR (kt := [6]) (kh := []) (q := True /\ True /\ True /\ True /\ (decide (lo <= n) = true -> (True /\ True) /\ True) /\ (decide (lo <= n) = true -> (True /\ True) /\ True) /\ (decide (lo <= n) = true -> ((decide (lo <= n) = true -> decide (lo <= n) = true) /\ (decide (lo <= n) = true -> decide (lo <= n) = true) /\ True) /\ True) /\ ((decide (lo <= n) = true -> decide (lo <= n) = true) /\ (decide (lo <= n) = false -> True)) /\ True /\ True) (st' := ASt.mk [(6, bv (bif decide (lo <= n) then decide (n <= hi) else false))] [] 80) (by kernel_rfl) ⟨tv, tv, tv, tv, (fun h0 => ⟨⟨tv, tv⟩, tv⟩), (fun h1 => ⟨⟨tv, tv⟩, tv⟩), (fun h2 => ⟨⟨(fun h3 => h2), (fun h4 => h2), tv⟩, tv⟩), ⟨(fun h5 => h5), (fun h6 => tv)⟩, tv, tv⟩ ?_
 refine swp_ret ?_
 exact ret_q [] ((True /\ True) /\ (bv (bif decide (lo <= n) then decide (n <= hi) else false) = bv (within n lo hi) /\ nilN = []) /\ T3) (by kernel_rfl) ⟨⟨tv, tv⟩, ⟨(congrArg bv (o0)), rfl⟩, rfl, rfl, rfl⟩
theorem t112 (n lo hi : Int) : Triple Try.prog 112 (s112 n lo hi) := by
 refine w112 n lo hi ?_
 unfold within; cases decide (lo <= n) <;> rfl
theorem w18 (r : Run) (n : Int)
  (o0 : fits r -> inI ((↑(r.machines.length) : Int) - 1))
  (o1 : fits r -> within n 0 ((↑(r.machines.length) : Int) - 1) = isMachine r n) :
  Triple Try.prog 18 (s18 r n) := by
 refine triple_of Try.func18 rfl Try.call18 T0_ok _ rfl rfl rfl rfl (Nat.le_of_ble_eq_true (by kernel_rfl)) (fun _ _ _ _ h => h) ?_
 intro hp C hC _ hE
 obtain ⟨P, w0, E0, av, hA⟩ := C
 subst hC
 refine swp_seq ?_
 refine sR (kt := [1, 2]) (kh := [0]) (q := True /\ True /\ True) (st' := ASt.mk [(1, iv n), (2, .ptr 0 [])] [(0, .cells 25 (cRun r))] 16) (by kernel_rfl) ⟨tv, tv, tv⟩ ?_
 refine swp_seq ?_
 refine swp_region T0_ok mixed (cs := [(5, CallSpec.eq (s76 n 0 ((↑(r.machines.length) : Int) - 1)) [true, true, true])]) (kt := [4]) (kh := []) (q := True /\ True /\ True /\ True /\ inI ((↑(r.machines.length) : Int) - 1) /\ ((iv n = iv n /\ iv 0 = iv 0 /\ iv ((↑(r.machines.length) : Int) - 1) = iv ((↑(r.machines.length) : Int) - 1) /\ True) /\ Triple Try.prog 76 (s76 n 0 ((↑(r.machines.length) : Int) - 1)) /\ True /\ True /\ ∀ (i0 : Env), True) /\ True /\ True) (st' := ASt.mk [(4, bv (within n 0 ((↑(r.machines.length) : Int) - 1)))] [] 72) (by kernel_rfl) ⟨tv, tv, tv, tv, (o0 hp), ⟨⟨rfl, rfl, rfl, tv⟩, (t76 (n) (0) ((↑(r.machines.length) : Int) - 1)), tv, tv, (fun i0 => tv)⟩, tv, tv⟩ ?_
 refine swp_ret ?_
 exact ret_q [] ((True /\ True) /\ (bv (within n 0 ((↑(r.machines.length) : Int) - 1)) = bv (isMachine r n) /\ nilN = []) /\ T3) (by kernel_rfl) ⟨⟨tv, tv⟩, ⟨(congrArg bv (o1 hp)), rfl⟩, rfl, rfl, rfl⟩
theorem t18 (r : Run) (n : Int) : Triple Try.prog 18 (s18 r n) := by
 apply w18
 all_goals (try ((repeat intro _) <;> (try simp only [v0, v1, v2, v3, v4, v5, v6, v7, v8, v9, inI, fits, Go.Sh.small] at *) <;> first | (exact rfl) | omega | exact vz | (simp_all; done) | (simp_all; omega)))
theorem w25 (r : Run) (n : Int)
  (o0 : fits r -> within n 0 (wr (r.plates - 1)) = isPlate r n) :
  Triple Try.prog 25 (s25 r n) := by
 refine triple_of Try.func25 rfl Try.call25 T0_ok _ rfl rfl rfl rfl (Nat.le_of_ble_eq_true (by kernel_rfl)) (fun _ _ _ _ h => h) ?_
 intro hp C hC _ hE
 obtain ⟨P, w0, E0, av, hA⟩ := C
 subst hC
 refine swp_seq ?_
 refine sR (kt := [1, 2]) (kh := [0]) (q := True /\ True /\ True) (st' := ASt.mk [(1, iv n), (2, .ptr 0 [])] [(0, .cells 25 (cRun r))] 16) (by kernel_rfl) ⟨tv, tv, tv⟩ ?_
 refine swp_seq ?_
 refine swp_region T0_ok mixed (cs := [(3, wrapS), (4, CallSpec.eq (s76 n 0 (wr (r.plates - 1))) [true, true, true])]) (kt := [4]) (kh := []) (q := True /\ True /\ True /\ True /\ ((iv n = iv n /\ iv 0 = iv 0 /\ iv (wr (r.plates - 1)) = iv (wr (r.plates - 1)) /\ True) /\ Triple Try.prog 76 (s76 n 0 (wr (r.plates - 1))) /\ True /\ True /\ ∀ (i0 : Env), True) /\ True /\ True) (st' := ASt.mk [(4, bv (within n 0 (wr (r.plates - 1))))] [] 64) (by kernel_rfl) ⟨tv, tv, tv, tv, ⟨⟨rfl, rfl, rfl, tv⟩, (t76 (n) (0) (wr (r.plates - 1))), tv, tv, (fun i0 => tv)⟩, tv, tv⟩ ?_
 refine swp_ret ?_
 exact ret_q [] ((True /\ True) /\ (bv (within n 0 (wr (r.plates - 1))) = bv (isPlate r n) /\ nilN = []) /\ T3) (by kernel_rfl) ⟨⟨tv, tv⟩, ⟨(congrArg bv (o0 hp)), rfl⟩, rfl, rfl, rfl⟩
theorem t25 (r : Run) (n : Int) : Triple Try.prog 25 (s25 r n) := by
 apply w25
 all_goals (try ((repeat intro _) <;> (try simp only [v0, v1, v2, v3, v4, v5, v6, v7, v8, v9, inI, fits, Go.Sh.small] at *) <;> first | (exact rfl) | omega | exact vz | (simp_all; done) | (simp_all; omega)))
theorem w45 (r : Run) (n : Int)
  (o0 : fits r -> inI ((↑(r.found.length) : Int) - 1))
  (o1 : fits r -> within n 0 ((↑(r.found.length) : Int) - 1) = isFound r n) :
  Triple Try.prog 45 (s45 r n) := by
 refine triple_of Try.func45 rfl Try.call45 T0_ok _ rfl rfl rfl rfl (Nat.le_of_ble_eq_true (by kernel_rfl)) (fun _ _ _ _ h => h) ?_
 intro hp C hC _ hE
 obtain ⟨P, w0, E0, av, hA⟩ := C
 subst hC
 refine swp_seq ?_
 refine sR (kt := [1, 2]) (kh := [0]) (q := True /\ True /\ True) (st' := ASt.mk [(1, iv n), (2, .ptr 0 [])] [(0, .cells 25 (cRun r))] 16) (by kernel_rfl) ⟨tv, tv, tv⟩ ?_
 refine swp_seq ?_
 refine swp_region T0_ok mixed (cs := [(5, CallSpec.eq (s76 n 0 ((↑(r.found.length) : Int) - 1)) [true, true, true])]) (kt := [4]) (kh := []) (q := True /\ True /\ True /\ True /\ inI ((↑(r.found.length) : Int) - 1) /\ ((iv n = iv n /\ iv 0 = iv 0 /\ iv ((↑(r.found.length) : Int) - 1) = iv ((↑(r.found.length) : Int) - 1) /\ True) /\ Triple Try.prog 76 (s76 n 0 ((↑(r.found.length) : Int) - 1)) /\ True /\ True /\ ∀ (i0 : Env), True) /\ True /\ True) (st' := ASt.mk [(4, bv (within n 0 ((↑(r.found.length) : Int) - 1)))] [] 72) (by kernel_rfl) ⟨tv, tv, tv, tv, (o0 hp), ⟨⟨rfl, rfl, rfl, tv⟩, (t76 (n) (0) ((↑(r.found.length) : Int) - 1)), tv, tv, (fun i0 => tv)⟩, tv, tv⟩ ?_
 refine swp_ret ?_
 exact ret_q [] ((True /\ True) /\ (bv (within n 0 ((↑(r.found.length) : Int) - 1)) = bv (isFound r n) /\ nilN = []) /\ T3) (by kernel_rfl) ⟨⟨tv, tv⟩, ⟨(congrArg bv (o1 hp)), rfl⟩, rfl, rfl, rfl⟩
theorem t45 (r : Run) (n : Int) : Triple Try.prog 45 (s45 r n) := by
 apply w45
 all_goals (try ((repeat intro _) <;> (try simp only [v0, v1, v2, v3, v4, v5, v6, v7, v8, v9, inI, fits, Go.Sh.small] at *) <;> first | (exact rfl) | omega | exact vz | (simp_all; done) | (simp_all; omega)))
theorem w79 (r : Run) (n : Int)
  (o0 : fits r -> inI ((↑(r.machines.length) : Int) - 1))
  (o1 : fits r -> within n 0 ((↑(r.machines.length) : Int) - 1) = isMachine r n) :
  Triple Try.prog 79 (s79 r n) := by
 refine triple_of Try.func79 rfl Try.call79 T0_ok _ rfl rfl rfl rfl (Nat.le_of_ble_eq_true (by kernel_rfl)) (fun _ _ _ _ h => h) ?_
 intro hp C hC _ hE
 obtain ⟨P, w0, E0, av, hA⟩ := C
 subst hC
 refine swp_seq ?_
 refine sR (kt := [1, 2]) (kh := [0]) (q := True /\ True /\ True) (st' := ASt.mk [(1, iv n), (2, .ptr 0 [])] [(0, .cells 25 (cRun r))] 16) (by kernel_rfl) ⟨tv, tv, tv⟩ ?_
 refine swp_seq ?_
 refine swp_region T0_ok mixed (cs := [(5, CallSpec.eq (s112 n 0 ((↑(r.machines.length) : Int) - 1)) [true, true, true])]) (kt := [4]) (kh := []) (q := True /\ True /\ True /\ True /\ inI ((↑(r.machines.length) : Int) - 1) /\ ((iv n = iv n /\ iv 0 = iv 0 /\ iv ((↑(r.machines.length) : Int) - 1) = iv ((↑(r.machines.length) : Int) - 1) /\ True) /\ Triple Try.prog 112 (s112 n 0 ((↑(r.machines.length) : Int) - 1)) /\ True /\ True /\ ∀ (i0 : Env), True) /\ True /\ True) (st' := ASt.mk [(4, bv (within n 0 ((↑(r.machines.length) : Int) - 1)))] [] 72) (by kernel_rfl) ⟨tv, tv, tv, tv, (o0 hp), ⟨⟨rfl, rfl, rfl, tv⟩, (t112 (n) (0) ((↑(r.machines.length) : Int) - 1)), tv, tv, (fun i0 => tv)⟩, tv, tv⟩ ?_
 refine swp_ret ?_
 exact ret_q [] ((True /\ True) /\ (bv (within n 0 ((↑(r.machines.length) : Int) - 1)) = bv (isMachine r n) /\ nilN = []) /\ T3) (by kernel_rfl) ⟨⟨tv, tv⟩, ⟨(congrArg bv (o1 hp)), rfl⟩, rfl, rfl, rfl⟩
theorem t79 (r : Run) (n : Int) : Triple Try.prog 79 (s79 r n) := by
 apply w79
 all_goals (try ((repeat intro _) <;> (try simp only [v0, v1, v2, v3, v4, v5, v6, v7, v8, v9, inI, fits, Go.Sh.small] at *) <;> first | (exact rfl) | omega | exact vz | (simp_all; done) | (simp_all; omega)))
theorem w80 (r : Run) (n : Int)
  (o0 : fits r -> within n 0 (wr (r.plates - 1)) = isPlate r n) :
  Triple Try.prog 80 (s80 r n) := by
 refine triple_of Try.func80 rfl Try.call80 T0_ok _ rfl rfl rfl rfl (Nat.le_of_ble_eq_true (by kernel_rfl)) (fun _ _ _ _ h => h) ?_
 intro hp C hC _ hE
 obtain ⟨P, w0, E0, av, hA⟩ := C
 subst hC
 refine swp_seq ?_
 refine sR (kt := [1, 2]) (kh := [0]) (q := True /\ True /\ True) (st' := ASt.mk [(1, iv n), (2, .ptr 0 [])] [(0, .cells 25 (cRun r))] 16) (by kernel_rfl) ⟨tv, tv, tv⟩ ?_
 refine swp_seq ?_
 refine swp_region T0_ok mixed (cs := [(3, wrapS), (4, CallSpec.eq (s112 n 0 (wr (r.plates - 1))) [true, true, true])]) (kt := [4]) (kh := []) (q := True /\ True /\ True /\ True /\ ((iv n = iv n /\ iv 0 = iv 0 /\ iv (wr (r.plates - 1)) = iv (wr (r.plates - 1)) /\ True) /\ Triple Try.prog 112 (s112 n 0 (wr (r.plates - 1))) /\ True /\ True /\ ∀ (i0 : Env), True) /\ True /\ True) (st' := ASt.mk [(4, bv (within n 0 (wr (r.plates - 1))))] [] 64) (by kernel_rfl) ⟨tv, tv, tv, tv, ⟨⟨rfl, rfl, rfl, tv⟩, (t112 (n) (0) (wr (r.plates - 1))), tv, tv, (fun i0 => tv)⟩, tv, tv⟩ ?_
 refine swp_ret ?_
 exact ret_q [] ((True /\ True) /\ (bv (within n 0 (wr (r.plates - 1))) = bv (isPlate r n) /\ nilN = []) /\ T3) (by kernel_rfl) ⟨⟨tv, tv⟩, ⟨(congrArg bv (o0 hp)), rfl⟩, rfl, rfl, rfl⟩
theorem t80 (r : Run) (n : Int) : Triple Try.prog 80 (s80 r n) := by
 apply w80
 all_goals (try ((repeat intro _) <;> (try simp only [v0, v1, v2, v3, v4, v5, v6, v7, v8, v9, inI, fits, Go.Sh.small] at *) <;> first | (exact rfl) | omega | exact vz | (simp_all; done) | (simp_all; omega)))
theorem w85 (r : Run) (n : Int)
  (o0 : fits r -> inI ((↑(r.found.length) : Int) - 1))
  (o1 : fits r -> within n 0 ((↑(r.found.length) : Int) - 1) = isFound r n) :
  Triple Try.prog 85 (s85 r n) := by
 refine triple_of Try.func85 rfl Try.call85 T0_ok _ rfl rfl rfl rfl (Nat.le_of_ble_eq_true (by kernel_rfl)) (fun _ _ _ _ h => h) ?_
 intro hp C hC _ hE
 obtain ⟨P, w0, E0, av, hA⟩ := C
 subst hC
 refine swp_seq ?_
 refine sR (kt := [1, 2]) (kh := [0]) (q := True /\ True /\ True) (st' := ASt.mk [(1, iv n), (2, .ptr 0 [])] [(0, .cells 25 (cRun r))] 16) (by kernel_rfl) ⟨tv, tv, tv⟩ ?_
 refine swp_seq ?_
 refine swp_region T0_ok mixed (cs := [(5, CallSpec.eq (s112 n 0 ((↑(r.found.length) : Int) - 1)) [true, true, true])]) (kt := [4]) (kh := []) (q := True /\ True /\ True /\ True /\ inI ((↑(r.found.length) : Int) - 1) /\ ((iv n = iv n /\ iv 0 = iv 0 /\ iv ((↑(r.found.length) : Int) - 1) = iv ((↑(r.found.length) : Int) - 1) /\ True) /\ Triple Try.prog 112 (s112 n 0 ((↑(r.found.length) : Int) - 1)) /\ True /\ True /\ ∀ (i0 : Env), True) /\ True /\ True) (st' := ASt.mk [(4, bv (within n 0 ((↑(r.found.length) : Int) - 1)))] [] 72) (by kernel_rfl) ⟨tv, tv, tv, tv, (o0 hp), ⟨⟨rfl, rfl, rfl, tv⟩, (t112 (n) (0) ((↑(r.found.length) : Int) - 1)), tv, tv, (fun i0 => tv)⟩, tv, tv⟩ ?_
 refine swp_ret ?_
 exact ret_q [] ((True /\ True) /\ (bv (within n 0 ((↑(r.found.length) : Int) - 1)) = bv (isFound r n) /\ nilN = []) /\ T3) (by kernel_rfl) ⟨⟨tv, tv⟩, ⟨(congrArg bv (o1 hp)), rfl⟩, rfl, rfl, rfl⟩
theorem t85 (r : Run) (n : Int) : Triple Try.prog 85 (s85 r n) := by
 apply w85
 all_goals (try ((repeat intro _) <;> (try simp only [v0, v1, v2, v3, v4, v5, v6, v7, v8, v9, inI, fits, Go.Sh.small] at *) <;> first | (exact rfl) | omega | exact vz | (simp_all; done) | (simp_all; omega)))
theorem w86 (so : Int) (not : Int) (all : Int)
 (o0 : decide (all = so) = true -> 1 = known3 so not all)
 (o1 : decide (all = so) = false -> decide (all = not) = true -> 2 = known3 so not all)
 (o2 : decide (all = so) = false -> decide (all = not) = false -> 3 = known3 so not all) :
  Triple Try.prog 86 (s86 so not all) := by
 refine triple_of Try.func86 rfl Try.call86 T0_ok _ rfl rfl rfl rfl (Nat.le_of_ble_eq_true (by kernel_rfl)) (fun _ _ _ _ h => h) ?_
 intro _ C hC _ hE
 obtain ⟨P, w0, E0, av, hA⟩ := C
 subst hC
 refine swp_seq ?_
 refine sR (kt := [0, 1, 2]) (kh := []) (q := True /\ True) (st' := ASt.mk [(0, iv so), (1, iv not), (2, iv all)] [] 8) (by kernel_rfl) ⟨tv, tv⟩ ?_
 refine swp_seq (swp_seq ?_)
 refine sR (kt := [0, 1, 7]) (kh := []) (q := True /\ True) (st' := ASt.mk [(0, iv so), (1, iv not), (7, iv all)] [] 16) (by kernel_rfl) ⟨tv, tv⟩ ?_
 refine swp_block (swp_seq ?_)
 refine sR (kt := [1, 7, 8]) (kh := []) (q := True /\ True /\ True /\ True) (st' := ASt.mk [(1, iv not), (7, iv all), (8, bv (decide (all = so)))] [] 40) (by kernel_rfl) ⟨tv, tv, tv, tv⟩ ?_
 refine swp_cond (decide (all = so)) (by kernel_rfl) (fun h0 => ?_) (fun h0 => ?_)
 ·refine swp_seq ?_
  refine sR (kt := [6]) (kh := []) (q := True /\ True) (st' := ASt.mk [(6, iv 1)] [] 48) (by kernel_rfl) ⟨tv, tv⟩ ?_
  refine swp_ret ?_
  exact ret_q [] ((True /\ True) /\ (iv 1 = iv (known3 so not all) /\ nilN = []) /\ T3) (by kernel_rfl) ⟨⟨tv, tv⟩, ⟨(congrArg iv (o0 h0)), rfl⟩, rfl, rfl, rfl⟩
 ·refine swp_seq ?_
  refine sR (kt := [11]) (kh := []) (q := True /\ True /\ True /\ True) (st' := ASt.mk [(11, bv (decide (all = not)))] [] 64) (by kernel_rfl) ⟨tv, tv, tv, tv⟩ ?_
  refine swp_cond (decide (all = not)) (by kernel_rfl) (fun h1 => ?_) (fun h1 => ?_)
  ·refine swp_seq ?_
   refine sR (kt := [6]) (kh := []) (q := True /\ True) (st' := ASt.mk [(6, iv 2)] [] 72) (by kernel_rfl) ⟨tv, tv⟩ ?_
   refine swp_ret ?_
   exact ret_q [] ((True /\ True) /\ (iv 2 = iv (known3 so not all) /\ nilN = []) /\ T3) (by kernel_rfl) ⟨⟨tv, tv⟩, ⟨(congrArg iv (o1 h0 h1)), rfl⟩, rfl, rfl, rfl⟩
  ·refine swp_skip (swp_seq ?_)
   refine sR (kt := [6]) (kh := []) (q := True /\ True) (st' := ASt.mk [(6, iv 3)] [] 72) (by kernel_rfl) ⟨tv, tv⟩ ?_
   refine swp_ret ?_
   exact ret_q [] ((True /\ True) /\ (iv 3 = iv (known3 so not all) /\ nilN = []) /\ T3) (by kernel_rfl) ⟨⟨tv, tv⟩, ⟨(congrArg iv (o2 h0 h1)), rfl⟩, rfl, rfl, rfl⟩
theorem t86 (so not all : Int) : Triple Try.prog 86 (s86 so not all) := by
 apply w86 <;> ((repeat intro _); simp_all [known3])
theorem w92 (so : Int) (all : Int)
 (o0 : decide (so = 0) = true -> 2 = knownOf so all)
 (o1 : decide (so = 0) = false -> decide (so = all) = true -> 1 = knownOf so all)
 (o2 : decide (so = 0) = false -> decide (so = all) = false -> 3 = knownOf so all) :
  Triple Try.prog 92 (s92 so all) := by
 refine triple_of Try.func92 rfl Try.call92 T0_ok _ rfl rfl rfl rfl (Nat.le_of_ble_eq_true (by kernel_rfl)) (fun _ _ _ _ h => h) ?_
 intro _ C hC _ hE
 obtain ⟨P, w0, E0, av, hA⟩ := C
 subst hC
 refine swp_seq ?_
 refine sR (kt := [0, 1]) (kh := []) (q := True /\ True) (st' := ASt.mk [(0, iv so), (1, iv all)] [] 8) (by kernel_rfl) ⟨tv, tv⟩ ?_
 refine swp_seq (swp_seq ?_)
 refine sR (kt := [1, 5]) (kh := []) (q := True /\ True) (st' := ASt.mk [(1, iv all), (5, iv so)] [] 16) (by kernel_rfl) ⟨tv, tv⟩ ?_
 refine swp_block (swp_seq ?_)
 refine sR (kt := [1, 5, 6]) (kh := []) (q := True /\ True /\ True) (st' := ASt.mk [(1, iv all), (5, iv so), (6, bv (decide (so = 0)))] [] 32) (by kernel_rfl) ⟨tv, tv, tv⟩ ?_
 refine swp_cond (decide (so = 0)) (by kernel_rfl) (fun h0 => ?_) (fun h0 => ?_)
 ·refine swp_seq ?_
  refine sR (kt := [4]) (kh := []) (q := True /\ True) (st' := ASt.mk [(4, iv 2)] [] 40) (by kernel_rfl) ⟨tv, tv⟩ ?_
  refine swp_ret ?_
  exact ret_q [] ((True /\ True) /\ (iv 2 = iv (knownOf so all) /\ nilN = []) /\ T3) (by kernel_rfl) ⟨⟨tv, tv⟩, ⟨(congrArg iv (o0 h0)), rfl⟩, rfl, rfl, rfl⟩
 ·refine swp_seq ?_
  refine sR (kt := [8]) (kh := []) (q := True /\ True /\ True /\ True) (st' := ASt.mk [(8, bv (decide (so = all)))] [] 56) (by kernel_rfl) ⟨tv, tv, tv, tv⟩ ?_
  refine swp_cond (decide (so = all)) (by kernel_rfl) (fun h1 => ?_) (fun h1 => ?_)
  ·refine swp_seq ?_
   refine sR (kt := [4]) (kh := []) (q := True /\ True) (st' := ASt.mk [(4, iv 1)] [] 64) (by kernel_rfl) ⟨tv, tv⟩ ?_
   refine swp_ret ?_
   exact ret_q [] ((True /\ True) /\ (iv 1 = iv (knownOf so all) /\ nilN = []) /\ T3) (by kernel_rfl) ⟨⟨tv, tv⟩, ⟨(congrArg iv (o1 h0 h1)), rfl⟩, rfl, rfl, rfl⟩
  ·refine swp_skip (swp_seq ?_)
   refine sR (kt := [4]) (kh := []) (q := True /\ True) (st' := ASt.mk [(4, iv 3)] [] 64) (by kernel_rfl) ⟨tv, tv⟩ ?_
   refine swp_ret ?_
   exact ret_q [] ((True /\ True) /\ (iv 3 = iv (knownOf so all) /\ nilN = []) /\ T3) (by kernel_rfl) ⟨⟨tv, tv⟩, ⟨(congrArg iv (o2 h0 h1)), rfl⟩, rfl, rfl, rfl⟩
theorem t92 (so all : Int) : Triple Try.prog 92 (s92 so all) := by
 apply w92 <;> ((repeat intro _); simp_all [knownOf])
theorem w29 (lo : Int) (hi : Int) :
  Triple Try.prog 29 (s29 lo hi) := by
 refine triple_of Try.func29 rfl Try.call29 T0_ok _ rfl rfl rfl rfl (Nat.le_of_ble_eq_true (by kernel_rfl)) (fun _ _ _ _ h => h) ?_
 intro _ C hC _ hE
 obtain ⟨P, w0, E0, av, hA⟩ := C
 subst hC
 refine swp_seq ?_
 refine sR (kt := [0, 1, 4]) (kh := [0]) (q := True /\ True) (st' := ASt.mk [(0, iv lo), (1, iv hi), (4, .ptr 0 [])] [(0, .cells 37 [iv 0, iv 0])] 8) (by kernel_rfl) ⟨tv, tv⟩ ?_
 refine swp_seq ?_
 refine sR (kt := [4]) (kh := [0]) (q := True /\ True /\ True /\ True /\ True) (st' := ASt.mk [(4, .ptr 0 [])] [(0, .cells 37 [iv lo, iv hi])] 40) (by kernel_rfl) ⟨tv, tv, tv, tv, tv⟩ ?_
 refine swp_ret ?_
 exact ret_q [] ((True /\ True) /\ ((iv lo = iv lo /\ nilN = []) /\ (iv hi = iv hi /\ nilN = []) /\ True) /\ T3) (by kernel_rfl) ⟨⟨tv, tv⟩, ⟨⟨rfl, rfl⟩, ⟨rfl, rfl⟩, tv⟩, rfl, rfl, rfl⟩
theorem t29 (lo hi : Int) : Triple Try.prog 29 (s29 lo hi) := w29 lo hi
abbrev q46_1 (r : Run) (C : Prop) : Prop := fits r -> (bif decide (40 < (↑(r.machines.length) : Int)) then true else decide (40 < (↑(r.found.length) : Int))) = false -> C
abbrev q46_2 (r : Run) (C : Nat -> Prop) : Prop := q46_1 r (∀ (x10 : Nat), (x10 <= r.machines.length /\ ∀ (j : Nat), j < x10 -> hugeM (mach r j) = false) -> decide ((x10 : Int) < (↑(r.machines.length) : Int)) = true -> C x10)
abbrev q46_3 (r : Run) (C : Nat -> Prop) : Prop := q46_2 r fun x10 => decide (40 < (↑((mach r x10).changes.length) : Int)) = false -> C x10
abbrev q46_4 (r : Run) (C : Nat -> Prop) : Prop := q46_1 r (∀ (x10 : Nat), (x10 <= r.machines.length /\ ∀ (j : Nat), j < x10 -> hugeM (mach r j) = false) -> decide ((x10 : Int) < (↑(r.machines.length) : Int)) = false -> C x10)
abbrev q46_5 (r : Run) (C : Nat -> Nat -> Prop) : Prop := q46_4 r fun x10 => ∀ (x13 : Nat), (x13 <= r.found.length /\ ∀ (j : Nat), j < x13 -> hugeF (fnd r j) = false) -> decide ((x13 : Int) < (↑(r.found.length) : Int)) = true -> C x10 x13
abbrev q46_6 (r : Run) (C : Nat -> Nat -> Prop) : Prop := q46_5 r fun x10 x13 => (bif decide (40 < (↑((fnd r x13).new.length) : Int)) then true else decide (40 < (↑((fnd r x13).frm.length) : Int))) = false -> C x10 x13
theorem w46 (r : Run)
 (o0 : fits r -> decide (40 < (↑(r.machines.length) : Int)) = false -> (!decide (40 < (↑(r.machines.length) : Int))) = true)
 (o1 : fits r -> (bif decide (40 < (↑(r.machines.length) : Int)) then true else decide (40 < (↑(r.found.length) : Int))) = true -> true = huge r)
 (o2 : q46_1 r (0 = (↑0 : Int)))
 (o3 : q46_1 r (0 <= r.machines.length /\ ∀ (j : Nat), j < 0 -> hugeM (mach r j) = false))
 (o4 : q46_2 r fun x10 => 0 <= (x10 : Int))
 (o5 : q46_2 r fun x10 => (x10 : Int) < (↑(r.machines.length) : Int))
 (o6 : q46_2 r fun x10 => decide (40 < (↑((mach r x10).changes.length) : Int)) = true -> true = huge r)
 (o7 : q46_3 r fun x10 => inI ((x10 : Int) + 1))
 (o8 : q46_3 r fun x10 => (x10 : Int) + 1 = (↑(x10 + 1) : Int))
 (o9 : q46_3 r fun x10 => x10 + 1 <= r.machines.length /\ ∀ (j : Nat), j < x10 + 1 -> hugeM (mach r j) = false)
 (o10 : q46_3 r fun x10 => r.machines.length - (x10 + 1) < r.machines.length - x10)
 (o11 : q46_4 r fun x10 => 0 = (↑0 : Int))
 (o12 : q46_4 r fun x10 => 0 <= r.found.length /\ ∀ (j : Nat), j < 0 -> hugeF (fnd r j) = false)
 (o13 : q46_5 r fun x10 x13 => 0 <= (x13 : Int))
 (o14 : q46_5 r fun x10 x13 => (x13 : Int) < (↑(r.found.length) : Int))
 (o15 : q46_5 r fun x10 x13 => (!decide (40 < (↑((fnd r x13).new.length) : Int))) -> 0 <= (x13 : Int))
 (o16 : q46_5 r fun x10 x13 => (!decide (40 < (↑((fnd r x13).new.length) : Int))) -> (x13 : Int) < (↑(r.found.length) : Int))
 (o17 : q46_5 r fun x10 x13 => decide (40 < (↑((fnd r x13).new.length) : Int)) = false -> (!decide (40 < (↑((fnd r x13).new.length) : Int))) = true)
 (o18 : q46_5 r fun x10 x13 => (bif decide (40 < (↑((fnd r x13).new.length) : Int)) then true else decide (40 < (↑((fnd r x13).frm.length) : Int))) = true -> true = huge r)
 (o19 : q46_6 r fun x10 x13 => inI ((x13 : Int) + 1))
 (o20 : q46_6 r fun x10 x13 => (x13 : Int) + 1 = (↑(x13 + 1) : Int))
 (o21 : q46_6 r fun x10 x13 => x13 + 1 <= r.found.length /\ ∀ (j : Nat), j < x13 + 1 -> hugeF (fnd r j) = false)
 (o22 : q46_6 r fun x10 x13 => r.found.length - (x13 + 1) < r.found.length - x13)
 (o23 : q46_4 r fun x10 => ∀ (x13 : Nat), (x13 <= r.found.length /\ ∀ (j : Nat), j < x13 -> hugeF (fnd r j) = false) -> decide ((x13 : Int) < (↑(r.found.length) : Int)) = false -> false = huge r) :
  Triple Try.prog 46 (s46 r) := by
 refine triple_of Try.func46 rfl Try.call46 T0_ok _ rfl rfl rfl rfl (Nat.le_of_ble_eq_true (by kernel_rfl)) (fun _ _ _ _ h => h) ?_
 intro hp C hC _ hE
 obtain ⟨P, w0, E0, av, hA⟩ := C
 subst hC
 refine swp_seq ?_
 refine sR (kt := [1]) (kh := [0]) (q := True /\ True /\ True) (st' := ASt.mk [(1, .ptr 0 [])] [(0, .cells 25 (cRun r))] 16) (by kernel_rfl) ⟨tv, tv, tv⟩ ?_
 refine swp_seq (swp_seq ?_)
 refine sR (kt := [1, 14]) (kh := [0]) (q := True /\ True /\ True /\ True /\ True /\ ((!decide (40 < (↑(r.machines.length) : Int))) -> (True /\ True) /\ True) /\ ((!decide (40 < (↑(r.machines.length) : Int))) -> (((!decide (40 < (↑(r.machines.length) : Int))) -> (!decide (40 < (↑(r.machines.length) : Int))) = true) /\ True) /\ True) /\ ((!decide (40 < (↑(r.machines.length) : Int))) -> (((!decide (40 < (↑(r.machines.length) : Int))) -> (!decide (40 < (↑(r.machines.length) : Int))) = true) /\ True) /\ True) /\ ((!decide (40 < (↑(r.machines.length) : Int))) -> (((!decide (40 < (↑(r.machines.length) : Int))) -> (!decide (40 < (↑(r.machines.length) : Int))) = true) /\ True /\ True) /\ True) /\ ((decide (40 < (↑(r.machines.length) : Int)) = true -> True) /\ (decide (40 < (↑(r.machines.length) : Int)) = false -> (!decide (40 < (↑(r.machines.length) : Int))) = true)) /\ True) (st' := ASt.mk [(1, .ptr 0 []), (14, bv (bif decide (40 < (↑(r.machines.length) : Int)) then true else decide (40 < (↑(r.found.length) : Int))))] [(0, .cells 25 (cRun r))] 96) (by kernel_rfl) ⟨tv, tv, tv, tv, tv, (fun h0 => ⟨⟨tv, tv⟩, tv⟩), (fun h1 => ⟨⟨(fun h2 => h1), tv⟩, tv⟩), (fun h3 => ⟨⟨(fun h4 => h3), tv⟩, tv⟩), (fun h5 => ⟨⟨(fun h6 => h5), tv, tv⟩, tv⟩), ⟨(fun h7 => tv), (fun h8 => (o0 hp h8))⟩, tv⟩ ?_
 refine swp_cond (bif decide (40 < (↑(r.machines.length) : Int)) then true else decide (40 < (↑(r.found.length) : Int))) (by kernel_rfl) (fun h9 => ?_) (fun h9 => ?_)
 ·refine swp_seq ?_
  refine sR (kt := [2]) (kh := []) (q := True /\ True) (st' := ASt.mk [(2, bv true)] [] 104) (by kernel_rfl) ⟨tv, tv⟩ ?_
  refine swp_ret ?_
  exact ret_q [] ((True /\ True) /\ (bv true = bv (huge r) /\ nilN = []) /\ T3) (by kernel_rfl) ⟨⟨tv, tv⟩, ⟨(congrArg bv (o1 hp h9)), rfl⟩, rfl, rfl, rfl⟩
 ·refine swp_skip (swp_seq (swp_seq ?_))
  refine sR (kt := [1, 3]) (kh := [0]) (q := True /\ True) (st' := ASt.mk [(1, .ptr 0 []), (3, iv 0)] [(0, .cells 25 (cRun r))] 104) (by kernel_rfl) ⟨tv, tv⟩ ?_
  refine swp_block ?_
  refine swp_loopA (Hint.ann (h46a r) [(1, AV.ptr 0 [])] [(0, OB.cells 25 (cRun r))] 10104) (ent_q hE [] [(0, .same 0)] [] [0] (((some (Src.same 0) = some (Src.same 0) /\ nilP = []) /\ (iv 0 = iv (↑0 : Int) /\ nilN = []) /\ True) /\ ((OB.cells 25 (cRun r) = OB.cells 25 (cRun r) /\ true = true) /\ True) /\ T2) (by kernel_rfl) (by kernel_rfl) ⟨⟨⟨rfl, rfl⟩, ⟨(congrArg iv (o2 hp h9)), rfl⟩, tv⟩, ⟨⟨rfl, rfl⟩, tv⟩, rfl, rfl⟩) (o3 hp h9) (fun (x10 : Nat) hx10 => ?_)
  refine swp_seq (swp_seq ?_)
  refine sR (kt := [1, 3, 19]) (kh := [0]) (q := True /\ True /\ True /\ True /\ True /\ True) (st' := ASt.mk [(1, .ptr 0 []), (3, iv (x10 : Int)), (19, bv (decide ((x10 : Int) < (↑(r.machines.length) : Int))))] [(0, .cells 25 (cRun r))] 10144) (by kernel_rfl) ⟨tv, tv, tv, tv, tv, tv⟩ ?_
  refine swp_cond (decide ((x10 : Int) < (↑(r.machines.length) : Int))) (by kernel_rfl) (fun h11 => ?_) (fun h11 => ?_)
  ·refine swp_skip (swp_seq (swp_block (swp_seq ?_)))
   refine sR (kt := [1, 3, 29]) (kh := [0]) (q := True /\ True /\ True /\ (0 <= (x10 : Int) /\ (x10 : Int) < (↑(r.machines.length) : Int)) /\ True /\ True /\ True /\ True /\ True) (st' := ASt.mk [(1, .ptr 0 []), (3, iv (x10 : Int)), (29, bv (decide (40 < (↑((mach r x10).changes.length) : Int))))] [(0, .cells 25 (cRun r))] 10208) (by kernel_rfl) ⟨tv, tv, tv, ⟨(o4 hp h9 x10 hx10 h11), (o5 hp h9 x10 hx10 h11)⟩, tv, tv, tv, tv, tv⟩ ?_
   refine swp_cond (decide (40 < (↑((mach r x10).changes.length) : Int))) (by kernel_rfl) (fun h12 => ?_) (fun h12 => ?_)
   ·refine swp_seq ?_
    refine sR (kt := [2]) (kh := []) (q := True /\ True) (st' := ASt.mk [(2, bv true)] [] 10216) (by kernel_rfl) ⟨tv, tv⟩ ?_
    refine swp_ret ?_
    exact ret_q [] ((True /\ True) /\ (bv true = bv (huge r) /\ nilN = []) /\ T3) (by kernel_rfl) ⟨⟨tv, tv⟩, ⟨(congrArg bv (o6 hp h9 x10 hx10 h11 h12)), rfl⟩, rfl, rfl, rfl⟩
   ·refine swp_skip ?_
    refine sR (kt := [1, 3]) (kh := [0]) (q := True /\ inI ((x10 : Int) + 1) /\ True /\ True) (st' := ASt.mk [(1, .ptr 0 []), (3, iv ((x10 : Int) + 1))] [(0, .cells 25 (cRun r))] 10232) (by kernel_rfl) ⟨tv, (o7 hp h9 x10 hx10 h11 h12), tv, tv⟩ ?_
    exact loop_next (Hint.ann (h46a r) [(1, AV.ptr 0 [])] [(0, OB.cells 25 (cRun r))] 10104) x10 (ent_q hE [] [(0, .same 0)] [] [0] (((some (Src.same 0) = some (Src.same 0) /\ nilP = []) /\ (iv ((x10 : Int) + 1) = iv (↑(x10 + 1) : Int) /\ nilN = []) /\ True) /\ ((OB.cells 25 (cRun r) = OB.cells 25 (cRun r) /\ true = true) /\ True) /\ T2) (by kernel_rfl) (by kernel_rfl) ⟨⟨⟨rfl, rfl⟩, ⟨(congrArg iv (o8 hp h9 x10 hx10 h11 h12)), rfl⟩, tv⟩, ⟨⟨rfl, rfl⟩, tv⟩, rfl, rfl⟩) (o9 hp h9 x10 hx10 h11 h12) (o10 hp h9 x10 hx10 h11 h12)
  ·refine swp_exit (swp_seq (swp_seq ?_))
   refine sR (kt := [1, 4]) (kh := [0]) (q := True /\ True) (st' := ASt.mk [(1, .ptr 0 []), (4, iv 0)] [(0, .cells 25 (cRun r))] 10152) (by kernel_rfl) ⟨tv, tv⟩ ?_
   refine swp_block ?_
   refine swp_loopA (Hint.ann (h46b r) [(1, AV.ptr 0 [])] [(0, OB.cells 25 (cRun r))] 20152) (ent_q hE [] [(0, .same 0)] [] [0] (((some (Src.same 0) = some (Src.same 0) /\ nilP = []) /\ (iv 0 = iv (↑0 : Int) /\ nilN = []) /\ True) /\ ((OB.cells 25 (cRun r) = OB.cells 25 (cRun r) /\ true = true) /\ True) /\ T2) (by kernel_rfl) (by kernel_rfl) ⟨⟨⟨rfl, rfl⟩, ⟨(congrArg iv (o11 hp h9 x10 hx10 h11)), rfl⟩, tv⟩, ⟨⟨rfl, rfl⟩, tv⟩, rfl, rfl⟩) (o12 hp h9 x10 hx10 h11) (fun (x13 : Nat) hx13 => ?_)
   refine swp_seq (swp_seq ?_)
   refine sR (kt := [1, 4, 34]) (kh := [0]) (q := True /\ True /\ True /\ True /\ True /\ True) (st' := ASt.mk [(1, .ptr 0 []), (4, iv (x13 : Int)), (34, bv (decide ((x13 : Int) < (↑(r.found.length) : Int))))] [(0, .cells 25 (cRun r))] 20192) (by kernel_rfl) ⟨tv, tv, tv, tv, tv, tv⟩ ?_
   refine swp_cond (decide ((x13 : Int) < (↑(r.found.length) : Int))) (by kernel_rfl) (fun h14 => ?_) (fun h14 => ?_)
   ·refine swp_skip (swp_seq (swp_block (swp_seq ?_)))
    refine sR (kt := [1, 4, 54]) (kh := [0]) (q := True /\ True /\ True /\ (0 <= (x13 : Int) /\ (x13 : Int) < (↑(r.found.length) : Int)) /\ True /\ True /\ True /\ True /\ True /\ ((!decide (40 < (↑((fnd r x13).new.length) : Int))) -> (True /\ True) /\ True) /\ ((!decide (40 < (↑((fnd r x13).new.length) : Int))) -> (((!decide (40 < (↑((fnd r x13).new.length) : Int))) -> (!decide (40 < (↑((fnd r x13).new.length) : Int))) = true) /\ True) /\ True) /\ ((!decide (40 < (↑((fnd r x13).new.length) : Int))) -> (True /\ True) /\ True) /\ ((!decide (40 < (↑((fnd r x13).new.length) : Int))) -> (((!decide (40 < (↑((fnd r x13).new.length) : Int))) -> (!decide (40 < (↑((fnd r x13).new.length) : Int))) = true) /\ ((!decide (40 < (↑((fnd r x13).new.length) : Int))) -> (!decide (40 < (↑((fnd r x13).new.length) : Int))) = true) /\ True) /\ 0 <= (x13 : Int) /\ (x13 : Int) < (↑(r.found.length) : Int)) /\ ((!decide (40 < (↑((fnd r x13).new.length) : Int))) -> (((!decide (40 < (↑((fnd r x13).new.length) : Int))) -> (!decide (40 < (↑((fnd r x13).new.length) : Int))) = true) /\ True) /\ True) /\ ((!decide (40 < (↑((fnd r x13).new.length) : Int))) -> (((!decide (40 < (↑((fnd r x13).new.length) : Int))) -> (!decide (40 < (↑((fnd r x13).new.length) : Int))) = true) /\ True) /\ True) /\ ((!decide (40 < (↑((fnd r x13).new.length) : Int))) -> (((!decide (40 < (↑((fnd r x13).new.length) : Int))) -> (!decide (40 < (↑((fnd r x13).new.length) : Int))) = true) /\ True) /\ True) /\ ((!decide (40 < (↑((fnd r x13).new.length) : Int))) -> (((!decide (40 < (↑((fnd r x13).new.length) : Int))) -> (!decide (40 < (↑((fnd r x13).new.length) : Int))) = true) /\ True /\ True) /\ True) /\ ((decide (40 < (↑((fnd r x13).new.length) : Int)) = true -> True) /\ (decide (40 < (↑((fnd r x13).new.length) : Int)) = false -> (!decide (40 < (↑((fnd r x13).new.length) : Int))) = true)) /\ True) (st' := ASt.mk [(1, .ptr 0 []), (4, iv (x13 : Int)), (54, bv (bif decide (40 < (↑((fnd r x13).new.length) : Int)) then true else decide (40 < (↑((fnd r x13).frm.length) : Int))))] [(0, .cells 25 (cRun r))] 20336) (by kernel_rfl) ⟨tv, tv, tv, ⟨(o13 hp h9 x10 hx10 h11 x13 hx13 h14), (o14 hp h9 x10 hx10 h11 x13 hx13 h14)⟩, tv, tv, tv, tv, tv, (fun h15 => ⟨⟨tv, tv⟩, tv⟩), (fun h16 => ⟨⟨(fun h17 => h16), tv⟩, tv⟩), (fun h18 => ⟨⟨tv, tv⟩, tv⟩), (fun h19 => ⟨⟨(fun h20 => h19), (fun h21 => h19), tv⟩, (o15 hp h9 x10 hx10 h11 x13 hx13 h14 h19), (o16 hp h9 x10 hx10 h11 x13 hx13 h14 h19)⟩), (fun h22 => ⟨⟨(fun h23 => h22), tv⟩, tv⟩), (fun h24 => ⟨⟨(fun h25 => h24), tv⟩, tv⟩), (fun h26 => ⟨⟨(fun h27 => h26), tv⟩, tv⟩), (fun h28 => ⟨⟨(fun h29 => h28), tv, tv⟩, tv⟩), ⟨(fun h30 => tv), (fun h31 => (o17 hp h9 x10 hx10 h11 x13 hx13 h14 h31))⟩, tv⟩ ?_
    refine swp_cond (bif decide (40 < (↑((fnd r x13).new.length) : Int)) then true else decide (40 < (↑((fnd r x13).frm.length) : Int))) (by kernel_rfl) (fun h32 => ?_) (fun h32 => ?_)
    ·refine swp_seq ?_
     refine sR (kt := [2]) (kh := []) (q := True /\ True) (st' := ASt.mk [(2, bv true)] [] 20344) (by kernel_rfl) ⟨tv, tv⟩ ?_
     refine swp_ret ?_
     exact ret_q [] ((True /\ True) /\ (bv true = bv (huge r) /\ nilN = []) /\ T3) (by kernel_rfl) ⟨⟨tv, tv⟩, ⟨(congrArg bv (o18 hp h9 x10 hx10 h11 x13 hx13 h14 h32)), rfl⟩, rfl, rfl, rfl⟩
    ·refine swp_skip ?_
     refine sR (kt := [1, 4]) (kh := [0]) (q := True /\ inI ((x13 : Int) + 1) /\ True /\ True) (st' := ASt.mk [(1, .ptr 0 []), (4, iv ((x13 : Int) + 1))] [(0, .cells 25 (cRun r))] 20360) (by kernel_rfl) ⟨tv, (o19 hp h9 x10 hx10 h11 x13 hx13 h14 h32), tv, tv⟩ ?_
     exact loop_next (Hint.ann (h46b r) [(1, AV.ptr 0 [])] [(0, OB.cells 25 (cRun r))] 20152) x13 (ent_q hE [] [(0, .same 0)] [] [0] (((some (Src.same 0) = some (Src.same 0) /\ nilP = []) /\ (iv ((x13 : Int) + 1) = iv (↑(x13 + 1) : Int) /\ nilN = []) /\ True) /\ ((OB.cells 25 (cRun r) = OB.cells 25 (cRun r) /\ true = true) /\ True) /\ T2) (by kernel_rfl) (by kernel_rfl) ⟨⟨⟨rfl, rfl⟩, ⟨(congrArg iv (o20 hp h9 x10 hx10 h11 x13 hx13 h14 h32)), rfl⟩, tv⟩, ⟨⟨rfl, rfl⟩, tv⟩, rfl, rfl⟩) (o21 hp h9 x10 hx10 h11 x13 hx13 h14 h32) (o22 hp h9 x10 hx10 h11 x13 hx13 h14 h32)
   ·refine swp_exit (swp_seq ?_)
    refine sR (kt := [2]) (kh := []) (q := True /\ True) (st' := ASt.mk [(2, bv false)] [] 20200) (by kernel_rfl) ⟨tv, tv⟩ ?_
    refine swp_ret ?_
    exact ret_q [] ((True /\ True) /\ (bv false = bv (huge r) /\ nilN = []) /\ T3) (by kernel_rfl) ⟨⟨tv, tv⟩, ⟨(congrArg bv (o23 hp h9 x10 hx10 h11 x13 hx13 h14)), rfl⟩, rfl, rfl, rfl⟩
theorem t46 (r : Run) : Triple Try.prog 46 (s46 r) := by
 apply w46
 case o1 => intro _ h; rw [bor] at h; exact (huge_head h).symm
 case o6 => intro _ _ x hx hl h; exact (huge_mach (by simpa using hl) h).symm
 case o9 => intro _ _ x hx hl h; exact ⟨by simp only [decide_eq_true_eq] at hl; omega, lt_succ_cases hx.2 h⟩
 case o18 => intro _ _ x hx hl y hy hyl h; rw [bor] at h; exact (huge_fnd (by simpa using hyl) h).symm
 case o21 => intro _ _ x hx hl y hy hyl h; rw [bor] at h; exact ⟨by simp only [decide_eq_true_eq] at hyl; omega, lt_succ_cases hy.2 h⟩
 case o23 =>
  intro _ h x hx hl y hy hyl
  rw [bor] at h
  simp only [decide_eq_false_iff_not] at hl hyl
  exact (not_huge h (fun j hj => hx.2 j (by omega)) (fun j hj => hy.2 j (by omega))).symm
 all_goals ((repeat intro _) <;> (try simp only [v0, v1, v2, v3, v4, v5, v6, v7, v8, v9, inI, fits, Go.Sh.small] at *) <;> first | (exact rfl) | omega | exact vz | (simp_all; done) | (simp_all; omega))
abbrev q63_1 (r : Run) (C : Prop) : Prop := fits r -> (bif bif bif !within r.plates 1 3 then true else !within r.last 1 30 then true else !within (↑(r.machines.length) : Int) 1 3 then true else decide (6 < (↑(r.found.length) : Int))) = false -> C
abbrev q63_2 (r : Run) (C : Nat -> Prop) : Prop := q63_1 r (∀ (x33 : Nat), (x33 <= r.machines.length /\ ∀ (j : Nat), j < x33 -> okMachA r (mach r j) = true) -> decide ((x33 : Int) < (↑(r.machines.length) : Int)) = true -> C x33)
abbrev q63_3 (r : Run) (C : Nat -> Prop) : Prop := q63_2 r fun x33 => (bif !decide ((↑((mach r x33).changes.length) : Int) = r.plates) then true else !within (mach r x33).rate 0 9) = false -> C x33
abbrev q63_4 (r : Run) (C : Nat -> Nat -> Prop) : Prop := q63_3 r fun x33 => ∀ (x46 : Nat), (x46 <= (mach r x33).changes.length /\ ∀ (j : Nat), j < x46 -> isSpan (chg (mach r x33) j) r.last = true) -> C x33 x46
abbrev q63_5 (r : Run) (C : Nat -> Nat -> Prop) : Prop := q63_4 r fun x33 x46 => decide ((x46 : Int) < (↑((mach r x33).changes.length) : Int)) = true -> C x33 x46
abbrev q63_6 (r : Run) (C : Nat -> Nat -> Prop) : Prop := q63_5 r fun x33 x46 => (!isSpan ((mach r x33).changes.getD x46 default) r.last) = false -> C x33 x46
abbrev q63_7 (r : Run) (C : Nat -> Nat -> Prop) : Prop := q63_4 r fun x33 x46 => decide ((x46 : Int) < (↑((mach r x33).changes.length) : Int)) = false -> C x33 x46
abbrev q63_8 (r : Run) (C : Nat -> Prop) : Prop := q63_1 r (∀ (x33 : Nat), (x33 <= r.machines.length /\ ∀ (j : Nat), j < x33 -> okMachA r (mach r j) = true) -> decide ((x33 : Int) < (↑(r.machines.length) : Int)) = false -> C x33)
abbrev q63_9 (r : Run) (C : Nat -> Nat -> Prop) : Prop := q63_8 r fun x33 => ∀ (x50 : Nat), (x50 <= r.found.length /\ ∀ (j : Nat), j < x50 -> okFndA r (fnd r j) = true) -> decide ((x50 : Int) < (↑(r.found.length) : Int)) = true -> C x33 x50
abbrev q63_10 (r : Run) (C : Nat -> Nat -> Prop) : Prop := q63_9 r fun x33 x50 => (!bif bif !within (fnd r x50).minute 0 (r.last - 1) then true else !decide ((↑((fnd r x50).new.length) : Int) = r.plates) then true else decide ((↑((fnd r x50).frm.length) : Int) = 0)) = true -> C x33 x50
abbrev q63_11 (r : Run) (C : Nat -> Nat -> Prop) : Prop := q63_9 r fun x33 x50 => (bif bif bif !within (fnd r x50).minute 0 (r.last - 1) then true else !decide ((↑((fnd r x50).new.length) : Int) = r.plates) then true else decide ((↑((fnd r x50).frm.length) : Int) = 0) then true else !rising (fnd r x50).frm 0 ((↑(r.machines.length) : Int) - 1)) = false -> C x33 x50
abbrev q63_12 (r : Run) (C : Nat -> Nat -> Nat -> Prop) : Prop := q63_11 r fun x33 x50 => ∀ (x94 : Nat), (x94 <= (fnd r x50).new.length /\ ∀ (j : Nat), j < x94 -> within ((fnd r x50).new.getD j 0) (-1) 1 = true) -> decide ((x94 : Int) < (↑((fnd r x50).new.length) : Int)) = true -> C x33 x50 x94
abbrev q63_13 (r : Run) (C : Nat -> Nat -> Nat -> Prop) : Prop := q63_12 r fun x33 x50 x94 => (!within ((fnd r x50).new.getD x94 0) (-1) 1) = false -> C x33 x50 x94
abbrev q63_14 (r : Run) (C : Nat -> Nat -> Nat -> Prop) : Prop := q63_11 r fun x33 x50 => ∀ (x94 : Nat), (x94 <= (fnd r x50).new.length /\ ∀ (j : Nat), j < x94 -> within ((fnd r x50).new.getD j 0) (-1) 1 = true) -> decide ((x94 : Int) < (↑((fnd r x50).new.length) : Int)) = false -> C x33 x50 x94
theorem w63 (r : Run)
 (o0 : fits r -> (!within r.plates 1 3) = false -> (!!within r.plates 1 3) = true)
 (o1 : fits r -> (bif !within r.plates 1 3 then true else !within r.last 1 30) = false -> (!bif !within r.plates 1 3 then true else !within r.last 1 30) = true)
 (o2 : fits r -> (bif bif !within r.plates 1 3 then true else !within r.last 1 30 then true else !within (↑(r.machines.length) : Int) 1 3) = false -> (!bif bif !within r.plates 1 3 then true else !within r.last 1 30 then true else !within (↑(r.machines.length) : Int) 1 3) = true)
 (o3 : fits r -> (bif bif bif !within r.plates 1 3 then true else !within r.last 1 30 then true else !within (↑(r.machines.length) : Int) 1 3 then true else decide (6 < (↑(r.found.length) : Int))) = true -> 60 = check r)
 (o4 : q63_1 r (0 = (↑0 : Int)))
 (o5 : q63_1 r (0 <= r.machines.length /\ ∀ (j : Nat), j < 0 -> okMachA r (mach r j) = true))
 (o6 : q63_2 r fun x33 => 0 <= (x33 : Int))
 (o7 : q63_2 r fun x33 => (x33 : Int) < (↑(r.machines.length) : Int))
 (o8 : q63_2 r fun x33 => (!decide ((↑((mach r x33).changes.length) : Int) = r.plates)) = false -> (!!decide ((↑((mach r x33).changes.length) : Int) = r.plates)) = true)
 (o9 : q63_2 r fun x33 => (bif !decide ((↑((mach r x33).changes.length) : Int) = r.plates) then true else !within (mach r x33).rate 0 9) = true -> 60 = check r)
 (o10 : q63_3 r fun x33 => 0 = (↑0 : Int))
 (o11 : q63_3 r fun x33 => 0 <= (mach r x33).changes.length /\ ∀ (j : Nat), j < 0 -> isSpan (chg (mach r x33) j) r.last = true)
 (o12 : q63_5 r fun x33 x46 => 0 <= (x46 : Int))
 (o13 : q63_5 r fun x33 x46 => (x46 : Int) < (↑((mach r x33).changes.length) : Int))
 (o14 : q63_5 r fun x33 x46 => (!isSpan ((mach r x33).changes.getD x46 default) r.last) = true -> 60 = check r)
 (o15 : q63_6 r fun x33 x46 => inI ((x46 : Int) + 1))
 (o16 : q63_6 r fun x33 x46 => (x46 : Int) + 1 = (↑(x46 + 1) : Int))
 (o17 : q63_6 r fun x33 x46 => x46 + 1 <= (mach r x33).changes.length /\ ∀ (j : Nat), j < x46 + 1 -> isSpan (chg (mach r x33) j) r.last = true)
 (o18 : q63_6 r fun x33 x46 => (mach r x33).changes.length - (x46 + 1) < (mach r x33).changes.length - x46)
 (o19 : q63_7 r fun x33 x46 => inI ((x33 : Int) + 1))
 (o20 : q63_7 r fun x33 x46 => (x33 : Int) + 1 = (↑(x33 + 1) : Int))
 (o21 : q63_7 r fun x33 x46 => x33 + 1 <= r.machines.length /\ ∀ (j : Nat), j < x33 + 1 -> okMachA r (mach r j) = true)
 (o22 : q63_7 r fun x33 x46 => r.machines.length - (x33 + 1) < r.machines.length - x33)
 (o23 : q63_8 r fun x33 => 0 = (↑0 : Int))
 (o24 : q63_8 r fun x33 => 0 <= r.found.length /\ ∀ (j : Nat), j < 0 -> okFndA r (fnd r j) = true)
 (o25 : q63_9 r fun x33 x50 => 0 <= (x50 : Int))
 (o26 : q63_9 r fun x33 x50 => (x50 : Int) < (↑(r.found.length) : Int))
 (o27 : q63_9 r fun x33 x50 => inI (r.last - 1))
 (o28 : q63_9 r fun x33 x50 => (!within (fnd r x50).minute 0 (r.last - 1)) = false -> (!!within (fnd r x50).minute 0 (r.last - 1)) = true)
 (o29 : q63_9 r fun x33 x50 => (bif !within (fnd r x50).minute 0 (r.last - 1) then true else !decide ((↑((fnd r x50).new.length) : Int) = r.plates)) = false -> (!bif !within (fnd r x50).minute 0 (r.last - 1) then true else !decide ((↑((fnd r x50).new.length) : Int) = r.plates)) = true)
 (o30 : q63_10 r fun x33 x50 => inI ((↑(r.machines.length) : Int) - 1))
 (o31 : q63_10 r fun x33 x50 => (fnd r x50).frm.length <= 1125899906842624)
 (o32 : q63_9 r fun x33 x50 => (bif bif !within (fnd r x50).minute 0 (r.last - 1) then true else !decide ((↑((fnd r x50).new.length) : Int) = r.plates) then true else decide ((↑((fnd r x50).frm.length) : Int) = 0)) = false -> (!bif bif !within (fnd r x50).minute 0 (r.last - 1) then true else !decide ((↑((fnd r x50).new.length) : Int) = r.plates) then true else decide ((↑((fnd r x50).frm.length) : Int) = 0)) = true)
 (o33 : q63_9 r fun x33 x50 => (bif bif bif !within (fnd r x50).minute 0 (r.last - 1) then true else !decide ((↑((fnd r x50).new.length) : Int) = r.plates) then true else decide ((↑((fnd r x50).frm.length) : Int) = 0) then true else !rising (fnd r x50).frm 0 ((↑(r.machines.length) : Int) - 1)) = true -> 60 = check r)
 (o34 : q63_11 r fun x33 x50 => 0 = (↑0 : Int))
 (o35 : q63_11 r fun x33 x50 => 0 <= (fnd r x50).new.length /\ ∀ (j : Nat), j < 0 -> within ((fnd r x50).new.getD j 0) (-1) 1 = true)
 (o36 : q63_12 r fun x33 x50 x94 => 0 <= (x94 : Int))
 (o37 : q63_12 r fun x33 x50 x94 => (x94 : Int) < (↑((fnd r x50).new.length) : Int))
 (o38 : q63_12 r fun x33 x50 x94 => (!within ((fnd r x50).new.getD x94 0) (-1) 1) = true -> 60 = check r)
 (o39 : q63_13 r fun x33 x50 x94 => inI ((x94 : Int) + 1))
 (o40 : q63_13 r fun x33 x50 x94 => (x94 : Int) + 1 = (↑(x94 + 1) : Int))
 (o41 : q63_13 r fun x33 x50 x94 => x94 + 1 <= (fnd r x50).new.length /\ ∀ (j : Nat), j < x94 + 1 -> within ((fnd r x50).new.getD j 0) (-1) 1 = true)
 (o42 : q63_13 r fun x33 x50 x94 => (fnd r x50).new.length - (x94 + 1) < (fnd r x50).new.length - x94)
 (o43 : q63_14 r fun x33 x50 x94 => inI ((x50 : Int) + 1))
 (o44 : q63_14 r fun x33 x50 x94 => (x50 : Int) + 1 = (↑(x50 + 1) : Int))
 (o45 : q63_14 r fun x33 x50 x94 => x50 + 1 <= r.found.length /\ ∀ (j : Nat), j < x50 + 1 -> okFndA r (fnd r j) = true)
 (o46 : q63_14 r fun x33 x50 x94 => r.found.length - (x50 + 1) < r.found.length - x50)
 (o47 : q63_8 r fun x33 => ∀ (x50 : Nat), (x50 <= r.found.length /\ ∀ (j : Nat), j < x50 -> okFndA r (fnd r j) = true) -> decide ((x50 : Int) < (↑(r.found.length) : Int)) = false -> 0 = check r) :
  Triple Try.prog 63 (s63 r) := by
 refine triple_of Try.func63 rfl Try.call63 T0_ok _ rfl rfl rfl rfl (Nat.le_of_ble_eq_true (by kernel_rfl)) (fun _ _ _ _ h => h) ?_
 intro hp C hC _ hE
 obtain ⟨P, w0, E0, av, hA⟩ := C
 subst hC
 refine swp_seq ?_
 refine sR (kt := [1]) (kh := [0]) (q := True /\ True /\ True) (st' := ASt.mk [(1, .ptr 0 [])] [(0, .cells 25 (cRun r))] 16) (by kernel_rfl) ⟨tv, tv, tv⟩ ?_
 refine swp_seq (swp_seq ?_)
 refine swp_region T0_ok mixed (cs := [(2, CallSpec.eq (s76 r.plates 1 3) [true, true, true]), (7, CallSpec.eq (s76 r.last 1 30) [true, true, true]), (14, CallSpec.eq (s76 (↑(r.machines.length) : Int) 1 3) [true, true, true])]) (kt := [1, 31]) (kh := [0]) (q := True /\ True /\ ((iv r.plates = iv r.plates /\ iv 1 = iv 1 /\ iv 3 = iv 3 /\ True) /\ Triple Try.prog 76 (s76 r.plates 1 3) /\ True /\ True /\ ∀ (i0 : Env), True) /\ True /\ True /\ ((!!within r.plates 1 3) = true -> (True /\ True) /\ True) /\ ((!!within r.plates 1 3) = true -> (((!!within r.plates 1 3) = true -> (!!within r.plates 1 3) = true) /\ True) /\ True) /\ ((!!within r.plates 1 3) = true -> (True /\ ((!!within r.plates 1 3) = true -> (!!within r.plates 1 3) = true) /\ True /\ True /\ True) /\ (iv r.last = iv r.last /\ iv 1 = iv 1 /\ iv 30 = iv 30 /\ True) /\ Triple Try.prog 76 (s76 r.last 1 30) /\ True /\ True /\ ∀ (i6 : Env), True) /\ ((!!within r.plates 1 3) = true -> (((!!within r.plates 1 3) = true -> (!!within r.plates 1 3) = true) /\ True) /\ True) /\ (((!within r.plates 1 3) = true -> True) /\ ((!within r.plates 1 3) = false -> (!!within r.plates 1 3) = true)) /\ True /\ ((!bif !within r.plates 1 3 then true else !within r.last 1 30) = true -> (True /\ True) /\ True) /\ ((!bif !within r.plates 1 3 then true else !within r.last 1 30) = true -> (((!bif !within r.plates 1 3 then true else !within r.last 1 30) = true -> (!bif !within r.plates 1 3 then true else !within r.last 1 30) = true) /\ True) /\ True) /\ ((!bif !within r.plates 1 3 then true else !within r.last 1 30) = true -> (((!bif !within r.plates 1 3 then true else !within r.last 1 30) = true -> (!bif !within r.plates 1 3 then true else !within r.last 1 30) = true) /\ True) /\ True) /\ ((!bif !within r.plates 1 3 then true else !within r.last 1 30) = true -> (True /\ ((!bif !within r.plates 1 3 then true else !within r.last 1 30) = true -> (!bif !within r.plates 1 3 then true else !within r.last 1 30) = true) /\ True /\ True /\ True) /\ (iv (↑(r.machines.length) : Int) = iv (↑(r.machines.length) : Int) /\ iv 1 = iv 1 /\ iv 3 = iv 3 /\ True) /\ Triple Try.prog 76 (s76 (↑(r.machines.length) : Int) 1 3) /\ True /\ True /\ ∀ (i18 : Env), True) /\ ((!bif !within r.plates 1 3 then true else !within r.last 1 30) = true -> (((!bif !within r.plates 1 3 then true else !within r.last 1 30) = true -> (!bif !within r.plates 1 3 then true else !within r.last 1 30) = true) /\ True) /\ True) /\ (((bif !within r.plates 1 3 then true else !within r.last 1 30) = true -> True) /\ ((bif !within r.plates 1 3 then true else !within r.last 1 30) = false -> (!bif !within r.plates 1 3 then true else !within r.last 1 30) = true)) /\ True /\ ((!bif bif !within r.plates 1 3 then true else !within r.last 1 30 then true else !within (↑(r.machines.length) : Int) 1 3) = true -> (True /\ True) /\ True) /\ ((!bif bif !within r.plates 1 3 then true else !within r.last 1 30 then true else !within (↑(r.machines.length) : Int) 1 3) = true -> (((!bif bif !within r.plates 1 3 then true else !within r.last 1 30 then true else !within (↑(r.machines.length) : Int) 1 3) = true -> (!bif bif !within r.plates 1 3 then true else !within r.last 1 30 then true else !within (↑(r.machines.length) : Int) 1 3) = true) /\ True) /\ True) /\ ((!bif bif !within r.plates 1 3 then true else !within r.last 1 30 then true else !within (↑(r.machines.length) : Int) 1 3) = true -> (((!bif bif !within r.plates 1 3 then true else !within r.last 1 30 then true else !within (↑(r.machines.length) : Int) 1 3) = true -> (!bif bif !within r.plates 1 3 then true else !within r.last 1 30 then true else !within (↑(r.machines.length) : Int) 1 3) = true) /\ True) /\ True) /\ ((!bif bif !within r.plates 1 3 then true else !within r.last 1 30 then true else !within (↑(r.machines.length) : Int) 1 3) = true -> (((!bif bif !within r.plates 1 3 then true else !within r.last 1 30 then true else !within (↑(r.machines.length) : Int) 1 3) = true -> (!bif bif !within r.plates 1 3 then true else !within r.last 1 30 then true else !within (↑(r.machines.length) : Int) 1 3) = true) /\ True /\ True) /\ True) /\ (((bif bif !within r.plates 1 3 then true else !within r.last 1 30 then true else !within (↑(r.machines.length) : Int) 1 3) = true -> True) /\ ((bif bif !within r.plates 1 3 then true else !within r.last 1 30 then true else !within (↑(r.machines.length) : Int) 1 3) = false -> (!bif bif !within r.plates 1 3 then true else !within r.last 1 30 then true else !within (↑(r.machines.length) : Int) 1 3) = true)) /\ True) (st' := ASt.mk [(1, .ptr 0 []), (31, bv (bif bif bif !within r.plates 1 3 then true else !within r.last 1 30 then true else !within (↑(r.machines.length) : Int) 1 3 then true else decide (6 < (↑(r.found.length) : Int))))] [(0, .cells 25 (cRun r))] 200) (by kernel_rfl) ⟨tv, tv, ⟨⟨rfl, rfl, rfl, tv⟩, (t76 r.plates (1) (3)), tv, tv, (fun i0 => tv)⟩, tv, tv, (fun h1 => ⟨⟨tv, tv⟩, tv⟩), (fun h2 => ⟨⟨(fun h3 => h2), tv⟩, tv⟩), (fun h4 => ⟨⟨tv, (fun h5 => h4), tv, tv, tv⟩, ⟨rfl, rfl, rfl, tv⟩, (t76 r.last (1) (30)), tv, tv, (fun i6 => tv)⟩), (fun h7 => ⟨⟨(fun h8 => h7), tv⟩, tv⟩), ⟨(fun h9 => tv), (fun h10 => (o0 hp h10))⟩, tv, (fun h11 => ⟨⟨tv, tv⟩, tv⟩), (fun h12 => ⟨⟨(fun h13 => h12), tv⟩, tv⟩), (fun h14 => ⟨⟨(fun h15 => h14), tv⟩, tv⟩), (fun h16 => ⟨⟨tv, (fun h17 => h16), tv, tv, tv⟩, ⟨rfl, rfl, rfl, tv⟩, (t76 ((↑(r.machines.length) : Int)) (1) (3)), tv, tv, (fun i18 => tv)⟩), (fun h19 => ⟨⟨(fun h20 => h19), tv⟩, tv⟩), ⟨(fun h21 => tv), (fun h22 => (o1 hp h22))⟩, tv, (fun h23 => ⟨⟨tv, tv⟩, tv⟩), (fun h24 => ⟨⟨(fun h25 => h24), tv⟩, tv⟩), (fun h26 => ⟨⟨(fun h27 => h26), tv⟩, tv⟩), (fun h28 => ⟨⟨(fun h29 => h28), tv, tv⟩, tv⟩), ⟨(fun h30 => tv), (fun h31 => (o2 hp h31))⟩, tv⟩ ?_
 refine swp_cond (bif bif bif !within r.plates 1 3 then true else !within r.last 1 30 then true else !within (↑(r.machines.length) : Int) 1 3 then true else decide (6 < (↑(r.found.length) : Int))) (by kernel_rfl) (fun h32 => ?_) (fun h32 => ?_)
 ·refine swp_seq ?_
  refine sR (kt := [2]) (kh := []) (q := True /\ True) (st' := ASt.mk [(2, iv 60)] [] 208) (by kernel_rfl) ⟨tv, tv⟩ ?_
  refine swp_ret ?_
  exact ret_q [] ((True /\ True) /\ (iv 60 = iv (check r) /\ nilN = []) /\ T3) (by kernel_rfl) ⟨⟨tv, tv⟩, ⟨(congrArg iv (o3 hp h32)), rfl⟩, rfl, rfl, rfl⟩
 ·refine swp_skip (swp_seq (swp_seq ?_))
  refine sR (kt := [1, 3]) (kh := [0]) (q := True /\ True) (st' := ASt.mk [(1, .ptr 0 []), (3, iv 0)] [(0, .cells 25 (cRun r))] 208) (by kernel_rfl) ⟨tv, tv⟩ ?_
  refine swp_block ?_
  refine swp_loopA (Hint.ann (h63a r) [(1, AV.ptr 0 [])] [(0, OB.cells 25 (cRun r))] 10208) (ent_q hE [] [(0, .same 0)] [] [0] (((some (Src.same 0) = some (Src.same 0) /\ nilP = []) /\ (iv 0 = iv (↑0 : Int) /\ nilN = []) /\ True) /\ ((OB.cells 25 (cRun r) = OB.cells 25 (cRun r) /\ true = true) /\ True) /\ T2) (by kernel_rfl) (by kernel_rfl) ⟨⟨⟨rfl, rfl⟩, ⟨(congrArg iv (o4 hp h32)), rfl⟩, tv⟩, ⟨⟨rfl, rfl⟩, tv⟩, rfl, rfl⟩) (o5 hp h32) (fun (x33 : Nat) hx33 => ?_)
  refine swp_seq (swp_seq ?_)
  refine sR (kt := [1, 3, 36]) (kh := [0]) (q := True /\ True /\ True /\ True /\ True /\ True) (st' := ASt.mk [(1, .ptr 0 []), (3, iv (x33 : Int)), (36, bv (decide ((x33 : Int) < (↑(r.machines.length) : Int))))] [(0, .cells 25 (cRun r))] 10248) (by kernel_rfl) ⟨tv, tv, tv, tv, tv, tv⟩ ?_
  refine swp_cond (decide ((x33 : Int) < (↑(r.machines.length) : Int))) (by kernel_rfl) (fun h34 => ?_) (fun h34 => ?_)
  ·refine swp_skip (swp_seq (swp_block (swp_seq ?_)))
   refine sR (kt := [1, 3, 4]) (kh := [0, 10288]) (q := True /\ True /\ True /\ (0 <= (x33 : Int) /\ (x33 : Int) < (↑(r.machines.length) : Int)) /\ True /\ True /\ True /\ True) (st' := ASt.mk [(1, .ptr 0 []), (3, iv (x33 : Int)), (4, .ptr 10288 [])] [(0, .cells 25 (cRun r)), (10288, .cells 42 (cMach (mach r x33)))] 10304) (by kernel_rfl) ⟨tv, tv, tv, ⟨(o6 hp h32 x33 hx33 h34), (o7 hp h32 x33 hx33 h34)⟩, tv, tv, tv, tv⟩ ?_
   refine swp_seq (swp_seq ?_)
   refine swp_region T0_ok mixed (cs := [(9, CallSpec.eq (s76 (mach r x33).rate 0 9) [true, true, true])]) (kt := [1, 3, 4, 55]) (kh := [0, 10288]) (q := True /\ True /\ True /\ True /\ True /\ True /\ True /\ ((!!decide ((↑((mach r x33).changes.length) : Int) = r.plates)) -> (True /\ True) /\ True) /\ ((!!decide ((↑((mach r x33).changes.length) : Int) = r.plates)) -> (((!!decide ((↑((mach r x33).changes.length) : Int) = r.plates)) -> (!!decide ((↑((mach r x33).changes.length) : Int) = r.plates)) = true) /\ True) /\ True) /\ ((!!decide ((↑((mach r x33).changes.length) : Int) = r.plates)) -> (True /\ ((!!decide ((↑((mach r x33).changes.length) : Int) = r.plates)) -> (!!decide ((↑((mach r x33).changes.length) : Int) = r.plates)) = true) /\ True /\ True /\ True) /\ (iv (mach r x33).rate = iv (mach r x33).rate /\ iv 0 = iv 0 /\ iv 9 = iv 9 /\ True) /\ Triple Try.prog 76 (s76 (mach r x33).rate 0 9) /\ True /\ True /\ ∀ (i40 : Env), True) /\ ((!!decide ((↑((mach r x33).changes.length) : Int) = r.plates)) -> (((!!decide ((↑((mach r x33).changes.length) : Int) = r.plates)) -> (!!decide ((↑((mach r x33).changes.length) : Int) = r.plates)) = true) /\ True) /\ True) /\ (((!decide ((↑((mach r x33).changes.length) : Int) = r.plates)) -> True) /\ ((!decide ((↑((mach r x33).changes.length) : Int) = r.plates)) = false -> (!!decide ((↑((mach r x33).changes.length) : Int) = r.plates)) = true)) /\ True) (st' := ASt.mk [(1, .ptr 0 []), (3, iv (x33 : Int)), (4, .ptr 10288 []), (55, bv (bif !decide ((↑((mach r x33).changes.length) : Int) = r.plates) then true else !within (mach r x33).rate 0 9))] [(0, .cells 25 (cRun r)), (10288, .cells 42 (cMach (mach r x33)))] 10400) (by kernel_rfl) ⟨tv, tv, tv, tv, tv, tv, tv, (fun h35 => ⟨⟨tv, tv⟩, tv⟩), (fun h36 => ⟨⟨(fun h37 => h36), tv⟩, tv⟩), (fun h38 => ⟨⟨tv, (fun h39 => h38), tv, tv, tv⟩, ⟨rfl, rfl, rfl, tv⟩, (t76 (mach r x33).rate (0) (9)), tv, tv, (fun i40 => tv)⟩), (fun h41 => ⟨⟨(fun h42 => h41), tv⟩, tv⟩), ⟨(fun h43 => tv), (fun h44 => (o8 hp h32 x33 hx33 h34 h44))⟩, tv⟩ ?_
   refine swp_cond (bif !decide ((↑((mach r x33).changes.length) : Int) = r.plates) then true else !within (mach r x33).rate 0 9) (by kernel_rfl) (fun h45 => ?_) (fun h45 => ?_)
   ·refine swp_seq ?_
    refine sR (kt := [2]) (kh := []) (q := True /\ True) (st' := ASt.mk [(2, iv 60)] [] 10408) (by kernel_rfl) ⟨tv, tv⟩ ?_
    refine swp_ret ?_
    exact ret_q [] ((True /\ True) /\ (iv 60 = iv (check r) /\ nilN = []) /\ T3) (by kernel_rfl) ⟨⟨tv, tv⟩, ⟨(congrArg iv (o9 hp h32 x33 hx33 h34 h45)), rfl⟩, rfl, rfl, rfl⟩
   ·refine swp_skip (swp_seq ?_)
    refine sR (kt := [1, 3, 4, 5]) (kh := [0, 10288]) (q := True /\ True) (st' := ASt.mk [(1, .ptr 0 []), (3, iv (x33 : Int)), (4, .ptr 10288 []), (5, iv 0)] [(0, .cells 25 (cRun r)), (10288, .cells 42 (cMach (mach r x33)))] 10408) (by kernel_rfl) ⟨tv, tv⟩ ?_
    refine swp_block ?_
    refine swp_loopA (Hint.ann (h63b r x33) [(1, AV.ptr 0 []), (3, iv (x33 : Int)), (4, AV.ptr 10288 [])] [(0, OB.cells 25 (cRun r)), (10288, OB.cells 42 (cMach (mach r x33)))] 20408) (ent_q hE [] [(0, .same 0), (10288, .same 10288)] [3] [0, 10288] (((some (Src.same 0) = some (Src.same 0) /\ nilP = []) /\ (iv (x33 : Int) = iv (x33 : Int) /\ true = true) /\ (some (Src.same 10288) = some (Src.same 10288) /\ nilP = []) /\ (iv 0 = iv (↑0 : Int) /\ nilN = []) /\ True) /\ ((OB.cells 25 (cRun r) = OB.cells 25 (cRun r) /\ true = true) /\ (OB.cells 42 (cMach (mach r x33)) = OB.cells 42 (cMach (mach r x33)) /\ true = true) /\ True) /\ T2) (by kernel_rfl) (by kernel_rfl) ⟨⟨⟨rfl, rfl⟩, ⟨rfl, rfl⟩, ⟨rfl, rfl⟩, ⟨(congrArg iv (o10 hp h32 x33 hx33 h34 h45)), rfl⟩, tv⟩, ⟨⟨rfl, rfl⟩, ⟨rfl, rfl⟩, tv⟩, rfl, rfl⟩) (o11 hp h32 x33 hx33 h34 h45) (fun (x46 : Nat) hx46 => ?_)
    refine swp_seq (swp_seq ?_)
    refine sR (kt := [1, 3, 4, 5, 60]) (kh := [0, 10288]) (q := True /\ True /\ True /\ True /\ True /\ True) (st' := ASt.mk [(1, .ptr 0 []), (3, iv (x33 : Int)), (4, .ptr 10288 []), (5, iv (x46 : Int)), (60, bv (decide ((x46 : Int) < (↑((mach r x33).changes.length) : Int))))] [(0, .cells 25 (cRun r)), (10288, .cells 42 (cMach (mach r x33)))] 20448) (by kernel_rfl) ⟨tv, tv, tv, tv, tv, tv⟩ ?_
    refine swp_cond (decide ((x46 : Int) < (↑((mach r x33).changes.length) : Int))) (by kernel_rfl) (fun h47 => ?_) (fun h47 => ?_)
    ·refine swp_skip (swp_seq (swp_block (swp_seq ?_)))
     refine swp_region T0_ok mixed (cs := [(7, CallSpec.eq (s105 ((mach r x33).changes.getD x46 default) r.last) [true, true])]) (kt := [1, 3, 4, 5, 71]) (kh := [0, 10288]) (q := True /\ True /\ True /\ (0 <= (x46 : Int) /\ (x46 : Int) < (↑((mach r x33).changes.length) : Int)) /\ True /\ True /\ True /\ ((AV.agg (cSpan ((mach r x33).changes.getD x46 default)) = AV.agg (cSpan ((mach r x33).changes.getD x46 default)) /\ iv r.last = iv r.last /\ True) /\ Triple Try.prog 105 (s105 ((mach r x33).changes.getD x46 default) r.last) /\ True /\ True /\ ∀ (i48 : Env), True) /\ True /\ True) (st' := ASt.mk [(1, .ptr 0 []), (3, iv (x33 : Int)), (4, .ptr 10288 []), (5, iv (x46 : Int)), (71, bv !isSpan ((mach r x33).changes.getD x46 default) r.last)] [(0, .cells 25 (cRun r)), (10288, .cells 42 (cMach (mach r x33)))] 20520) (by kernel_rfl) ⟨tv, tv, tv, ⟨(o12 hp h32 x33 hx33 h34 h45 x46 hx46 h47), (o13 hp h32 x33 hx33 h34 h45 x46 hx46 h47)⟩, tv, tv, tv, ⟨⟨rfl, rfl, tv⟩, (t105 ((mach r x33).changes.getD x46 default) r.last), tv, tv, (fun i48 => tv)⟩, tv, tv⟩ ?_
     refine swp_cond (!isSpan ((mach r x33).changes.getD x46 default) r.last) (by kernel_rfl) (fun h49 => ?_) (fun h49 => ?_)
     ·refine swp_seq ?_
      refine sR (kt := [2]) (kh := []) (q := True /\ True) (st' := ASt.mk [(2, iv 60)] [] 20528) (by kernel_rfl) ⟨tv, tv⟩ ?_
      refine swp_ret ?_
      exact ret_q [] ((True /\ True) /\ (iv 60 = iv (check r) /\ nilN = []) /\ T3) (by kernel_rfl) ⟨⟨tv, tv⟩, ⟨(congrArg iv (o14 hp h32 x33 hx33 h34 h45 x46 hx46 h47 h49)), rfl⟩, rfl, rfl, rfl⟩
     ·refine swp_skip ?_
      refine sR (kt := [1, 3, 4, 5]) (kh := [0, 10288]) (q := True /\ inI ((x46 : Int) + 1) /\ True /\ True) (st' := ASt.mk [(1, .ptr 0 []), (3, iv (x33 : Int)), (4, .ptr 10288 []), (5, iv ((x46 : Int) + 1))] [(0, .cells 25 (cRun r)), (10288, .cells 42 (cMach (mach r x33)))] 20544) (by kernel_rfl) ⟨tv, (o15 hp h32 x33 hx33 h34 h45 x46 hx46 h47 h49), tv, tv⟩ ?_
      exact loop_next (Hint.ann (h63b r x33) [(1, AV.ptr 0 []), (3, iv (x33 : Int)), (4, AV.ptr 10288 [])] [(0, OB.cells 25 (cRun r)), (10288, OB.cells 42 (cMach (mach r x33)))] 20408) x46 (ent_q hE [] [(0, .same 0), (10288, .same 10288)] [3] [0, 10288] (((some (Src.same 0) = some (Src.same 0) /\ nilP = []) /\ (iv (x33 : Int) = iv (x33 : Int) /\ true = true) /\ (some (Src.same 10288) = some (Src.same 10288) /\ nilP = []) /\ (iv ((x46 : Int) + 1) = iv (↑(x46 + 1) : Int) /\ nilN = []) /\ True) /\ ((OB.cells 25 (cRun r) = OB.cells 25 (cRun r) /\ true = true) /\ (OB.cells 42 (cMach (mach r x33)) = OB.cells 42 (cMach (mach r x33)) /\ true = true) /\ True) /\ T2) (by kernel_rfl) (by kernel_rfl) ⟨⟨⟨rfl, rfl⟩, ⟨rfl, rfl⟩, ⟨rfl, rfl⟩, ⟨(congrArg iv (o16 hp h32 x33 hx33 h34 h45 x46 hx46 h47 h49)), rfl⟩, tv⟩, ⟨⟨rfl, rfl⟩, ⟨rfl, rfl⟩, tv⟩, rfl, rfl⟩) (o17 hp h32 x33 hx33 h34 h45 x46 hx46 h47 h49) (o18 hp h32 x33 hx33 h34 h45 x46 hx46 h47 h49)
    ·refine swp_exit ?_
     refine sR (kt := [1, 3]) (kh := [0]) (q := True /\ inI ((x33 : Int) + 1) /\ True /\ True) (st' := ASt.mk [(1, .ptr 0 []), (3, iv ((x33 : Int) + 1))] [(0, .cells 25 (cRun r))] 20472) (by kernel_rfl) ⟨tv, (o19 hp h32 x33 hx33 h34 h45 x46 hx46 h47), tv, tv⟩ ?_
     exact loop_next (Hint.ann (h63a r) [(1, AV.ptr 0 [])] [(0, OB.cells 25 (cRun r))] 10208) x33 (ent_q hE [] [(0, .same 0)] [] [0] (((some (Src.same 0) = some (Src.same 0) /\ nilP = []) /\ (iv ((x33 : Int) + 1) = iv (↑(x33 + 1) : Int) /\ nilN = []) /\ True) /\ ((OB.cells 25 (cRun r) = OB.cells 25 (cRun r) /\ true = true) /\ True) /\ T2) (by kernel_rfl) (by kernel_rfl) ⟨⟨⟨rfl, rfl⟩, ⟨(congrArg iv (o20 hp h32 x33 hx33 h34 h45 x46 hx46 h47)), rfl⟩, tv⟩, ⟨⟨rfl, rfl⟩, tv⟩, rfl, rfl⟩) (o21 hp h32 x33 hx33 h34 h45 x46 hx46 h47) (o22 hp h32 x33 hx33 h34 h45 x46 hx46 h47)
  ·refine swp_exit (swp_seq (swp_seq ?_))
   refine sR (kt := [1, 6]) (kh := [0]) (q := True /\ True) (st' := ASt.mk [(1, .ptr 0 []), (6, iv 0)] [(0, .cells 25 (cRun r))] 10256) (by kernel_rfl) ⟨tv, tv⟩ ?_
   refine swp_block ?_
   refine swp_loopA (Hint.ann (h63c r) [(1, AV.ptr 0 [])] [(0, OB.cells 25 (cRun r))] 20256) (ent_q hE [] [(0, .same 0)] [] [0] (((some (Src.same 0) = some (Src.same 0) /\ nilP = []) /\ (iv 0 = iv (↑0 : Int) /\ nilN = []) /\ True) /\ ((OB.cells 25 (cRun r) = OB.cells 25 (cRun r) /\ true = true) /\ True) /\ T2) (by kernel_rfl) (by kernel_rfl) ⟨⟨⟨rfl, rfl⟩, ⟨(congrArg iv (o23 hp h32 x33 hx33 h34)), rfl⟩, tv⟩, ⟨⟨rfl, rfl⟩, tv⟩, rfl, rfl⟩) (o24 hp h32 x33 hx33 h34) (fun (x50 : Nat) hx50 => ?_)
   refine swp_seq (swp_seq ?_)
   refine sR (kt := [1, 6, 76]) (kh := [0]) (q := True /\ True /\ True /\ True /\ True /\ True) (st' := ASt.mk [(1, .ptr 0 []), (6, iv (x50 : Int)), (76, bv (decide ((x50 : Int) < (↑(r.found.length) : Int))))] [(0, .cells 25 (cRun r))] 20296) (by kernel_rfl) ⟨tv, tv, tv, tv, tv, tv⟩ ?_
   refine swp_cond (decide ((x50 : Int) < (↑(r.found.length) : Int))) (by kernel_rfl) (fun h51 => ?_) (fun h51 => ?_)
   ·refine swp_skip (swp_seq (swp_block (swp_seq ?_)))
    refine sR (kt := [1, 6, 7]) (kh := [0, 20336]) (q := True /\ True /\ True /\ (0 <= (x50 : Int) /\ (x50 : Int) < (↑(r.found.length) : Int)) /\ True /\ True /\ True /\ True) (st' := ASt.mk [(1, .ptr 0 []), (6, iv (x50 : Int)), (7, .ptr 20336 [])] [(0, .cells 25 (cRun r)), (20336, .cells 32 (cFnd (fnd r x50)))] 20352) (by kernel_rfl) ⟨tv, tv, tv, ⟨(o25 hp h32 x33 hx33 h34 x50 hx50 h51), (o26 hp h32 x33 hx33 h34 x50 hx50 h51)⟩, tv, tv, tv, tv⟩ ?_
    refine swp_seq (swp_seq ?_)
    refine swp_region T0_ok mixed (cs := [(5, CallSpec.eq (s76 (fnd r x50).minute 0 (r.last - 1)) [true, true, true]), (28, CallSpec.eq (s52 (fnd r x50).frm 0 ((↑(r.machines.length) : Int) - 1)) [true, true, true])]) (kt := [1, 6, 7, 114]) (kh := [0, 20336]) (q := True /\ True /\ True /\ True /\ inI (r.last - 1) /\ ((iv (fnd r x50).minute = iv (fnd r x50).minute /\ iv 0 = iv 0 /\ iv (r.last - 1) = iv (r.last - 1) /\ True) /\ Triple Try.prog 76 (s76 (fnd r x50).minute 0 (r.last - 1)) /\ True /\ True /\ ∀ (i52 : Env), True) /\ True /\ True /\ ((!!within (fnd r x50).minute 0 (r.last - 1)) = true -> (True /\ True) /\ True) /\ ((!!within (fnd r x50).minute 0 (r.last - 1)) = true -> (((!!within (fnd r x50).minute 0 (r.last - 1)) = true -> (!!within (fnd r x50).minute 0 (r.last - 1)) = true) /\ True) /\ True) /\ ((!!within (fnd r x50).minute 0 (r.last - 1)) = true -> (((!!within (fnd r x50).minute 0 (r.last - 1)) = true -> (!!within (fnd r x50).minute 0 (r.last - 1)) = true) /\ True) /\ True) /\ ((!!within (fnd r x50).minute 0 (r.last - 1)) = true -> (True /\ True) /\ True) /\ ((!!within (fnd r x50).minute 0 (r.last - 1)) = true -> (((!!within (fnd r x50).minute 0 (r.last - 1)) = true -> (!!within (fnd r x50).minute 0 (r.last - 1)) = true) /\ True) /\ True) /\ ((!!within (fnd r x50).minute 0 (r.last - 1)) = true -> (((!!within (fnd r x50).minute 0 (r.last - 1)) = true -> (!!within (fnd r x50).minute 0 (r.last - 1)) = true) /\ ((!!within (fnd r x50).minute 0 (r.last - 1)) = true -> (!!within (fnd r x50).minute 0 (r.last - 1)) = true) /\ True) /\ True) /\ (((!within (fnd r x50).minute 0 (r.last - 1)) = true -> True) /\ ((!within (fnd r x50).minute 0 (r.last - 1)) = false -> (!!within (fnd r x50).minute 0 (r.last - 1)) = true)) /\ True /\ ((!bif !within (fnd r x50).minute 0 (r.last - 1) then true else !decide ((↑((fnd r x50).new.length) : Int) = r.plates)) = true -> (True /\ True) /\ True) /\ ((!bif !within (fnd r x50).minute 0 (r.last - 1) then true else !decide ((↑((fnd r x50).new.length) : Int) = r.plates)) = true -> (((!bif !within (fnd r x50).minute 0 (r.last - 1) then true else !decide ((↑((fnd r x50).new.length) : Int) = r.plates)) = true -> (!bif !within (fnd r x50).minute 0 (r.last - 1) then true else !decide ((↑((fnd r x50).new.length) : Int) = r.plates)) = true) /\ True) /\ True) /\ ((!bif !within (fnd r x50).minute 0 (r.last - 1) then true else !decide ((↑((fnd r x50).new.length) : Int) = r.plates)) = true -> (((!bif !within (fnd r x50).minute 0 (r.last - 1) then true else !decide ((↑((fnd r x50).new.length) : Int) = r.plates)) = true -> (!bif !within (fnd r x50).minute 0 (r.last - 1) then true else !decide ((↑((fnd r x50).new.length) : Int) = r.plates)) = true) /\ True) /\ True) /\ ((!bif !within (fnd r x50).minute 0 (r.last - 1) then true else !decide ((↑((fnd r x50).new.length) : Int) = r.plates)) = true -> (((!bif !within (fnd r x50).minute 0 (r.last - 1) then true else !decide ((↑((fnd r x50).new.length) : Int) = r.plates)) = true -> (!bif !within (fnd r x50).minute 0 (r.last - 1) then true else !decide ((↑((fnd r x50).new.length) : Int) = r.plates)) = true) /\ True /\ True) /\ True) /\ (((bif !within (fnd r x50).minute 0 (r.last - 1) then true else !decide ((↑((fnd r x50).new.length) : Int) = r.plates)) = true -> True) /\ ((bif !within (fnd r x50).minute 0 (r.last - 1) then true else !decide ((↑((fnd r x50).new.length) : Int) = r.plates)) = false -> (!bif !within (fnd r x50).minute 0 (r.last - 1) then true else !decide ((↑((fnd r x50).new.length) : Int) = r.plates)) = true)) /\ True /\ ((!bif bif !within (fnd r x50).minute 0 (r.last - 1) then true else !decide ((↑((fnd r x50).new.length) : Int) = r.plates) then true else decide ((↑((fnd r x50).frm.length) : Int) = 0)) = true -> (True /\ True) /\ True) /\ ((!bif bif !within (fnd r x50).minute 0 (r.last - 1) then true else !decide ((↑((fnd r x50).new.length) : Int) = r.plates) then true else decide ((↑((fnd r x50).frm.length) : Int) = 0)) = true -> (((!bif bif !within (fnd r x50).minute 0 (r.last - 1) then true else !decide ((↑((fnd r x50).new.length) : Int) = r.plates) then true else decide ((↑((fnd r x50).frm.length) : Int) = 0)) = true -> (!bif bif !within (fnd r x50).minute 0 (r.last - 1) then true else !decide ((↑((fnd r x50).new.length) : Int) = r.plates) then true else decide ((↑((fnd r x50).frm.length) : Int) = 0)) = true) /\ True) /\ True) /\ ((!bif bif !within (fnd r x50).minute 0 (r.last - 1) then true else !decide ((↑((fnd r x50).new.length) : Int) = r.plates) then true else decide ((↑((fnd r x50).frm.length) : Int) = 0)) = true -> (True /\ True) /\ True) /\ ((!bif bif !within (fnd r x50).minute 0 (r.last - 1) then true else !decide ((↑((fnd r x50).new.length) : Int) = r.plates) then true else decide ((↑((fnd r x50).frm.length) : Int) = 0)) = true -> (((!bif bif !within (fnd r x50).minute 0 (r.last - 1) then true else !decide ((↑((fnd r x50).new.length) : Int) = r.plates) then true else decide ((↑((fnd r x50).frm.length) : Int) = 0)) = true -> (!bif bif !within (fnd r x50).minute 0 (r.last - 1) then true else !decide ((↑((fnd r x50).new.length) : Int) = r.plates) then true else decide ((↑((fnd r x50).frm.length) : Int) = 0)) = true) /\ True) /\ True) /\ ((!bif bif !within (fnd r x50).minute 0 (r.last - 1) then true else !decide ((↑((fnd r x50).new.length) : Int) = r.plates) then true else decide ((↑((fnd r x50).frm.length) : Int) = 0)) = true -> (((!bif bif !within (fnd r x50).minute 0 (r.last - 1) then true else !decide ((↑((fnd r x50).new.length) : Int) = r.plates) then true else decide ((↑((fnd r x50).frm.length) : Int) = 0)) = true -> (!bif bif !within (fnd r x50).minute 0 (r.last - 1) then true else !decide ((↑((fnd r x50).new.length) : Int) = r.plates) then true else decide ((↑((fnd r x50).frm.length) : Int) = 0)) = true) /\ True) /\ True) /\ ((!bif bif !within (fnd r x50).minute 0 (r.last - 1) then true else !decide ((↑((fnd r x50).new.length) : Int) = r.plates) then true else decide ((↑((fnd r x50).frm.length) : Int) = 0)) = true -> (((!bif bif !within (fnd r x50).minute 0 (r.last - 1) then true else !decide ((↑((fnd r x50).new.length) : Int) = r.plates) then true else decide ((↑((fnd r x50).frm.length) : Int) = 0)) = true -> (!bif bif !within (fnd r x50).minute 0 (r.last - 1) then true else !decide ((↑((fnd r x50).new.length) : Int) = r.plates) then true else decide ((↑((fnd r x50).frm.length) : Int) = 0)) = true) /\ True /\ True) /\ inI ((↑(r.machines.length) : Int) - 1)) /\ ((!bif bif !within (fnd r x50).minute 0 (r.last - 1) then true else !decide ((↑((fnd r x50).new.length) : Int) = r.plates) then true else decide ((↑((fnd r x50).frm.length) : Int) = 0)) = true -> (True /\ ((!bif bif !within (fnd r x50).minute 0 (r.last - 1) then true else !decide ((↑((fnd r x50).new.length) : Int) = r.plates) then true else decide ((↑((fnd r x50).frm.length) : Int) = 0)) = true -> (!bif bif !within (fnd r x50).minute 0 (r.last - 1) then true else !decide ((↑((fnd r x50).new.length) : Int) = r.plates) then true else decide ((↑((fnd r x50).frm.length) : Int) = 0)) = true) /\ True /\ ((!bif bif !within (fnd r x50).minute 0 (r.last - 1) then true else !decide ((↑((fnd r x50).new.length) : Int) = r.plates) then true else decide ((↑((fnd r x50).frm.length) : Int) = 0)) = true -> (!bif bif !within (fnd r x50).minute 0 (r.last - 1) then true else !decide ((↑((fnd r x50).new.length) : Int) = r.plates) then true else decide ((↑((fnd r x50).frm.length) : Int) = 0)) = true) /\ True) /\ (aInts (fnd r x50).frm = aInts (fnd r x50).frm /\ iv 0 = iv 0 /\ iv ((↑(r.machines.length) : Int) - 1) = iv ((↑(r.machines.length) : Int) - 1) /\ True) /\ Triple Try.prog 52 (s52 (fnd r x50).frm 0 ((↑(r.machines.length) : Int) - 1)) /\ (fnd r x50).frm.length <= 1125899906842624 /\ True /\ ∀ (i88 : Env), True) /\ ((!bif bif !within (fnd r x50).minute 0 (r.last - 1) then true else !decide ((↑((fnd r x50).new.length) : Int) = r.plates) then true else decide ((↑((fnd r x50).frm.length) : Int) = 0)) = true -> (((!bif bif !within (fnd r x50).minute 0 (r.last - 1) then true else !decide ((↑((fnd r x50).new.length) : Int) = r.plates) then true else decide ((↑((fnd r x50).frm.length) : Int) = 0)) = true -> (!bif bif !within (fnd r x50).minute 0 (r.last - 1) then true else !decide ((↑((fnd r x50).new.length) : Int) = r.plates) then true else decide ((↑((fnd r x50).frm.length) : Int) = 0)) = true) /\ True) /\ True) /\ (((bif bif !within (fnd r x50).minute 0 (r.last - 1) then true else !decide ((↑((fnd r x50).new.length) : Int) = r.plates) then true else decide ((↑((fnd r x50).frm.length) : Int) = 0)) = true -> True) /\ ((bif bif !within (fnd r x50).minute 0 (r.last - 1) then true else !decide ((↑((fnd r x50).new.length) : Int) = r.plates) then true else decide ((↑((fnd r x50).frm.length) : Int) = 0)) = false -> (!bif bif !within (fnd r x50).minute 0 (r.last - 1) then true else !decide ((↑((fnd r x50).new.length) : Int) = r.plates) then true else decide ((↑((fnd r x50).frm.length) : Int) = 0)) = true)) /\ True) (st' := ASt.mk [(1, .ptr 0 []), (6, iv (x50 : Int)), (7, .ptr 20336 []), (114, bv (bif bif bif !within (fnd r x50).minute 0 (r.last - 1) then true else !decide ((↑((fnd r x50).new.length) : Int) = r.plates) then true else decide ((↑((fnd r x50).frm.length) : Int) = 0) then true else !rising (fnd r x50).frm 0 ((↑(r.machines.length) : Int) - 1)))] [(0, .cells 25 (cRun r)), (20336, .cells 32 (cFnd (fnd r x50)))] 20600) (by kernel_rfl) ⟨tv, tv, tv, tv, (o27 hp h32 x33 hx33 h34 x50 hx50 h51), ⟨⟨rfl, rfl, rfl, tv⟩, (t76 (fnd r x50).minute (0) (r.last - 1)), tv, tv, (fun i52 => tv)⟩, tv, tv, (fun h53 => ⟨⟨tv, tv⟩, tv⟩), (fun h54 => ⟨⟨(fun h55 => h54), tv⟩, tv⟩), (fun h56 => ⟨⟨(fun h57 => h56), tv⟩, tv⟩), (fun h58 => ⟨⟨tv, tv⟩, tv⟩), (fun h59 => ⟨⟨(fun h60 => h59), tv⟩, tv⟩), (fun h61 => ⟨⟨(fun h62 => h61), (fun h63 => h61), tv⟩, tv⟩), ⟨(fun h64 => tv), (fun h65 => (o28 hp h32 x33 hx33 h34 x50 hx50 h51 h65))⟩, tv, (fun h66 => ⟨⟨tv, tv⟩, tv⟩), (fun h67 => ⟨⟨(fun h68 => h67), tv⟩, tv⟩), (fun h69 => ⟨⟨(fun h70 => h69), tv⟩, tv⟩), (fun h71 => ⟨⟨(fun h72 => h71), tv, tv⟩, tv⟩), ⟨(fun h73 => tv), (fun h74 => (o29 hp h32 x33 hx33 h34 x50 hx50 h51 h74))⟩, tv, (fun h75 => ⟨⟨tv, tv⟩, tv⟩), (fun h76 => ⟨⟨(fun h77 => h76), tv⟩, tv⟩), (fun h78 => ⟨⟨tv, tv⟩, tv⟩), (fun h79 => ⟨⟨(fun h80 => h79), tv⟩, tv⟩), (fun h81 => ⟨⟨(fun h82 => h81), tv⟩, tv⟩), (fun h83 => ⟨⟨(fun h84 => h83), tv, tv⟩, (o30 hp h32 x33 hx33 h34 x50 hx50 h51 h83)⟩), (fun h85 => ⟨⟨tv, (fun h86 => h85), tv, (fun h87 => h85), tv⟩, ⟨rfl, rfl, rfl, tv⟩, (t52 (fnd r x50).frm (0) ((↑(r.machines.length) : Int) - 1)), (o31 hp h32 x33 hx33 h34 x50 hx50 h51 h85), tv, (fun i88 => tv)⟩), (fun h89 => ⟨⟨(fun h90 => h89), tv⟩, tv⟩), ⟨(fun h91 => tv), (fun h92 => (o32 hp h32 x33 hx33 h34 x50 hx50 h51 h92))⟩, tv⟩ ?_
    refine swp_cond (bif bif bif !within (fnd r x50).minute 0 (r.last - 1) then true else !decide ((↑((fnd r x50).new.length) : Int) = r.plates) then true else decide ((↑((fnd r x50).frm.length) : Int) = 0) then true else !rising (fnd r x50).frm 0 ((↑(r.machines.length) : Int) - 1)) (by kernel_rfl) (fun h93 => ?_) (fun h93 => ?_)
    ·refine swp_seq ?_
     refine sR (kt := [2]) (kh := []) (q := True /\ True) (st' := ASt.mk [(2, iv 60)] [] 20608) (by kernel_rfl) ⟨tv, tv⟩ ?_
     refine swp_ret ?_
     exact ret_q [] ((True /\ True) /\ (iv 60 = iv (check r) /\ nilN = []) /\ T3) (by kernel_rfl) ⟨⟨tv, tv⟩, ⟨(congrArg iv (o33 hp h32 x33 hx33 h34 x50 hx50 h51 h93)), rfl⟩, rfl, rfl, rfl⟩
    ·refine swp_skip (swp_seq ?_)
     refine sR (kt := [1, 6, 7, 8]) (kh := [0, 20336]) (q := True /\ True) (st' := ASt.mk [(1, .ptr 0 []), (6, iv (x50 : Int)), (7, .ptr 20336 []), (8, iv 0)] [(0, .cells 25 (cRun r)), (20336, .cells 32 (cFnd (fnd r x50)))] 20608) (by kernel_rfl) ⟨tv, tv⟩ ?_
     refine swp_block ?_
     refine swp_loopA (Hint.ann (h63d r x50) [(1, AV.ptr 0 []), (6, iv (x50 : Int)), (7, AV.ptr 20336 [])] [(0, OB.cells 25 (cRun r)), (20336, OB.cells 32 (cFnd (fnd r x50)))] 30608) (ent_q hE [] [(0, .same 0), (20336, .same 20336)] [6] [0, 20336] (((some (Src.same 0) = some (Src.same 0) /\ nilP = []) /\ (iv (x50 : Int) = iv (x50 : Int) /\ true = true) /\ (some (Src.same 20336) = some (Src.same 20336) /\ nilP = []) /\ (iv 0 = iv (↑0 : Int) /\ nilN = []) /\ True) /\ ((OB.cells 25 (cRun r) = OB.cells 25 (cRun r) /\ true = true) /\ (OB.cells 32 (cFnd (fnd r x50)) = OB.cells 32 (cFnd (fnd r x50)) /\ true = true) /\ True) /\ T2) (by kernel_rfl) (by kernel_rfl) ⟨⟨⟨rfl, rfl⟩, ⟨rfl, rfl⟩, ⟨rfl, rfl⟩, ⟨(congrArg iv (o34 hp h32 x33 hx33 h34 x50 hx50 h51 h93)), rfl⟩, tv⟩, ⟨⟨rfl, rfl⟩, ⟨rfl, rfl⟩, tv⟩, rfl, rfl⟩) (o35 hp h32 x33 hx33 h34 x50 hx50 h51 h93) (fun (x94 : Nat) hx94 => ?_)
     refine swp_seq (swp_seq ?_)
     refine sR (kt := [1, 6, 7, 8, 119]) (kh := [0, 20336]) (q := True /\ True /\ True /\ True /\ True /\ True) (st' := ASt.mk [(1, .ptr 0 []), (6, iv (x50 : Int)), (7, .ptr 20336 []), (8, iv (x94 : Int)), (119, bv (decide ((x94 : Int) < (↑((fnd r x50).new.length) : Int))))] [(0, .cells 25 (cRun r)), (20336, .cells 32 (cFnd (fnd r x50)))] 30648) (by kernel_rfl) ⟨tv, tv, tv, tv, tv, tv⟩ ?_
     refine swp_cond (decide ((x94 : Int) < (↑((fnd r x50).new.length) : Int))) (by kernel_rfl) (fun h95 => ?_) (fun h95 => ?_)
     ·refine swp_skip (swp_seq (swp_block (swp_seq ?_)))
      refine swp_region T0_ok mixed (cs := [(5, CallSpec.eq (s76 ((fnd r x50).new.getD x94 0) (-1) 1) [true, true, true])]) (kt := [1, 6, 7, 8, 128]) (kh := [0, 20336]) (q := True /\ True /\ True /\ (0 <= (x94 : Int) /\ (x94 : Int) < (↑((fnd r x50).new.length) : Int)) /\ True /\ ((iv ((fnd r x50).new.getD x94 0) = iv ((fnd r x50).new.getD x94 0) /\ iv (-1) = iv (-1) /\ iv 1 = iv 1 /\ True) /\ Triple Try.prog 76 (s76 ((fnd r x50).new.getD x94 0) (-1) 1) /\ True /\ True /\ ∀ (i96 : Env), True) /\ True /\ True) (st' := ASt.mk [(1, .ptr 0 []), (6, iv (x50 : Int)), (7, .ptr 20336 []), (8, iv (x94 : Int)), (128, bv !within ((fnd r x50).new.getD x94 0) (-1) 1)] [(0, .cells 25 (cRun r)), (20336, .cells 32 (cFnd (fnd r x50)))] 30704) (by kernel_rfl) ⟨tv, tv, tv, ⟨(o36 hp h32 x33 hx33 h34 x50 hx50 h51 h93 x94 hx94 h95), (o37 hp h32 x33 hx33 h34 x50 hx50 h51 h93 x94 hx94 h95)⟩, tv, ⟨⟨rfl, rfl, rfl, tv⟩, (t76 ((fnd r x50).new.getD x94 0) (-1) (1)), tv, tv, (fun i96 => tv)⟩, tv, tv⟩ ?_
      refine swp_cond (!within ((fnd r x50).new.getD x94 0) (-1) 1) (by kernel_rfl) (fun h97 => ?_) (fun h97 => ?_)
      ·refine swp_seq ?_
       refine sR (kt := [2]) (kh := []) (q := True /\ True) (st' := ASt.mk [(2, iv 60)] [] 30712) (by kernel_rfl) ⟨tv, tv⟩ ?_
       refine swp_ret ?_
       exact ret_q [] ((True /\ True) /\ (iv 60 = iv (check r) /\ nilN = []) /\ T3) (by kernel_rfl) ⟨⟨tv, tv⟩, ⟨(congrArg iv (o38 hp h32 x33 hx33 h34 x50 hx50 h51 h93 x94 hx94 h95 h97)), rfl⟩, rfl, rfl, rfl⟩
      ·refine swp_skip ?_
       refine sR (kt := [1, 6, 7, 8]) (kh := [0, 20336]) (q := True /\ inI ((x94 : Int) + 1) /\ True /\ True) (st' := ASt.mk [(1, .ptr 0 []), (6, iv (x50 : Int)), (7, .ptr 20336 []), (8, iv ((x94 : Int) + 1))] [(0, .cells 25 (cRun r)), (20336, .cells 32 (cFnd (fnd r x50)))] 30728) (by kernel_rfl) ⟨tv, (o39 hp h32 x33 hx33 h34 x50 hx50 h51 h93 x94 hx94 h95 h97), tv, tv⟩ ?_
       exact loop_next (Hint.ann (h63d r x50) [(1, AV.ptr 0 []), (6, iv (x50 : Int)), (7, AV.ptr 20336 [])] [(0, OB.cells 25 (cRun r)), (20336, OB.cells 32 (cFnd (fnd r x50)))] 30608) x94 (ent_q hE [] [(0, .same 0), (20336, .same 20336)] [6] [0, 20336] (((some (Src.same 0) = some (Src.same 0) /\ nilP = []) /\ (iv (x50 : Int) = iv (x50 : Int) /\ true = true) /\ (some (Src.same 20336) = some (Src.same 20336) /\ nilP = []) /\ (iv ((x94 : Int) + 1) = iv (↑(x94 + 1) : Int) /\ nilN = []) /\ True) /\ ((OB.cells 25 (cRun r) = OB.cells 25 (cRun r) /\ true = true) /\ (OB.cells 32 (cFnd (fnd r x50)) = OB.cells 32 (cFnd (fnd r x50)) /\ true = true) /\ True) /\ T2) (by kernel_rfl) (by kernel_rfl) ⟨⟨⟨rfl, rfl⟩, ⟨rfl, rfl⟩, ⟨rfl, rfl⟩, ⟨(congrArg iv (o40 hp h32 x33 hx33 h34 x50 hx50 h51 h93 x94 hx94 h95 h97)), rfl⟩, tv⟩, ⟨⟨rfl, rfl⟩, ⟨rfl, rfl⟩, tv⟩, rfl, rfl⟩) (o41 hp h32 x33 hx33 h34 x50 hx50 h51 h93 x94 hx94 h95 h97) (o42 hp h32 x33 hx33 h34 x50 hx50 h51 h93 x94 hx94 h95 h97)
     ·refine swp_exit ?_
      refine sR (kt := [1, 6]) (kh := [0]) (q := True /\ inI ((x50 : Int) + 1) /\ True /\ True) (st' := ASt.mk [(1, .ptr 0 []), (6, iv ((x50 : Int) + 1))] [(0, .cells 25 (cRun r))] 30672) (by kernel_rfl) ⟨tv, (o43 hp h32 x33 hx33 h34 x50 hx50 h51 h93 x94 hx94 h95), tv, tv⟩ ?_
      exact loop_next (Hint.ann (h63c r) [(1, AV.ptr 0 [])] [(0, OB.cells 25 (cRun r))] 20256) x50 (ent_q hE [] [(0, .same 0)] [] [0] (((some (Src.same 0) = some (Src.same 0) /\ nilP = []) /\ (iv ((x50 : Int) + 1) = iv (↑(x50 + 1) : Int) /\ nilN = []) /\ True) /\ ((OB.cells 25 (cRun r) = OB.cells 25 (cRun r) /\ true = true) /\ True) /\ T2) (by kernel_rfl) (by kernel_rfl) ⟨⟨⟨rfl, rfl⟩, ⟨(congrArg iv (o44 hp h32 x33 hx33 h34 x50 hx50 h51 h93 x94 hx94 h95)), rfl⟩, tv⟩, ⟨⟨rfl, rfl⟩, tv⟩, rfl, rfl⟩) (o45 hp h32 x33 hx33 h34 x50 hx50 h51 h93 x94 hx94 h95) (o46 hp h32 x33 hx33 h34 x50 hx50 h51 h93 x94 hx94 h95)
   ·refine swp_exit (swp_seq ?_)
    refine sR (kt := [2]) (kh := []) (q := True /\ True) (st' := ASt.mk [(2, iv 0)] [] 20304) (by kernel_rfl) ⟨tv, tv⟩ ?_
    refine swp_ret ?_
    exact ret_q [] ((True /\ True) /\ (iv 0 = iv (check r) /\ nilN = []) /\ T3) (by kernel_rfl) ⟨⟨tv, tv⟩, ⟨(congrArg iv (o47 hp h32 x33 hx33 h34 x50 hx50 h51)), rfl⟩, rfl, rfl, rfl⟩
theorem t63 (r : Run) : Triple Try.prog 63 (s63 r) := by
 apply w63
 case o3 => intro _ h; rw [nbor4'] at h; exact (check_head (by rw [Bool.not_eq_true'] at h; exact h)).symm
 case o9 =>
  intro _ _ x hx hl h
  rw [nbor2] at h
  refine (check_mach (by simpa using hl) ?_).symm
  have h' : okMach r (mach r x) = false := by rw [Bool.not_eq_true'] at h; exact h
  simp [okMachA, h']
 case o14 =>
  intro _ _ x hx hl _ y hy hyl h
  refine (check_mach (by simpa using hl) ?_).symm
  have h' : (mach r x).changes.all (fun s => isSpan s r.last) = false := not_all _ default _ (by simpa using hyl) (by simpa using h)
  simp [okMachA, h']
 case o15 => intro hf _ x hx hl _ y hy hyl _; have := hf.2.2.1 x; simp only [decide_eq_true_eq] at hyl; simp only [inI]; omega
 case o17 => intro _ _ x hx hl _ y hy hyl h; exact ⟨by simp only [decide_eq_true_eq] at hyl; omega, lt_succ_cases hy.2 (by simpa [chg] using h)⟩
 case o21 =>
  intro _ _ x hx hl h y hy hyl
  refine ⟨by simp only [decide_eq_true_eq] at hl; omega, lt_succ_cases hx.2 ?_⟩
  rw [nbor2] at h
  have h1 : okMach r (mach r x) = true := by simpa [okMach] using h
  simp only [decide_eq_false_iff_not] at hyl
  have h2 : (mach r x).changes.all (fun s => isSpan s r.last) = true := all_idx _ default _ (fun j hj => hy.2 j (by omega))
  simp [okMachA, h1, h2]
 case o27 =>
  intro _ h
  rw [nbor4'] at h
  (repeat intro _)
  simp only [Bool.not_eq_false', Bool.and_eq_true, within_iff] at h
  simp only [inI]; omega
 case o33 =>
  intro _ _ _ _ _ x hx hl h
  rw [nbor4''] at h
  refine (check_fnd (by simpa using hl) ?_).symm
  have h' : okFnd r (fnd r x) = false := by rw [Bool.not_eq_true'] at h; exact h
  simp [okFndA, h']
 case o38 =>
  intro _ _ _ _ _ x hx hl _ y hy hyl h
  refine (check_fnd (by simpa using hl) ?_).symm
  have h' : (fnd r x).new.all (fun n => within n (-1) 1) = false := not_all _ 0 _ (by simpa using hyl) (by simpa using h)
  simp [okFndA, h']
 case o39 => intro hf _ _ _ _ x hx hl _ y hy hyl _; have := (hf.2.2.2 x).1; simp only [decide_eq_true_eq] at hyl; simp only [inI]; omega
 case o41 => intro _ _ _ _ _ x hx hl _ y hy hyl h; exact ⟨by simp only [decide_eq_true_eq] at hyl; omega, lt_succ_cases hy.2 (by simpa using h)⟩
 case o45 =>
  intro _ _ _ _ _ x hx hl h y hy hyl
  refine ⟨by simp only [decide_eq_true_eq] at hl; omega, lt_succ_cases hx.2 ?_⟩
  rw [nbor4''] at h
  have h1 : okFnd r (fnd r x) = true := by simpa [okFnd] using h
  simp only [decide_eq_false_iff_not] at hyl
  have h2 : (fnd r x).new.all (fun n => within n (-1) 1) = true := all_idx _ 0 _ (fun j hj => hy.2 j (by omega))
  simp [okFndA, h1, h2]
 case o47 =>
  intro _ h x hx hl y hy hyl
  rw [nbor4'] at h
  simp only [decide_eq_false_iff_not] at hl hyl
  have := okRun_of (r := r) (by simpa [okHead] using h) (fun j hj => hx.2 j (by omega)) (fun j hj => hy.2 j (by omega))
  exact (check_zero.2 this).symm
 all_goals (try ((repeat intro _) <;> (try simp only [v0, v1, v2, v3, v4, v5, v6, v7, v8, v9, inI, fits, Go.Sh.small] at *) <;> first | (exact rfl) | omega | exact vz | (simp_all; done) | (simp_all; omega)))
abbrev q30_1 (r : Run) (C : Prop) : Prop := fits r -> huge r = false -> (!decide (check r = 0)) = false -> C
abbrev q30_2 (r : Run) (C : Nat -> Prop) : Prop := q30_1 r (∀ (x4 : Nat), x4 <= r.found.length -> decide ((x4 : Int) < (↑(r.found.length) : Int)) = true -> C x4)
theorem w30 (r : Run)
 (o0 : fits r -> huge r = true -> true = far r)
 (o1 : fits r -> huge r = false -> (!decide (check r = 0)) -> false = far r)
 (o2 : q30_1 r (1 = prodTo r 0))
 (o3 : q30_1 r (0 = (↑0 : Int)))
 (o4 : q30_1 r (0 <= r.found.length))
 (o5 : q30_2 r fun x4 => 0 <= (x4 : Int))
 (o6 : q30_2 r fun x4 => (x4 : Int) < (↑(r.found.length) : Int))
 (o7 : q30_2 r fun x4 => inI (prodTo r x4 * (↑((fnd r x4).frm.length) : Int)))
 (o8 : q30_2 r fun x4 => inI ((x4 : Int) + 1))
 (o9 : q30_2 r fun x4 => prodTo r x4 * (↑((fnd r x4).frm.length) : Int) = prodTo r (x4 + 1))
 (o10 : q30_2 r fun x4 => (x4 : Int) + 1 = (↑(x4 + 1) : Int))
 (o11 : q30_2 r fun x4 => x4 + 1 <= r.found.length)
 (o12 : q30_2 r fun x4 => r.found.length - (x4 + 1) < r.found.length - x4)
 (o13 : q30_1 r (∀ (x4 : Nat), x4 <= r.found.length -> decide ((x4 : Int) < (↑(r.found.length) : Int)) = false -> decide (100 < prodTo r x4) = far r)) :
  Triple Try.prog 30 (s30 r) := by
 refine triple_of Try.func30 rfl Try.call30 T0_ok _ rfl rfl rfl rfl (Nat.le_of_ble_eq_true (by kernel_rfl)) (fun _ _ _ _ h => h) ?_
 intro hp C hC _ hE
 obtain ⟨P, w0, E0, av, hA⟩ := C
 subst hC
 refine swp_seq ?_
 refine sR (kt := [1]) (kh := [0]) (q := True /\ True /\ True) (st' := ASt.mk [(1, .ptr 0 [])] [(0, .cells 25 (cRun r))] 16) (by kernel_rfl) ⟨tv, tv, tv⟩ ?_
 refine swp_seq (swp_seq ?_)
 refine swp_region T0_ok mixed (cs := [(1, CallSpec.eq (s46 r) [true])]) (kt := [1, 6]) (kh := [0]) (q := True /\ ((AV.agg (cRun r) = AV.agg (cRun r) /\ True) /\ Triple Try.prog 46 (s46 r) /\ fits r /\ True /\ ∀ (i0 : Env), True) /\ True) (st' := ASt.mk [(1, .ptr 0 []), (6, bv (huge r))] [(0, .cells 25 (cRun r))] 32) (by kernel_rfl) ⟨tv, ⟨⟨rfl, tv⟩, (t46 (r)), hp, tv, (fun i0 => tv)⟩, tv⟩ ?_
 refine swp_cond (huge r) (by kernel_rfl) (fun h1 => ?_) (fun h1 => ?_)
 ·refine swp_seq ?_
  refine sR (kt := [2]) (kh := []) (q := True /\ True) (st' := ASt.mk [(2, bv true)] [] 40) (by kernel_rfl) ⟨tv, tv⟩ ?_
  refine swp_ret ?_
  exact ret_q [] ((True /\ True) /\ (bv true = bv (far r) /\ nilN = []) /\ T3) (by kernel_rfl) ⟨⟨tv, tv⟩, ⟨(congrArg bv (o0 hp h1)), rfl⟩, rfl, rfl, rfl⟩
 ·refine swp_skip (swp_seq (swp_seq ?_))
  refine swp_region T0_ok mixed (cs := [(1, CallSpec.eq (s63 r) [true])]) (kt := [1, 9]) (kh := [0]) (q := True /\ ((AV.agg (cRun r) = AV.agg (cRun r) /\ True) /\ Triple Try.prog 63 (s63 r) /\ fits r /\ True /\ ∀ (i2 : Env), True) /\ True /\ True) (st' := ASt.mk [(1, .ptr 0 []), (9, bv !decide (check r = 0))] [(0, .cells 25 (cRun r))] 56) (by kernel_rfl) ⟨tv, ⟨⟨rfl, tv⟩, (t63 (r)), hp, tv, (fun i2 => tv)⟩, tv, tv⟩ ?_
  refine swp_cond (!decide (check r = 0)) (by kernel_rfl) (fun h3 => ?_) (fun h3 => ?_)
  ·refine swp_seq ?_
   refine sR (kt := [2]) (kh := []) (q := True /\ True) (st' := ASt.mk [(2, bv false)] [] 64) (by kernel_rfl) ⟨tv, tv⟩ ?_
   refine swp_ret ?_
   exact ret_q [] ((True /\ True) /\ (bv false = bv (far r) /\ nilN = []) /\ T3) (by kernel_rfl) ⟨⟨tv, tv⟩, ⟨(congrArg bv (o1 hp h1 h3)), rfl⟩, rfl, rfl, rfl⟩
  ·refine swp_skip (swp_seq ?_)
   refine sR (kt := [1, 3]) (kh := [0]) (q := True /\ True) (st' := ASt.mk [(1, .ptr 0 []), (3, iv 1)] [(0, .cells 25 (cRun r))] 64) (by kernel_rfl) ⟨tv, tv⟩ ?_
   refine swp_seq (swp_seq ?_)
   refine sR (kt := [1, 3, 4]) (kh := [0]) (q := True /\ True) (st' := ASt.mk [(1, .ptr 0 []), (3, iv 1), (4, iv 0)] [(0, .cells 25 (cRun r))] 72) (by kernel_rfl) ⟨tv, tv⟩ ?_
   refine swp_block ?_
   refine swp_loopA (Hint.ann (h30 r) [(1, AV.ptr 0 [])] [(0, OB.cells 25 (cRun r))] 10072) (ent_q hE [] [(0, .same 0)] [] [0] (((some (Src.same 0) = some (Src.same 0) /\ nilP = []) /\ (iv 1 = iv (prodTo r 0) /\ nilN = []) /\ (iv 0 = iv (↑0 : Int) /\ nilN = []) /\ True) /\ ((OB.cells 25 (cRun r) = OB.cells 25 (cRun r) /\ true = true) /\ True) /\ T2) (by kernel_rfl) (by kernel_rfl) ⟨⟨⟨rfl, rfl⟩, ⟨(congrArg iv (o2 hp h1 h3)), rfl⟩, ⟨(congrArg iv (o3 hp h1 h3)), rfl⟩, tv⟩, ⟨⟨rfl, rfl⟩, tv⟩, rfl, rfl⟩) (o4 hp h1 h3) (fun (x4 : Nat) hx4 => ?_)
   refine swp_seq (swp_seq ?_)
   refine sR (kt := [1, 3, 4, 14]) (kh := [0]) (q := True /\ True /\ True /\ True /\ True /\ True) (st' := ASt.mk [(1, .ptr 0 []), (3, iv (prodTo r x4)), (4, iv (x4 : Int)), (14, bv (decide ((x4 : Int) < (↑(r.found.length) : Int))))] [(0, .cells 25 (cRun r))] 10112) (by kernel_rfl) ⟨tv, tv, tv, tv, tv, tv⟩ ?_
   refine swp_cond (decide ((x4 : Int) < (↑(r.found.length) : Int))) (by kernel_rfl) (fun h5 => ?_) (fun h5 => ?_)
   ·refine swp_skip (swp_seq (swp_block ?_))
    refine sR (kt := [1, 3, 4]) (kh := [0]) (q := True /\ True /\ True /\ True /\ (0 <= (x4 : Int) /\ (x4 : Int) < (↑(r.found.length) : Int)) /\ True /\ True /\ True /\ inI (prodTo r x4 * (↑((fnd r x4).frm.length) : Int)) /\ True /\ True) (st' := ASt.mk [(1, .ptr 0 []), (3, iv (prodTo r x4 * (↑((fnd r x4).frm.length) : Int))), (4, iv (x4 : Int))] [(0, .cells 25 (cRun r))] 10192) (by kernel_rfl) ⟨tv, tv, tv, tv, ⟨(o5 hp h1 h3 x4 hx4 h5), (o6 hp h1 h3 x4 hx4 h5)⟩, tv, tv, tv, (o7 hp h1 h3 x4 hx4 h5), tv, tv⟩ ?_
    refine sR (kt := [1, 3, 4]) (kh := [0]) (q := True /\ inI ((x4 : Int) + 1) /\ True /\ True) (st' := ASt.mk [(1, .ptr 0 []), (3, iv (prodTo r x4 * (↑((fnd r x4).frm.length) : Int))), (4, iv ((x4 : Int) + 1))] [(0, .cells 25 (cRun r))] 10216) (by kernel_rfl) ⟨tv, (o8 hp h1 h3 x4 hx4 h5), tv, tv⟩ ?_
    exact loop_next (Hint.ann (h30 r) [(1, AV.ptr 0 [])] [(0, OB.cells 25 (cRun r))] 10072) x4 (ent_q hE [] [(0, .same 0)] [] [0] (((some (Src.same 0) = some (Src.same 0) /\ nilP = []) /\ (iv (prodTo r x4 * (↑((fnd r x4).frm.length) : Int)) = iv (prodTo r (x4 + 1)) /\ nilN = []) /\ (iv ((x4 : Int) + 1) = iv (↑(x4 + 1) : Int) /\ nilN = []) /\ True) /\ ((OB.cells 25 (cRun r) = OB.cells 25 (cRun r) /\ true = true) /\ True) /\ T2) (by kernel_rfl) (by kernel_rfl) ⟨⟨⟨rfl, rfl⟩, ⟨(congrArg iv (o9 hp h1 h3 x4 hx4 h5)), rfl⟩, ⟨(congrArg iv (o10 hp h1 h3 x4 hx4 h5)), rfl⟩, tv⟩, ⟨⟨rfl, rfl⟩, tv⟩, rfl, rfl⟩) (o11 hp h1 h3 x4 hx4 h5) (o12 hp h1 h3 x4 hx4 h5)
   ·refine swp_exit (swp_seq ?_)
    refine sR (kt := [2]) (kh := []) (q := True /\ True /\ True /\ True) (st' := ASt.mk [(2, bv (decide (100 < prodTo r x4)))] [] 10136) (by kernel_rfl) ⟨tv, tv, tv, tv⟩ ?_
    refine swp_ret ?_
    exact ret_q [] ((True /\ True) /\ (bv (decide (100 < prodTo r x4)) = bv (far r) /\ nilN = []) /\ T3) (by kernel_rfl) ⟨⟨tv, tv⟩, ⟨(congrArg bv (o13 hp h1 h3 x4 hx4 h5)), rfl⟩, rfl, rfl, rfl⟩
theorem t30 (r : Run) : Triple Try.prog 30 (s30 r) := by
 apply w30
 case o0 => intro _ h; simp [far, h]
 case o1 =>
  intro _ h h2
  have : okRun r = false := by
   cases e : okRun r with
   | false => rfl
   | true => rw [check_zero.2 e] at h2; cases h2
  simp [far, h, this]
 case o7 =>
  intro _ _ hc x hx hl
  have ok := ok_of (check_zero.1 (by simpa using hc))
  simp only [decide_eq_true_eq] at hl
  exact prod_in ok (by omega)
 case o9 => (repeat intro _); exact (prodTo_succ _ _).symm
 case o13 =>
  intro _ h hc x hx hl
  have ok := check_zero.1 (by simpa using hc)
  simp only [decide_eq_false_iff_not] at hl
  have : x = r.found.length := by omega
  subst this
  simp [far, h, ok]
 all_goals (try ((repeat intro _) <;> (try simp only [v0, v1, v2, v3, v4, v5, v6, v7, v8, v9, inI, fits, Go.Sh.small] at *) <;> first | (exact rfl) | omega | exact vz | (simp_all; done) | (simp_all; omega)))
abbrev q88_1 (r : Run) (l : List Int) (m : Nat) (p : Nat) (C : Prop) : Prop := okRun r = true /\ m < r.machines.length /\ (p : Int) < r.plates /\ l.length <= r.found.length -> C
abbrev q88_2 (r : Run) (l : List Int) (m : Nat) (p : Nat) (C : Nat -> Prop) : Prop := q88_1 r l m p (∀ (x0 : Nat), x0 <= l.length -> decide ((x0 : Int) < (↑(l.length) : Int)) = true -> C x0)
abbrev q88_3 (r : Run) (l : List Int) (m : Nat) (p : Nat) (C : Nat -> Prop) : Prop := q88_2 r l m p fun x0 => (!decide (l.getD x0 0 = (m : Int))) -> C x0
abbrev q88_4 (r : Run) (l : List Int) (m : Nat) (p : Nat) (C : Nat -> Prop) : Prop := q88_2 r l m p fun x0 => (!decide (l.getD x0 0 = (m : Int))) = false -> C x0
abbrev q88_5 (r : Run) (l : List Int) (m : Nat) (p : Nat) (C : Nat -> Prop) : Prop := q88_4 r l m p fun x0 => decide ((fnd r x0).new.getD p 0 = 1) = true -> C x0
abbrev q88_6 (r : Run) (l : List Int) (m : Nat) (p : Nat) (C : Nat -> Prop) : Prop := q88_4 r l m p fun x0 => decide ((fnd r x0).new.getD p 0 = 1) = false -> decide ((fnd r x0).new.getD p 0 = 0) = true -> C x0
abbrev q88_7 (r : Run) (l : List Int) (m : Nat) (p : Nat) (C : Nat -> Prop) : Prop := q88_4 r l m p fun x0 => decide ((fnd r x0).new.getD p 0 = 1) = false -> decide ((fnd r x0).new.getD p 0 = 0) = false -> C x0
theorem w88 (r : Run) (l : List Int) (m : Nat) (p : Nat)
 (o0 : q88_1 r l m p (0 <= (m : Int)))
 (o1 : q88_1 r l m p ((m : Int) < (↑(r.machines.length) : Int)))
 (o2 : q88_1 r l m p (0 <= (p : Int)))
 (o3 : q88_1 r l m p ((p : Int) < (↑((mach r m).changes.length) : Int)))
 (o4 : q88_1 r l m p (0 = (↑0 : Int)))
 (o5 : q88_1 r l m p (((mach r m).changes.getD p default).lo = (spanTo r l m p 0).lo))
 (o6 : q88_1 r l m p (((mach r m).changes.getD p default).hi = (spanTo r l m p 0).hi))
 (o7 : q88_1 r l m p (0 <= l.length))
 (o8 : q88_2 r l m p fun x0 => 0 <= (x0 : Int))
 (o9 : q88_2 r l m p fun x0 => (x0 : Int) < (↑(l.length) : Int))
 (o10 : q88_3 r l m p fun x0 => inI ((x0 : Int) + 1))
 (o11 : q88_3 r l m p fun x0 => (x0 : Int) + 1 = (↑(x0 + 1) : Int))
 (o12 : q88_3 r l m p fun x0 => (spanTo r l m p x0).lo = (spanTo r l m p (x0 + 1)).lo)
 (o13 : q88_3 r l m p fun x0 => (spanTo r l m p x0).hi = (spanTo r l m p (x0 + 1)).hi)
 (o14 : q88_3 r l m p fun x0 => x0 + 1 <= l.length)
 (o15 : q88_3 r l m p fun x0 => l.length - (x0 + 1) < l.length - x0)
 (o16 : q88_4 r l m p fun x0 => 0 <= (x0 : Int))
 (o17 : q88_4 r l m p fun x0 => (x0 : Int) < (↑(r.found.length) : Int))
 (o18 : q88_4 r l m p fun x0 => 0 <= (p : Int))
 (o19 : q88_4 r l m p fun x0 => (p : Int) < (↑((fnd r x0).new.length) : Int))
 (o20 : q88_5 r l m p fun x0 => 0 <= (x0 : Int))
 (o21 : q88_5 r l m p fun x0 => (x0 : Int) < (↑(r.found.length) : Int))
 (o22 : q88_5 r l m p fun x0 => inI ((x0 : Int) + 1))
 (o23 : q88_5 r l m p fun x0 => (x0 : Int) + 1 = (↑(x0 + 1) : Int))
 (o24 : q88_5 r l m p fun x0 => (spanTo r l m p x0).lo = (spanTo r l m p (x0 + 1)).lo)
 (o25 : q88_5 r l m p fun x0 => min (spanTo r l m p x0).hi (fnd r x0).minute = (spanTo r l m p (x0 + 1)).hi)
 (o26 : q88_5 r l m p fun x0 => x0 + 1 <= l.length)
 (o27 : q88_5 r l m p fun x0 => l.length - (x0 + 1) < l.length - x0)
 (o28 : q88_6 r l m p fun x0 => 0 <= (x0 : Int))
 (o29 : q88_6 r l m p fun x0 => (x0 : Int) < (↑(r.found.length) : Int))
 (o30 : q88_6 r l m p fun x0 => inI ((fnd r x0).minute + 1))
 (o31 : q88_6 r l m p fun x0 => inI ((x0 : Int) + 1))
 (o32 : q88_6 r l m p fun x0 => (x0 : Int) + 1 = (↑(x0 + 1) : Int))
 (o33 : q88_6 r l m p fun x0 => max (spanTo r l m p x0).lo ((fnd r x0).minute + 1) = (spanTo r l m p (x0 + 1)).lo)
 (o34 : q88_6 r l m p fun x0 => (spanTo r l m p x0).hi = (spanTo r l m p (x0 + 1)).hi)
 (o35 : q88_6 r l m p fun x0 => x0 + 1 <= l.length)
 (o36 : q88_6 r l m p fun x0 => l.length - (x0 + 1) < l.length - x0)
 (o37 : q88_7 r l m p fun x0 => inI ((x0 : Int) + 1))
 (o38 : q88_7 r l m p fun x0 => (x0 : Int) + 1 = (↑(x0 + 1) : Int))
 (o39 : q88_7 r l m p fun x0 => (spanTo r l m p x0).lo = (spanTo r l m p (x0 + 1)).lo)
 (o40 : q88_7 r l m p fun x0 => (spanTo r l m p x0).hi = (spanTo r l m p (x0 + 1)).hi)
 (o41 : q88_7 r l m p fun x0 => x0 + 1 <= l.length)
 (o42 : q88_7 r l m p fun x0 => l.length - (x0 + 1) < l.length - x0)
 (o43 : q88_1 r l m p (∀ (x0 : Nat), x0 <= l.length -> decide ((x0 : Int) < (↑(l.length) : Int)) = false -> (spanTo r l m p x0).lo = (spanOf r l m p).lo))
 (o44 : q88_1 r l m p (∀ (x0 : Nat), x0 <= l.length -> decide ((x0 : Int) < (↑(l.length) : Int)) = false -> (spanTo r l m p x0).hi = (spanOf r l m p).hi)) :
  Triple Try.prog 88 (s88 r l m p) := by
 refine triple_of Try.func88 rfl Try.call88 T0_ok _ rfl rfl rfl rfl (Nat.le_of_ble_eq_true (by kernel_rfl)) (fun _ _ _ _ h => h) ?_
 intro hp C hC _ hE
 obtain ⟨P, w0, E0, av, hA⟩ := C
 subst hC
 refine swp_seq ?_
 refine sR (kt := [1, 2, 3, 4, 8]) (kh := [0, 8]) (q := True /\ True /\ True) (st' := ASt.mk [(1, aInts l), (2, iv (m : Int)), (3, iv (p : Int)), (4, .ptr 0 []), (8, .ptr 8 [])] [(0, .cells 25 (cRun r)), (8, .cells 37 [iv 0, iv 0])] 16) (by kernel_rfl) ⟨tv, tv, tv⟩ ?_
 refine swp_seq ?_
 refine sR (kt := [1, 2, 3, 4, 8, 9]) (kh := [0, 8, 88]) (q := True /\ True /\ True /\ (0 <= (m : Int) /\ (m : Int) < (↑(r.machines.length) : Int)) /\ True /\ True /\ True /\ (0 <= (p : Int) /\ (p : Int) < (↑((mach r m).changes.length) : Int)) /\ True /\ True /\ True /\ True) (st' := ASt.mk [(1, aInts l), (2, iv (m : Int)), (3, iv (p : Int)), (4, .ptr 0 []), (8, .ptr 8 []), (9, .ptr 88 [])] [(0, .cells 25 (cRun r)), (8, .cells 37 [iv 0, iv 0]), (88, .cells 37 (cSpan ((mach r m).changes.getD p default)))] 104) (by kernel_rfl) ⟨tv, tv, tv, ⟨(o0 hp), (o1 hp)⟩, tv, tv, tv, ⟨(o2 hp), (o3 hp)⟩, tv, tv, tv, tv⟩ ?_
 refine swp_seq (swp_seq ?_)
 refine sR (kt := [1, 2, 3, 4, 8, 9, 10]) (kh := [0, 8, 88]) (q := True /\ True) (st' := ASt.mk [(1, aInts l), (2, iv (m : Int)), (3, iv (p : Int)), (4, .ptr 0 []), (8, .ptr 8 []), (9, .ptr 88 []), (10, iv 0)] [(0, .cells 25 (cRun r)), (8, .cells 37 [iv 0, iv 0]), (88, .cells 37 (cSpan ((mach r m).changes.getD p default)))] 112) (by kernel_rfl) ⟨tv, tv⟩ ?_
 refine swp_block ?_
 refine swp_loopA (Hint.ann (h88 r l m p) [(1, aInts l), (2, iv (m : Int)), (3, iv (p : Int)), (4, AV.ptr 0 []), (8, AV.ptr 8 [])] [(0, OB.cells 25 (cRun r)), (8, OB.cells 37 [iv 0, iv 0])] 10112) (ent_q hE [] [(0, .same 0), (8, .same 8), (5000, .same 88)] [1, 2, 3] [0, 8] (((aInts l = aInts l /\ true = true) /\ (iv (m : Int) = iv (m : Int) /\ true = true) /\ (iv (p : Int) = iv (p : Int) /\ true = true) /\ (some (Src.same 0) = some (Src.same 0) /\ nilP = []) /\ (some (Src.same 8) = some (Src.same 8) /\ nilP = []) /\ (iv 0 = iv (↑0 : Int) /\ nilN = []) /\ (some (Src.same 88) = some (Src.same 88) /\ nilP = []) /\ True) /\ ((OB.cells 25 (cRun r) = OB.cells 25 (cRun r) /\ true = true) /\ (OB.cells 37 [iv 0, iv 0] = OB.cells 37 [iv 0, iv 0] /\ true = true) /\ (37 = 37 /\ ((iv ((mach r m).changes.getD p default).lo = iv (spanTo r l m p 0).lo /\ nilN = []) /\ (iv ((mach r m).changes.getD p default).hi = iv (spanTo r l m p 0).hi /\ nilN = []) /\ True) /\ true = true) /\ True) /\ T2) (by kernel_rfl) (by kernel_rfl) ⟨⟨⟨rfl, rfl⟩, ⟨rfl, rfl⟩, ⟨rfl, rfl⟩, ⟨rfl, rfl⟩, ⟨rfl, rfl⟩, ⟨(congrArg iv (o4 hp)), rfl⟩, ⟨rfl, rfl⟩, tv⟩, ⟨⟨rfl, rfl⟩, ⟨rfl, rfl⟩, ⟨rfl, ⟨⟨(congrArg iv (o5 hp)), rfl⟩, ⟨(congrArg iv (o6 hp)), rfl⟩, tv⟩, rfl⟩, tv⟩, rfl, rfl⟩) (o7 hp) (fun (x0 : Nat) hx0 => ?_)
 refine swp_seq (swp_seq ?_)
 refine sR (kt := [1, 2, 3, 4, 8, 10, 9, 23]) (kh := [0, 8, 5000]) (q := True /\ True /\ True /\ True /\ True) (st' := ASt.mk [(1, aInts l), (2, iv (m : Int)), (3, iv (p : Int)), (4, .ptr 0 []), (8, .ptr 8 []), (10, iv (x0 : Int)), (9, .ptr 5000 []), (23, bv (decide ((x0 : Int) < (↑(l.length) : Int))))] [(0, .cells 25 (cRun r)), (8, .cells 37 [iv 0, iv 0]), (5000, .cells 37 (cSpan (spanTo r l m p x0)))] 10144) (by kernel_rfl) ⟨tv, tv, tv, tv, tv⟩ ?_
 refine swp_cond (decide ((x0 : Int) < (↑(l.length) : Int))) (by kernel_rfl) (fun h1 => ?_) (fun h1 => ?_)
 ·refine swp_skip (swp_seq (swp_block (swp_seq (swp_seq ?_))))
  refine sR (kt := [1, 2, 3, 4, 8, 10, 9, 31]) (kh := [0, 8, 5000]) (q := True /\ True /\ (0 <= (x0 : Int) /\ (x0 : Int) < (↑(l.length) : Int)) /\ True /\ True /\ True /\ True) (st' := ASt.mk [(1, aInts l), (2, iv (m : Int)), (3, iv (p : Int)), (4, .ptr 0 []), (8, .ptr 8 []), (10, iv (x0 : Int)), (9, .ptr 5000 []), (31, bv !decide (l.getD x0 0 = (m : Int)))] [(0, .cells 25 (cRun r)), (8, .cells 37 [iv 0, iv 0]), (5000, .cells 37 (cSpan (spanTo r l m p x0)))] 10192) (by kernel_rfl) ⟨tv, tv, ⟨(o8 hp x0 hx0 h1), (o9 hp x0 hx0 h1)⟩, tv, tv, tv, tv⟩ ?_
  refine swp_cond (!decide (l.getD x0 0 = (m : Int))) (by kernel_rfl) (fun h2 => ?_) (fun h2 => ?_)
  ·refine swp_exit ?_
   refine sR (kt := [1, 2, 3, 4, 8, 10, 9]) (kh := [0, 8, 5000]) (q := True /\ inI ((x0 : Int) + 1) /\ True /\ True) (st' := ASt.mk [(1, aInts l), (2, iv (m : Int)), (3, iv (p : Int)), (4, .ptr 0 []), (8, .ptr 8 []), (10, iv ((x0 : Int) + 1)), (9, .ptr 5000 [])] [(0, .cells 25 (cRun r)), (8, .cells 37 [iv 0, iv 0]), (5000, .cells 37 (cSpan (spanTo r l m p x0)))] 10216) (by kernel_rfl) ⟨tv, (o10 hp x0 hx0 h1 h2), tv, tv⟩ ?_
   exact loop_next (Hint.ann (h88 r l m p) [(1, aInts l), (2, iv (m : Int)), (3, iv (p : Int)), (4, AV.ptr 0 []), (8, AV.ptr 8 [])] [(0, OB.cells 25 (cRun r)), (8, OB.cells 37 [iv 0, iv 0])] 10112) x0 (ent_q hE [] [(0, .same 0), (8, .same 8), (5000, .same 5000)] [1, 2, 3] [0, 8] (((aInts l = aInts l /\ true = true) /\ (iv (m : Int) = iv (m : Int) /\ true = true) /\ (iv (p : Int) = iv (p : Int) /\ true = true) /\ (some (Src.same 0) = some (Src.same 0) /\ nilP = []) /\ (some (Src.same 8) = some (Src.same 8) /\ nilP = []) /\ (iv ((x0 : Int) + 1) = iv (↑(x0 + 1) : Int) /\ nilN = []) /\ (some (Src.same 5000) = some (Src.same 5000) /\ nilP = []) /\ True) /\ ((OB.cells 25 (cRun r) = OB.cells 25 (cRun r) /\ true = true) /\ (OB.cells 37 [iv 0, iv 0] = OB.cells 37 [iv 0, iv 0] /\ true = true) /\ (37 = 37 /\ ((iv (spanTo r l m p x0).lo = iv (spanTo r l m p (x0 + 1)).lo /\ nilN = []) /\ (iv (spanTo r l m p x0).hi = iv (spanTo r l m p (x0 + 1)).hi /\ nilN = []) /\ True) /\ true = true) /\ True) /\ T2) (by kernel_rfl) (by kernel_rfl) ⟨⟨⟨rfl, rfl⟩, ⟨rfl, rfl⟩, ⟨rfl, rfl⟩, ⟨rfl, rfl⟩, ⟨rfl, rfl⟩, ⟨(congrArg iv (o11 hp x0 hx0 h1 h2)), rfl⟩, ⟨rfl, rfl⟩, tv⟩, ⟨⟨rfl, rfl⟩, ⟨rfl, rfl⟩, ⟨rfl, ⟨⟨(congrArg iv (o12 hp x0 hx0 h1 h2)), rfl⟩, ⟨(congrArg iv (o13 hp x0 hx0 h1 h2)), rfl⟩, tv⟩, rfl⟩, tv⟩, rfl, rfl⟩) (o14 hp x0 hx0 h1 h2) (o15 hp x0 hx0 h1 h2)
  ·refine swp_skip (swp_seq ?_)
   refine sR (kt := [1, 2, 3, 4, 8, 10, 9, 40]) (kh := [0, 8, 5000]) (q := True /\ True /\ True /\ (0 <= (x0 : Int) /\ (x0 : Int) < (↑(r.found.length) : Int)) /\ True /\ True /\ True /\ (0 <= (p : Int) /\ (p : Int) < (↑((fnd r x0).new.length) : Int)) /\ True /\ True) (st' := ASt.mk [(1, aInts l), (2, iv (m : Int)), (3, iv (p : Int)), (4, .ptr 0 []), (8, .ptr 8 []), (10, iv (x0 : Int)), (9, .ptr 5000 []), (40, iv ((fnd r x0).new.getD p 0))] [(0, .cells 25 (cRun r)), (8, .cells 37 [iv 0, iv 0]), (5000, .cells 37 (cSpan (spanTo r l m p x0)))] 10264) (by kernel_rfl) ⟨tv, tv, tv, ⟨(o16 hp x0 hx0 h1 h2), (o17 hp x0 hx0 h1 h2)⟩, tv, tv, tv, ⟨(o18 hp x0 hx0 h1 h2), (o19 hp x0 hx0 h1 h2)⟩, tv, tv⟩ ?_
   refine swp_block (swp_seq ?_)
   refine sR (kt := [1, 2, 3, 4, 8, 10, 9, 40, 41]) (kh := [0, 8, 5000]) (q := True /\ True /\ True) (st' := ASt.mk [(1, aInts l), (2, iv (m : Int)), (3, iv (p : Int)), (4, .ptr 0 []), (8, .ptr 8 []), (10, iv (x0 : Int)), (9, .ptr 5000 []), (40, iv ((fnd r x0).new.getD p 0)), (41, bv (decide ((fnd r x0).new.getD p 0 = 1)))] [(0, .cells 25 (cRun r)), (8, .cells 37 [iv 0, iv 0]), (5000, .cells 37 (cSpan (spanTo r l m p x0)))] 10280) (by kernel_rfl) ⟨tv, tv, tv⟩ ?_
   refine swp_cond (decide ((fnd r x0).new.getD p 0 = 1)) (by kernel_rfl) (fun h3 => ?_) (fun h3 => ?_)
   ·refine sR (kt := [1, 2, 3, 4, 8, 10, 9]) (kh := [0, 8, 5000]) (q := True /\ True /\ True /\ True /\ True /\ (0 <= (x0 : Int) /\ (x0 : Int) < (↑(r.found.length) : Int)) /\ True /\ True /\ True /\ True /\ True /\ True) (st' := ASt.mk [(1, aInts l), (2, iv (m : Int)), (3, iv (p : Int)), (4, .ptr 0 []), (8, .ptr 8 []), (10, iv (x0 : Int)), (9, .ptr 5000 [])] [(0, .cells 25 (cRun r)), (8, .cells 37 [iv 0, iv 0]), (5000, .cells 37 [iv (spanTo r l m p x0).lo, iv (min (spanTo r l m p x0).hi (fnd r x0).minute)])] 10368) (by kernel_rfl) ⟨tv, tv, tv, tv, tv, ⟨(o20 hp x0 hx0 h1 h2 h3), (o21 hp x0 hx0 h1 h2 h3)⟩, tv, tv, tv, tv, tv, tv⟩ ?_
    refine sR (kt := [1, 2, 3, 4, 8, 10, 9]) (kh := [0, 8, 5000]) (q := True /\ inI ((x0 : Int) + 1) /\ True /\ True) (st' := ASt.mk [(1, aInts l), (2, iv (m : Int)), (3, iv (p : Int)), (4, .ptr 0 []), (8, .ptr 8 []), (10, iv ((x0 : Int) + 1)), (9, .ptr 5000 [])] [(0, .cells 25 (cRun r)), (8, .cells 37 [iv 0, iv 0]), (5000, .cells 37 [iv (spanTo r l m p x0).lo, iv (min (spanTo r l m p x0).hi (fnd r x0).minute)])] 10392) (by kernel_rfl) ⟨tv, (o22 hp x0 hx0 h1 h2 h3), tv, tv⟩ ?_
    exact loop_next (Hint.ann (h88 r l m p) [(1, aInts l), (2, iv (m : Int)), (3, iv (p : Int)), (4, AV.ptr 0 []), (8, AV.ptr 8 [])] [(0, OB.cells 25 (cRun r)), (8, OB.cells 37 [iv 0, iv 0])] 10112) x0 (ent_q hE [] [(0, .same 0), (8, .same 8), (5000, .same 5000)] [1, 2, 3] [0, 8] (((aInts l = aInts l /\ true = true) /\ (iv (m : Int) = iv (m : Int) /\ true = true) /\ (iv (p : Int) = iv (p : Int) /\ true = true) /\ (some (Src.same 0) = some (Src.same 0) /\ nilP = []) /\ (some (Src.same 8) = some (Src.same 8) /\ nilP = []) /\ (iv ((x0 : Int) + 1) = iv (↑(x0 + 1) : Int) /\ nilN = []) /\ (some (Src.same 5000) = some (Src.same 5000) /\ nilP = []) /\ True) /\ ((OB.cells 25 (cRun r) = OB.cells 25 (cRun r) /\ true = true) /\ (OB.cells 37 [iv 0, iv 0] = OB.cells 37 [iv 0, iv 0] /\ true = true) /\ (37 = 37 /\ ((iv (spanTo r l m p x0).lo = iv (spanTo r l m p (x0 + 1)).lo /\ nilN = []) /\ (iv (min (spanTo r l m p x0).hi (fnd r x0).minute) = iv (spanTo r l m p (x0 + 1)).hi /\ nilN = []) /\ True) /\ true = true) /\ True) /\ T2) (by kernel_rfl) (by kernel_rfl) ⟨⟨⟨rfl, rfl⟩, ⟨rfl, rfl⟩, ⟨rfl, rfl⟩, ⟨rfl, rfl⟩, ⟨rfl, rfl⟩, ⟨(congrArg iv (o23 hp x0 hx0 h1 h2 h3)), rfl⟩, ⟨rfl, rfl⟩, tv⟩, ⟨⟨rfl, rfl⟩, ⟨rfl, rfl⟩, ⟨rfl, ⟨⟨(congrArg iv (o24 hp x0 hx0 h1 h2 h3)), rfl⟩, ⟨(congrArg iv (o25 hp x0 hx0 h1 h2 h3)), rfl⟩, tv⟩, rfl⟩, tv⟩, rfl, rfl⟩) (o26 hp x0 hx0 h1 h2 h3) (o27 hp x0 hx0 h1 h2 h3)
   ·refine swp_seq ?_
    refine sR (kt := [1, 2, 3, 4, 8, 10, 9, 53]) (kh := [0, 8, 5000]) (q := True /\ True /\ True) (st' := ASt.mk [(1, aInts l), (2, iv (m : Int)), (3, iv (p : Int)), (4, .ptr 0 []), (8, .ptr 8 []), (10, iv (x0 : Int)), (9, .ptr 5000 []), (53, bv (decide ((fnd r x0).new.getD p 0 = 0)))] [(0, .cells 25 (cRun r)), (8, .cells 37 [iv 0, iv 0]), (5000, .cells 37 (cSpan (spanTo r l m p x0)))] 10296) (by kernel_rfl) ⟨tv, tv, tv⟩ ?_
    refine swp_cond (decide ((fnd r x0).new.getD p 0 = 0)) (by kernel_rfl) (fun h4 => ?_) (fun h4 => ?_)
    ·refine sR (kt := [1, 2, 3, 4, 8, 10, 9]) (kh := [0, 8, 5000]) (q := True /\ True /\ True /\ True /\ True /\ (0 <= (x0 : Int) /\ (x0 : Int) < (↑(r.found.length) : Int)) /\ True /\ True /\ inI ((fnd r x0).minute + 1) /\ True /\ True /\ True /\ True) (st' := ASt.mk [(1, aInts l), (2, iv (m : Int)), (3, iv (p : Int)), (4, .ptr 0 []), (8, .ptr 8 []), (10, iv (x0 : Int)), (9, .ptr 5000 [])] [(0, .cells 25 (cRun r)), (8, .cells 37 [iv 0, iv 0]), (5000, .cells 37 [iv (max (spanTo r l m p x0).lo ((fnd r x0).minute + 1)), iv (spanTo r l m p x0).hi])] 10392) (by kernel_rfl) ⟨tv, tv, tv, tv, tv, ⟨(o28 hp x0 hx0 h1 h2 h3 h4), (o29 hp x0 hx0 h1 h2 h3 h4)⟩, tv, tv, (o30 hp x0 hx0 h1 h2 h3 h4), tv, tv, tv, tv⟩ ?_
     refine sR (kt := [1, 2, 3, 4, 8, 10, 9]) (kh := [0, 8, 5000]) (q := True /\ inI ((x0 : Int) + 1) /\ True /\ True) (st' := ASt.mk [(1, aInts l), (2, iv (m : Int)), (3, iv (p : Int)), (4, .ptr 0 []), (8, .ptr 8 []), (10, iv ((x0 : Int) + 1)), (9, .ptr 5000 [])] [(0, .cells 25 (cRun r)), (8, .cells 37 [iv 0, iv 0]), (5000, .cells 37 [iv (max (spanTo r l m p x0).lo ((fnd r x0).minute + 1)), iv (spanTo r l m p x0).hi])] 10416) (by kernel_rfl) ⟨tv, (o31 hp x0 hx0 h1 h2 h3 h4), tv, tv⟩ ?_
     exact loop_next (Hint.ann (h88 r l m p) [(1, aInts l), (2, iv (m : Int)), (3, iv (p : Int)), (4, AV.ptr 0 []), (8, AV.ptr 8 [])] [(0, OB.cells 25 (cRun r)), (8, OB.cells 37 [iv 0, iv 0])] 10112) x0 (ent_q hE [] [(0, .same 0), (8, .same 8), (5000, .same 5000)] [1, 2, 3] [0, 8] (((aInts l = aInts l /\ true = true) /\ (iv (m : Int) = iv (m : Int) /\ true = true) /\ (iv (p : Int) = iv (p : Int) /\ true = true) /\ (some (Src.same 0) = some (Src.same 0) /\ nilP = []) /\ (some (Src.same 8) = some (Src.same 8) /\ nilP = []) /\ (iv ((x0 : Int) + 1) = iv (↑(x0 + 1) : Int) /\ nilN = []) /\ (some (Src.same 5000) = some (Src.same 5000) /\ nilP = []) /\ True) /\ ((OB.cells 25 (cRun r) = OB.cells 25 (cRun r) /\ true = true) /\ (OB.cells 37 [iv 0, iv 0] = OB.cells 37 [iv 0, iv 0] /\ true = true) /\ (37 = 37 /\ ((iv (max (spanTo r l m p x0).lo ((fnd r x0).minute + 1)) = iv (spanTo r l m p (x0 + 1)).lo /\ nilN = []) /\ (iv (spanTo r l m p x0).hi = iv (spanTo r l m p (x0 + 1)).hi /\ nilN = []) /\ True) /\ true = true) /\ True) /\ T2) (by kernel_rfl) (by kernel_rfl) ⟨⟨⟨rfl, rfl⟩, ⟨rfl, rfl⟩, ⟨rfl, rfl⟩, ⟨rfl, rfl⟩, ⟨rfl, rfl⟩, ⟨(congrArg iv (o32 hp x0 hx0 h1 h2 h3 h4)), rfl⟩, ⟨rfl, rfl⟩, tv⟩, ⟨⟨rfl, rfl⟩, ⟨rfl, rfl⟩, ⟨rfl, ⟨⟨(congrArg iv (o33 hp x0 hx0 h1 h2 h3 h4)), rfl⟩, ⟨(congrArg iv (o34 hp x0 hx0 h1 h2 h3 h4)), rfl⟩, tv⟩, rfl⟩, tv⟩, rfl, rfl⟩) (o35 hp x0 hx0 h1 h2 h3 h4) (o36 hp x0 hx0 h1 h2 h3 h4)
    ·refine swp_skip ?_
     refine sR (kt := [1, 2, 3, 4, 8, 10, 9]) (kh := [0, 8, 5000]) (q := True /\ inI ((x0 : Int) + 1) /\ True /\ True) (st' := ASt.mk [(1, aInts l), (2, iv (m : Int)), (3, iv (p : Int)), (4, .ptr 0 []), (8, .ptr 8 []), (10, iv ((x0 : Int) + 1)), (9, .ptr 5000 [])] [(0, .cells 25 (cRun r)), (8, .cells 37 [iv 0, iv 0]), (5000, .cells 37 (cSpan (spanTo r l m p x0)))] 10320) (by kernel_rfl) ⟨tv, (o37 hp x0 hx0 h1 h2 h3 h4), tv, tv⟩ ?_
     exact loop_next (Hint.ann (h88 r l m p) [(1, aInts l), (2, iv (m : Int)), (3, iv (p : Int)), (4, AV.ptr 0 []), (8, AV.ptr 8 [])] [(0, OB.cells 25 (cRun r)), (8, OB.cells 37 [iv 0, iv 0])] 10112) x0 (ent_q hE [] [(0, .same 0), (8, .same 8), (5000, .same 5000)] [1, 2, 3] [0, 8] (((aInts l = aInts l /\ true = true) /\ (iv (m : Int) = iv (m : Int) /\ true = true) /\ (iv (p : Int) = iv (p : Int) /\ true = true) /\ (some (Src.same 0) = some (Src.same 0) /\ nilP = []) /\ (some (Src.same 8) = some (Src.same 8) /\ nilP = []) /\ (iv ((x0 : Int) + 1) = iv (↑(x0 + 1) : Int) /\ nilN = []) /\ (some (Src.same 5000) = some (Src.same 5000) /\ nilP = []) /\ True) /\ ((OB.cells 25 (cRun r) = OB.cells 25 (cRun r) /\ true = true) /\ (OB.cells 37 [iv 0, iv 0] = OB.cells 37 [iv 0, iv 0] /\ true = true) /\ (37 = 37 /\ ((iv (spanTo r l m p x0).lo = iv (spanTo r l m p (x0 + 1)).lo /\ nilN = []) /\ (iv (spanTo r l m p x0).hi = iv (spanTo r l m p (x0 + 1)).hi /\ nilN = []) /\ True) /\ true = true) /\ True) /\ T2) (by kernel_rfl) (by kernel_rfl) ⟨⟨⟨rfl, rfl⟩, ⟨rfl, rfl⟩, ⟨rfl, rfl⟩, ⟨rfl, rfl⟩, ⟨rfl, rfl⟩, ⟨(congrArg iv (o38 hp x0 hx0 h1 h2 h3 h4)), rfl⟩, ⟨rfl, rfl⟩, tv⟩, ⟨⟨rfl, rfl⟩, ⟨rfl, rfl⟩, ⟨rfl, ⟨⟨(congrArg iv (o39 hp x0 hx0 h1 h2 h3 h4)), rfl⟩, ⟨(congrArg iv (o40 hp x0 hx0 h1 h2 h3 h4)), rfl⟩, tv⟩, rfl⟩, tv⟩, rfl, rfl⟩) (o41 hp x0 hx0 h1 h2 h3 h4) (o42 hp x0 hx0 h1 h2 h3 h4)
 ·refine swp_exit (swp_seq ?_)
  refine sR (kt := [8]) (kh := [8]) (q := True /\ True /\ True) (st' := ASt.mk [(8, .ptr 8 [])] [(8, .cells 37 (cSpan (spanTo r l m p x0)))] 10160) (by kernel_rfl) ⟨tv, tv, tv⟩ ?_
  refine swp_ret ?_
  exact ret_q [] ((True /\ True) /\ ((iv (spanTo r l m p x0).lo = iv (spanOf r l m p).lo /\ nilN = []) /\ (iv (spanTo r l m p x0).hi = iv (spanOf r l m p).hi /\ nilN = []) /\ True) /\ T3) (by kernel_rfl) ⟨⟨tv, tv⟩, ⟨⟨(congrArg iv (o43 hp x0 hx0 h1)), rfl⟩, ⟨(congrArg iv (o44 hp x0 hx0 h1)), rfl⟩, tv⟩, rfl, rfl, rfl⟩
theorem t88 (r : Run) (l : List Int) (m p : Nat) : Triple Try.prog 88 (s88 r l m p) := by
  apply w88
  case o43 => intro hp x hx hl; simp only [decide_eq_false_iff_not] at hl; have : x = l.length := by omega
              subst this; rfl
  case o44 => intro hp x hx hl; simp only [decide_eq_false_iff_not] at hl; have : x = l.length := by omega
              subst this; rfl
  case o3 => intro hp; have := (ok_of hp.1).mach m hp.2.1; omega
  case o19 => intro hp x hx hl h; simp only [decide_eq_true_eq] at hl; have := (ok_of hp.1).fnd x (by omega); omega
  case o30 => intro hp x hx hl h _ _; simp only [decide_eq_true_eq] at hl; have := (ok_of hp.1).fnd x (by omega); have := (ok_of hp.1).last; simp only [inI]; omega
  all_goals first
    | (intro hp; have := (ok_of hp.1).found; (repeat intro _); simp only [decide_eq_true_eq, inI] at *; omega)
    | ((repeat intro _); rw [spanTo_succ]; simp only [spanStep]; simp_all; done)
    | ((repeat intro _) <;> (try simp only [v0, v1, v2, v3, v4, v5, v6, v7, v8, v9, inI, fits, Go.Sh.small] at *) <;> first | (exact rfl) | omega | exact vz | (simp_all; done) | (simp_all; omega))
end Go.Ab
namespace Go.Sh
open Go.Ab
def choicesN (r : Run) : Nat -> List Int -> List (List Int)
 | 0, first => [first]
 | k + 1, first => (fnd r first.length).frm.flatMap fun m => choicesN r k (first ++ [m])
def choices (r : Run) (first : List Int) : List (List Int) := choicesN r (r.found.length - first.length) first
def chAcc (r : Run) (first : List Int) (i : Nat) : List (List Int) := ((fnd r first.length).frm.take i).flatMap fun m => choices r (first ++ [m])
def canBeAt (r : Run) (l : List Int) (m p : Nat) : Bool := decide ((spanOf r l m p).lo <= (spanOf r l m p).hi)
def canBeM (r : Run) (l : List Int) (m : Nat) : Bool := (List.range r.plates.toNat).all (canBeAt r l m)
def canBe (r : Run) (l : List Int) : Bool := (List.range r.machines.length).all (canBeM r l)
def fromsOf (r : Run) : List (List Int) := (choices r []).filter (canBe r)
theorem choices_end {r : Run} {first : List Int} (h : first.length = r.found.length) : choices r first = [first] := by
 unfold choices; rw [h, Nat.sub_self]; rfl
theorem chAcc_succ {r : Run} {first : List Int} {i : Nat} (h : i < (fnd r first.length).frm.length) : chAcc r first (i + 1) = chAcc r first i ++ choices r (first ++ [(fnd r first.length).frm.getD i 0]) := by
 unfold chAcc; rw [take_succ _ 0 h, List.flatMap_append]; simp
theorem choices_step {r : Run} {first : List Int} (h : first.length < r.found.length) : choices r first = chAcc r first (fnd r first.length).frm.length := by
 unfold chAcc choices
 rw [List.take_of_length_le (Nat.le_refl _)]
 obtain ⟨k, hk⟩ : ∃ k, r.found.length - first.length = k + 1 := ⟨r.found.length - first.length - 1, by omega⟩
 rw [hk, choicesN]
 congr 1
 funext m
 have : r.found.length - (first ++ [m]).length = k := by simp; omega
 rw [this]
theorem choicesN_len {r : Run} (ok : Ok r) : ∀ k first, first.length + k <= r.found.length -> (choicesN r k first).length <= 3 ^ k := by
 intro k
 induction k with
 | zero => intro first _; exact Nat.le_refl 1
 | succ k ih =>
  intro first h
  rw [choicesN, Nat.pow_succ, Nat.mul_comm]
  have h1 := flatMap_len (fun m => choicesN r k (first ++ [m])) (3 ^ k) (fnd r first.length).frm (fun x _ => ih _ (by simp; omega))
  have h2 := frm_len ok (i := first.length) (by omega)
  exact Nat.le_trans h1 (Nat.mul_le_mul_right _ h2)
theorem pow3 {k : Nat} (h : k <= 6) : 3 ^ k <= 729 := by
 have : k = 0 ∨ k = 1 ∨ k = 2 ∨ k = 3 ∨ k = 4 ∨ k = 5 ∨ k = 6 := by omega
 rcases this with rfl | rfl | rfl | rfl | rfl | rfl | rfl <;> decide
theorem choices_len {r : Run} (ok : Ok r) {first : List Int} (h : first.length <= r.found.length) : (choices r first).length <= 729 := by
 have := choicesN_len ok (r.found.length - first.length) first (by omega)
 have h2 := ok.found
 exact Nat.le_trans this (pow3 (by omega))
theorem chAcc_len {r : Run} (ok : Ok r) {first : List Int} (h : first.length < r.found.length) (i : Nat) : (chAcc r first i).length <= 2187 := by
 unfold chAcc
 have h1 := flatMap_len (fun m => choices r (first ++ [m])) 729 ((fnd r first.length).frm.take i) (fun x _ => choices_len ok (by simp; omega))
 have h2 := frm_len ok h
 have h3 : ((fnd r first.length).frm.take i).length <= 3 := by rw [List.length_take]; omega
 have h4 := Nat.mul_le_mul_right 729 h3
 omega
theorem choicesN_mem {r : Run} : ∀ k first l, l ∈ choicesN r k first -> l.length = first.length + k := by
 intro k
 induction k with
 | zero => intro first l h; simp [choicesN] at h; rw [h]; rfl
 | succ k ih =>
  intro first l h
  rw [choicesN, List.mem_flatMap] at h
  obtain ⟨m, _, h⟩ := h
  have := ih _ _ h
  simp at this; omega
theorem choices_mem {r : Run} {l : List Int} (h : l ∈ choices r []) : l.length = r.found.length := by
 have := choicesN_mem _ _ _ h
 simpa using this
theorem canBe_false {r : Run} {l : List Int} {m p : Nat} (hm : m < r.machines.length) (hp : (p : Int) < r.plates) (h : canBeAt r l m p = false) : canBe r l = false := by
 unfold canBe
 rw [List.all_eq_false]
 refine ⟨m, List.mem_range.2 hm, ?_⟩
 have : canBeM r l m = false := by
  unfold canBeM
  rw [List.all_eq_false]
  exact ⟨p, List.mem_range.2 (by omega), by simp [h]⟩
 simp [this]
theorem all_range {n : Nat} {p : Nat -> Bool} (h : ∀ j, j < n -> p j = true) : (List.range n).all p = true := by
 rw [List.all_eq_true]; intro j hj; exact h j (List.mem_range.1 hj)
end Go.Sh
namespace Go.Ab
open Go Go.RowKit Go.Sh Go.En
def s121 (r : Run) (first : List Int) : CallSpec := { args := [vRun r, aInts first], res := aIntss (choices r first), pre := okRun r = true /\ first.length <= r.found.length }
def h121 (r : Run) (first : List Int) : Hint := { X := Nat, M := fun i => [(7, iv i), (5, .vec 5000)], H := fun i => [(5000, .vec 30 1 (chAcc r first i).length (fun k => [aInts ((chAcc r first i).getD k [])]))], I := fun i => i <= (fnd r first.length).frm.length, mu := fun i => (fnd r first.length).frm.length - i, x0 := (0 : Nat), nx := fun i => i + 1 }
def c121 (r : Run) (first : List Int) (x : Nat) : CallSpec := s121 r (first ++ [(fnd r first.length).frm.getD x 0])
def s122 (r : Run) (l : List Int) : CallSpec := { args := [vRun r, aInts l], res := bv (canBe r l), pre := okRun r = true /\ l.length <= r.found.length }
def h122a (r : Run) (l : List Int) : Hint := { X := Nat, M := fun i => [(5, iv i)], I := fun i => i <= r.machines.length /\ ∀ j, j < i -> canBeM r l j = true, mu := fun i => r.machines.length - i, x0 := (0 : Nat), nx := fun i => i + 1 }
def h122b (r : Run) (l : List Int) (x : Nat) : Hint := { X := Nat, M := fun i => [(6, iv i)], I := fun i => i <= r.plates.toNat /\ ∀ j, j < i -> canBeAt r l x j = true, mu := fun i => r.plates.toNat - i, x0 := (0 : Nat), nx := fun i => i + 1 }
def s93 (r : Run) : CallSpec := { args := [vRun r], res := aIntss (fromsOf r), pre := okRun r = true }
def h93 (r : Run) : Hint := { X := Nat, M := fun i => [(5, iv i), (4, .vec 5000)], H := fun i => [(5000, .vec 30 1 (((choices r []).take i).filter (canBe r)).length (fun k => [aInts ((((choices r []).take i).filter (canBe r)).getD k [])]))], I := fun i => i <= (choices r []).length, mu := fun i => (choices r []).length - i, x0 := (0 : Nat), nx := fun i => i + 1 }
def s20 (r : Run) : CallSpec := { args := [vRun r], res := vRun r, pre := small r }
def h20a (r : Run) : Hint := { X := Nat, M := fun i => [(4, iv i)], H := fun i => [(56, .cells 25 [iv r.plates, iv r.last, .vec 5000, nilv]), (5000, .vec 42 2 i (fun k => cMach (mach r k)))], I := fun i => i <= r.machines.length, mu := fun i => r.machines.length - i, x0 := (0 : Nat), nx := fun i => i + 1 }
def h20b (r : Run) : Hint := { X := Nat, M := fun i => [(5, iv i)], H := fun i => [(56, .cells 25 [iv r.plates, iv r.last, .vec 5000, .vec 5001]), (5000, .vec 42 2 r.machines.length (fun k => cMach (mach r k))), (5001, .vec 32 3 i (fun k => cFnd (fnd r k)))], I := fun i => i <= r.found.length, mu := fun i => r.found.length - i, x0 := (0 : Nat), nx := fun i => i + 1 }
end Go.Ab
namespace Go.Ab
open Go Go.RowKit Go.Proofs Go.Sh Go.En
abbrev q121_1 (r : Run) (first : List Int) (C : Prop) : Prop := okRun r = true /\ first.length <= r.found.length -> decide ((↑(first.length) : Int) = (↑(r.found.length) : Int)) = true -> C
abbrev q121_2 (r : Run) (first : List Int) (C : Prop) : Prop := okRun r = true /\ first.length <= r.found.length -> decide ((↑(first.length) : Int) = (↑(r.found.length) : Int)) = false -> C
abbrev q121_3 (r : Run) (first : List Int) (C : Nat -> Prop) : Prop := q121_2 r first (∀ (x3 : Nat), x3 <= (fnd r first.length).frm.length -> decide ((x3 : Int) < (↑((fnd r first.length).frm.length) : Int)) = true -> C x3)
abbrev q121_4 (r : Run) (first : List Int) (C : Nat -> Prop) : Prop := q121_2 r first (∀ (x3 : Nat), x3 <= (fnd r first.length).frm.length -> decide ((x3 : Int) < (↑((fnd r first.length).frm.length) : Int)) = false -> C x3)
theorem w121 (r : Run) (first : List Int)
 (o0 : q121_1 r first (1 = (choices r first).length))
 (o1 : q121_1 r first (∀ (i1 : Nat), i1 < (choices r first).length -> List.getD [[AV.sl 1 first.length fun (i : Nat) => [iv (first.getD i 0)]]] i1 (TI.za ti30) = [aInts ((choices r first).getD i1 [])]))
 (o2 : q121_2 r first (0 <= (↑(first.length) : Int)))
 (o3 : q121_2 r first ((↑(first.length) : Int) < (↑(r.found.length) : Int)))
 (o4 : q121_2 r first (0 = (↑0 : Int)))
 (o5 : q121_2 r first ((chAcc r first 0).length = 0))
 (o6 : q121_2 r first (0 <= (fnd r first.length).frm.length))
 (o7 : q121_3 r first fun x3 => 0 + first.length <= 65536)
 (o8 : q121_3 r first fun x3 => 0 <= (x3 : Int))
 (o9 : q121_3 r first fun x3 => (x3 : Int) < (↑((fnd r first.length).frm.length) : Int))
 (o10 : q121_3 r first fun x3 => 0 + first.length + 1 <= 65536)
 (o11 : q121_3 r first fun x3 => 0 + first.length + 1 = (first ++ [(fnd r first.length).frm.getD x3 0]).length)
 (o12 : q121_3 r first fun x3 => ∀ (i5 : Nat), i5 < (first ++ [(fnd r first.length).frm.getD x3 0]).length -> catF (0 + first.length) (fun (i : Nat) => [iv (first.getD i 0)]) (fun (j : Nat) => List.getD [[iv ((fnd r first.length).frm.getD x3 0)]] j (TI.za ti3)) i5 = [iv ((first ++ [(fnd r first.length).frm.getD x3 0]).getD i5 0)])
 (o13 : q121_3 r first fun x3 => Triple Try.prog 121 (c121 r first x3))
 (o14 : q121_3 r first fun x3 => (first ++ [(fnd r first.length).frm.getD x3 0]).length <= r.found.length)
 (o15 : q121_3 r first fun x3 => (chAcc r first x3).length + (choices r (first ++ [(fnd r first.length).frm.getD x3 0])).length <= 65536)
 (o16 : q121_3 r first fun x3 => inI ((x3 : Int) + 1))
 (o17 : q121_3 r first fun x3 => (x3 : Int) + 1 = (↑(x3 + 1) : Int))
 (o18 : q121_3 r first fun x3 => (chAcc r first x3).length + (choices r (first ++ [(fnd r first.length).frm.getD x3 0])).length = (chAcc r first (x3 + 1)).length)
 (o19 : q121_3 r first fun x3 => ∀ (i8 : Nat), i8 < (chAcc r first x3).length + (choices r (first ++ [(fnd r first.length).frm.getD x3 0])).length -> catF (chAcc r first x3).length (fun (k : Nat) => [aInts ((chAcc r first x3).getD k [])]) (fun (i : Nat) => [aInts ((choices r (first ++ [(fnd r first.length).frm.getD x3 0])).getD i [])]) i8 = [aInts ((chAcc r first (x3 + 1)).getD i8 [])])
 (o20 : q121_3 r first fun x3 => x3 + 1 <= (fnd r first.length).frm.length)
 (o21 : q121_3 r first fun x3 => (fnd r first.length).frm.length - (x3 + 1) < (fnd r first.length).frm.length - x3)
 (o22 : q121_4 r first fun x3 => (chAcc r first x3).length = (choices r first).length)
 (o23 : q121_4 r first fun x3 => ∀ (i10 : Nat), i10 < (choices r first).length -> [aInts ((chAcc r first x3).getD i10 [])] = [aInts ((choices r first).getD i10 [])]) :
  Triple Try.prog 121 (s121 r first) := by
 refine triple_of Try.func121 rfl Try.call121 T0_ok _ rfl rfl rfl rfl (Nat.le_of_ble_eq_true (by kernel_rfl)) (fun _ _ _ _ h => h) ?_
 intro hp C hC _ hE
 obtain ⟨P, w0, E0, av, hA⟩ := C
 subst hC
 refine swp_seq ?_
 refine sR (kt := [1, 2]) (kh := [0]) (q := True /\ True /\ True) (st' := ASt.mk [(1, aInts first), (2, .ptr 0 [])] [(0, .cells 25 (cRun r))] 16) (by kernel_rfl) ⟨tv, tv, tv⟩ ?_
 refine swp_seq (swp_seq ?_)
 refine sR (kt := [1, 2, 13]) (kh := [0]) (q := True /\ True /\ True /\ True /\ True /\ True /\ True) (st' := ASt.mk [(1, aInts first), (2, .ptr 0 []), (13, bv (decide ((↑(first.length) : Int) = (↑(r.found.length) : Int))))] [(0, .cells 25 (cRun r))] 64) (by kernel_rfl) ⟨tv, tv, tv, tv, tv, tv, tv⟩ ?_
 refine swp_cond (decide ((↑(first.length) : Int) = (↑(r.found.length) : Int))) (by kernel_rfl) (fun h0 => ?_) (fun h0 => ?_)
 ·refine swp_seq ?_
  refine sR (kt := [4]) (kh := [72]) (q := True /\ True /\ True /\ True) (st' := ASt.mk [(4, .vec 72)] [(72, .vec 30 1 1 fun (j : Nat) => List.getD [[.sl 1 first.length fun (i : Nat) => [iv (first.getD i 0)]]] j (TI.za ti30))] 88) (by kernel_rfl) ⟨tv, tv, tv, tv⟩ ?_
  refine swp_ret ?_
  exact ret_q [72] ((True /\ True) /\ (1 = 1 /\ 1 = (choices r first).length /\ ∀ (i1 : Nat), i1 < (choices r first).length -> List.getD [[AV.sl 1 first.length fun (i : Nat) => [iv (first.getD i 0)]]] i1 (TI.za ti30) = [aInts ((choices r first).getD i1 [])]) /\ T3) (by kernel_rfl) ⟨⟨tv, tv⟩, ⟨rfl, (o0 hp h0), (fun i1 => (fun h2 => (o1 hp h0 i1 h2)))⟩, rfl, rfl, rfl⟩
 ·refine swp_skip (swp_seq ?_)
  refine sR (kt := [1, 2, 5]) (kh := [0]) (q := True /\ True) (st' := ASt.mk [(1, aInts first), (2, .ptr 0 []), (5, nilv)] [(0, .cells 25 (cRun r))] 72) (by kernel_rfl) ⟨tv, tv⟩ ?_
  refine swp_seq ?_
  refine sR (kt := [1, 2, 5, 6]) (kh := [0]) (q := True /\ True /\ True /\ True /\ (0 <= (↑(first.length) : Int) /\ (↑(first.length) : Int) < (↑(r.found.length) : Int)) /\ True /\ True /\ True /\ True) (st' := ASt.mk [(1, aInts first), (2, .ptr 0 []), (5, nilv), (6, aInts (fnd r first.length).frm)] [(0, .cells 25 (cRun r))] 136) (by kernel_rfl) ⟨tv, tv, tv, tv, ⟨(o2 hp h0), (o3 hp h0)⟩, tv, tv, tv, tv⟩ ?_
  refine swp_seq (swp_seq ?_)
  refine sR (kt := [1, 2, 5, 6, 7]) (kh := [0]) (q := True /\ True) (st' := ASt.mk [(1, aInts first), (2, .ptr 0 []), (5, nilv), (6, aInts (fnd r first.length).frm), (7, iv 0)] [(0, .cells 25 (cRun r))] 144) (by kernel_rfl) ⟨tv, tv⟩ ?_
  refine swp_block ?_
  refine swp_loopA (Hint.ann (h121 r first) [(1, aInts first), (2, AV.ptr 0 []), (6, aInts (fnd r first.length).frm)] [(0, OB.cells 25 (cRun r))] 10144) (ent_q hE [] [(0, .same 0), (5000, .nil)] [1, 6] [0] (((aInts first = aInts first /\ true = true) /\ (some (Src.same 0) = some (Src.same 0) /\ nilP = []) /\ (aInts (fnd r first.length).frm = aInts (fnd r first.length).frm /\ true = true) /\ (iv 0 = iv (↑0 : Int) /\ nilN = []) /\ some Src.nil = some Src.nil /\ True) /\ ((OB.cells 25 (cRun r) = OB.cells 25 (cRun r) /\ true = true) /\ (chAcc r first 0).length = 0 /\ True) /\ T2) (by kernel_rfl) (by kernel_rfl) ⟨⟨⟨rfl, rfl⟩, ⟨rfl, rfl⟩, ⟨rfl, rfl⟩, ⟨(congrArg iv (o4 hp h0)), rfl⟩, rfl, tv⟩, ⟨⟨rfl, rfl⟩, (o5 hp h0), tv⟩, rfl, rfl⟩) (o6 hp h0) (fun (x3 : Nat) hx3 => ?_)
  refine swp_seq (swp_seq ?_)
  refine sR (kt := [1, 2, 6, 7, 5, 26]) (kh := [0, 5000]) (q := True /\ True /\ True /\ True /\ True) (st' := ASt.mk [(1, aInts first), (2, .ptr 0 []), (6, aInts (fnd r first.length).frm), (7, iv (x3 : Int)), (5, .vec 5000), (26, bv (decide ((x3 : Int) < (↑((fnd r first.length).frm.length) : Int))))] [(0, .cells 25 (cRun r)), (5000, .vec 30 1 (chAcc r first x3).length fun (k : Nat) => [aInts ((chAcc r first x3).getD k [])])] 10176) (by kernel_rfl) ⟨tv, tv, tv, tv, tv⟩ ?_
  refine swp_cond (decide ((x3 : Int) < (↑((fnd r first.length).frm.length) : Int))) (by kernel_rfl) (fun h4 => ?_) (fun h4 => ?_)
  ·refine swp_skip (swp_seq (swp_block ?_))
   refine swp_region T0_ok mixed (cs := [(11, CallSpec.eq (c121 r first x3) [true, false])]) (kt := [1, 2, 6, 7, 5]) (kh := [0, 10272]) (q := True /\ True /\ True /\ True /\ 0 + first.length <= 65536 /\ True /\ True /\ (0 <= (x3 : Int) /\ (x3 : Int) < (↑((fnd r first.length).frm.length) : Int)) /\ True /\ True /\ 0 + first.length + 1 <= 65536 /\ ((AV.agg (cRun r) = AV.agg (cRun r) /\ (1 = 1 /\ 0 + first.length + 1 = (first ++ [(fnd r first.length).frm.getD x3 0]).length /\ ∀ (i5 : Nat), i5 < (first ++ [(fnd r first.length).frm.getD x3 0]).length -> catF (0 + first.length) (fun (i : Nat) => [iv (first.getD i 0)]) (fun (j : Nat) => List.getD [[iv ((fnd r first.length).frm.getD x3 0)]] j (TI.za ti3)) i5 = [iv ((first ++ [(fnd r first.length).frm.getD x3 0]).getD i5 0)]) /\ True) /\ Triple Try.prog 121 (c121 r first x3) /\ (okRun r = true /\ (first ++ [(fnd r first.length).frm.getD x3 0]).length <= r.found.length) /\ True /\ ∀ (i7 : Env), True) /\ (chAcc r first x3).length + (choices r (first ++ [(fnd r first.length).frm.getD x3 0])).length <= 65536 /\ True /\ True) (st' := ASt.mk [(1, aInts first), (2, .ptr 0 []), (6, aInts (fnd r first.length).frm), (7, iv (x3 : Int)), (5, .vec 10272)] [(0, .cells 25 (cRun r)), (10272, .vec 30 1 ((chAcc r first x3).length + (choices r (first ++ [(fnd r first.length).frm.getD x3 0])).length) (catF (chAcc r first x3).length (fun (k : Nat) => [aInts ((chAcc r first x3).getD k [])]) fun (i : Nat) => [aInts ((choices r (first ++ [(fnd r first.length).frm.getD x3 0])).getD i [])]))] 10288) (by kernel_rfl) ⟨tv, tv, tv, tv, (o7 hp h0 x3 hx3 h4), tv, tv, ⟨(o8 hp h0 x3 hx3 h4), (o9 hp h0 x3 hx3 h4)⟩, tv, tv, (o10 hp h0 x3 hx3 h4), ⟨⟨rfl, ⟨rfl, (o11 hp h0 x3 hx3 h4), (fun i5 => (fun h6 => (o12 hp h0 x3 hx3 h4 i5 h6)))⟩, tv⟩, (o13 hp h0 x3 hx3 h4), ⟨hp.1, (o14 hp h0 x3 hx3 h4)⟩, tv, (fun i7 => tv)⟩, (o15 hp h0 x3 hx3 h4), tv, tv⟩ ?_
   refine sR (kt := [1, 2, 6, 7, 5]) (kh := [0, 10272]) (q := True /\ inI ((x3 : Int) + 1) /\ True /\ True) (st' := ASt.mk [(1, aInts first), (2, .ptr 0 []), (6, aInts (fnd r first.length).frm), (7, iv ((x3 : Int) + 1)), (5, .vec 10272)] [(0, .cells 25 (cRun r)), (10272, .vec 30 1 ((chAcc r first x3).length + (choices r (first ++ [(fnd r first.length).frm.getD x3 0])).length) (catF (chAcc r first x3).length (fun (k : Nat) => [aInts ((chAcc r first x3).getD k [])]) fun (i : Nat) => [aInts ((choices r (first ++ [(fnd r first.length).frm.getD x3 0])).getD i [])]))] 10312) (by kernel_rfl) ⟨tv, (o16 hp h0 x3 hx3 h4), tv, tv⟩ ?_
   exact loop_next (Hint.ann (h121 r first) [(1, aInts first), (2, AV.ptr 0 []), (6, aInts (fnd r first.length).frm)] [(0, OB.cells 25 (cRun r))] 10144) x3 (ent_q hE [] [(0, .same 0), (5000, .same 10272)] [1, 6] [0] (((aInts first = aInts first /\ true = true) /\ (some (Src.same 0) = some (Src.same 0) /\ nilP = []) /\ (aInts (fnd r first.length).frm = aInts (fnd r first.length).frm /\ true = true) /\ (iv ((x3 : Int) + 1) = iv (↑(x3 + 1) : Int) /\ nilN = []) /\ some (Src.same 10272) = some (Src.same 10272) /\ True) /\ ((OB.cells 25 (cRun r) = OB.cells 25 (cRun r) /\ true = true) /\ (30 = 30 /\ 1 = 1 /\ (chAcc r first x3).length + (choices r (first ++ [(fnd r first.length).frm.getD x3 0])).length = (chAcc r first (x3 + 1)).length /\ ∀ (i8 : Nat), i8 < (chAcc r first x3).length + (choices r (first ++ [(fnd r first.length).frm.getD x3 0])).length -> catF (chAcc r first x3).length (fun (k : Nat) => [aInts ((chAcc r first x3).getD k [])]) (fun (i : Nat) => [aInts ((choices r (first ++ [(fnd r first.length).frm.getD x3 0])).getD i [])]) i8 = [aInts ((chAcc r first (x3 + 1)).getD i8 [])]) /\ True) /\ T2) (by kernel_rfl) (by kernel_rfl) ⟨⟨⟨rfl, rfl⟩, ⟨rfl, rfl⟩, ⟨rfl, rfl⟩, ⟨(congrArg iv (o17 hp h0 x3 hx3 h4)), rfl⟩, rfl, tv⟩, ⟨⟨rfl, rfl⟩, ⟨rfl, rfl, (o18 hp h0 x3 hx3 h4), (fun i8 => (fun h9 => (o19 hp h0 x3 hx3 h4 i8 h9)))⟩, tv⟩, rfl, rfl⟩) (o20 hp h0 x3 hx3 h4) (o21 hp h0 x3 hx3 h4)
  ·refine swp_exit (swp_seq ?_)
   refine sR (kt := [4]) (kh := [5000]) (q := True /\ True /\ True) (st' := ASt.mk [(4, .vec 5000)] [(5000, .vec 30 1 (chAcc r first x3).length fun (k : Nat) => [aInts ((chAcc r first x3).getD k [])])] 10192) (by kernel_rfl) ⟨tv, tv, tv⟩ ?_
   refine swp_ret ?_
   exact ret_q [5000] ((True /\ True) /\ (1 = 1 /\ (chAcc r first x3).length = (choices r first).length /\ ∀ (i10 : Nat), i10 < (choices r first).length -> [aInts ((chAcc r first x3).getD i10 [])] = [aInts ((choices r first).getD i10 [])]) /\ T3) (by kernel_rfl) ⟨⟨tv, tv⟩, ⟨rfl, (o22 hp h0 x3 hx3 h4), (fun i10 => (fun h11 => (o23 hp h0 x3 hx3 h4 i10 h11)))⟩, rfl, rfl, rfl⟩
theorem t121' (r : Run) : ∀ (n : Nat) (first : List Int), r.found.length - first.length = n -> Triple Try.prog 121 (s121 r first) := by
 intro n
 induction n using Nat.strongRecOn with
 | _ n ih =>
  intro first hn
  apply w121
  case o0 => intro hp h; rw [choices_end (by simp only [decide_eq_true_eq] at h; omega)]; rfl
  case o1 =>
   intro hp h i hi
   have e := choices_end (r := r) (first := first) (by simp only [decide_eq_true_eq] at h; omega)
   rw [e] at hi ⊢
   have : i = 0 := by simp at hi; omega
   subst this; rfl
  case o7 => intro hp _ x hx hl; have := (ok_of hp.1).found; omega
  case o10 => intro hp _ x hx hl; have := (ok_of hp.1).found; omega
  case o11 => (repeat intro _); simp
  case o12 => intro hp _ x hx hl i hi; exact catF_one first _ 0 (fun z => [iv z]) (by omega) (fun _ _ => rfl) rfl (by simpa using hi)
  case o13 =>
   intro hp h x hx hl
   simp only [decide_eq_false_iff_not] at h
   exact ih (r.found.length - (first.length + 1)) (by omega) _ (by simp)
  case o14 => intro hp h x hx hl; simp only [decide_eq_false_iff_not] at h; simp; omega
  case o15 =>
   intro hp h x hx hl
   simp only [decide_eq_false_iff_not, decide_eq_true_eq] at h hl
   have h1 := chAcc_len (ok_of hp.1) (first := first) (by omega) x
   have h2 := choices_len (ok_of hp.1) (first := first ++ [(fnd r first.length).frm.getD x 0]) (by simp; omega)
   omega
  case o16 =>
   intro hp h x hx hl
   simp only [decide_eq_false_iff_not] at h
   have := frm_len (ok_of hp.1) (i := first.length) (by omega)
   simp only [inI]; omega
  case o18 =>
   intro hp h x hx hl
   simp only [decide_eq_true_eq] at hl
   rw [chAcc_succ (by omega), List.length_append]
  case o19 =>
   intro hp h x hx hl i hi
   simp only [decide_eq_true_eq] at hl
   rw [chAcc_succ (by omega)]
   exact catF_eq _ _ [] (fun z => [aInts z]) rfl (fun _ _ => rfl) (fun _ _ => rfl) hi
  case o22 =>
   intro hp h x hx hl
   simp only [decide_eq_false_iff_not] at h hl
   rw [choices_step (by omega), show x = (fnd r first.length).frm.length by omega]
  case o23 =>
   intro hp h x hx hl i hi
   simp only [decide_eq_false_iff_not] at h hl
   rw [choices_step (by omega), show x = (fnd r first.length).frm.length by omega]
  all_goals ((repeat intro _) <;> (try simp only [v0, v1, v2, v3, v4, v5, v6, v7, v8, v9, inI, fits, Go.Sh.small] at *) <;> first | (exact rfl) | omega | exact vz | (simp_all; done) | (simp_all; omega))
theorem t121 (r : Run) (first : List Int) : Triple Try.prog 121 (s121 r first) := t121' r _ first rfl
abbrev q122_1 (r : Run) (l : List Int) (C : Prop) : Prop := okRun r = true /\ l.length <= r.found.length -> C
abbrev q122_2 (r : Run) (l : List Int) (C : Nat -> Prop) : Prop := q122_1 r l (∀ (x0 : Nat), (x0 <= r.machines.length /\ ∀ (j : Nat), j < x0 -> canBeM r l j = true) -> decide ((x0 : Int) < (↑(r.machines.length) : Int)) = true -> C x0)
abbrev q122_3 (r : Run) (l : List Int) (C : Nat -> Nat -> Prop) : Prop := q122_2 r l fun x0 => ∀ (x2 : Nat), (x2 <= r.plates.toNat /\ ∀ (j : Nat), j < x2 -> canBeAt r l x0 j = true) -> decide ((x2 : Int) < r.plates) = true -> C x0 x2
abbrev q122_4 (r : Run) (l : List Int) (C : Nat -> Nat -> Prop) : Prop := q122_3 r l fun x0 x2 => decide ((spanOf r l x0 x2).hi < (spanOf r l x0 x2).lo) = false -> C x0 x2
abbrev q122_5 (r : Run) (l : List Int) (C : Nat -> Nat -> Prop) : Prop := q122_2 r l fun x0 => ∀ (x2 : Nat), (x2 <= r.plates.toNat /\ ∀ (j : Nat), j < x2 -> canBeAt r l x0 j = true) -> decide ((x2 : Int) < r.plates) = false -> C x0 x2
theorem w122 (r : Run) (l : List Int)
 (o0 : q122_1 r l (0 = (↑0 : Int)))
 (o1 : q122_1 r l (0 <= r.machines.length /\ ∀ (j : Nat), j < 0 -> canBeM r l j = true))
 (o2 : q122_2 r l fun x0 => 0 = (↑0 : Int))
 (o3 : q122_2 r l fun x0 => 0 <= r.plates.toNat /\ ∀ (j : Nat), j < 0 -> canBeAt r l x0 j = true)
 (o4 : q122_3 r l fun x0 x2 => x0 < r.machines.length)
 (o5 : q122_3 r l fun x0 x2 => (x2 : Int) < r.plates)
 (o6 : q122_3 r l fun x0 x2 => decide ((spanOf r l x0 x2).hi < (spanOf r l x0 x2).lo) = true -> false = canBe r l)
 (o7 : q122_4 r l fun x0 x2 => inI ((x2 : Int) + 1))
 (o8 : q122_4 r l fun x0 x2 => (x2 : Int) + 1 = (↑(x2 + 1) : Int))
 (o9 : q122_4 r l fun x0 x2 => x2 + 1 <= r.plates.toNat /\ ∀ (j : Nat), j < x2 + 1 -> canBeAt r l x0 j = true)
 (o10 : q122_4 r l fun x0 x2 => r.plates.toNat - (x2 + 1) < r.plates.toNat - x2)
 (o11 : q122_5 r l fun x0 x2 => inI ((x0 : Int) + 1))
 (o12 : q122_5 r l fun x0 x2 => (x0 : Int) + 1 = (↑(x0 + 1) : Int))
 (o13 : q122_5 r l fun x0 x2 => x0 + 1 <= r.machines.length /\ ∀ (j : Nat), j < x0 + 1 -> canBeM r l j = true)
 (o14 : q122_5 r l fun x0 x2 => r.machines.length - (x0 + 1) < r.machines.length - x0)
 (o15 : q122_1 r l (∀ (x0 : Nat), (x0 <= r.machines.length /\ ∀ (j : Nat), j < x0 -> canBeM r l j = true) -> decide ((x0 : Int) < (↑(r.machines.length) : Int)) = false -> true = canBe r l)) :
  Triple Try.prog 122 (s122 r l) := by
 refine triple_of Try.func122 rfl Try.call122 T0_ok _ rfl rfl rfl rfl (Nat.le_of_ble_eq_true (by kernel_rfl)) (fun _ _ _ _ h => h) ?_
 intro hp C hC _ hE
 obtain ⟨P, w0, E0, av, hA⟩ := C
 subst hC
 refine swp_seq ?_
 refine sR (kt := [1, 2]) (kh := [0]) (q := True /\ True /\ True) (st' := ASt.mk [(1, aInts l), (2, .ptr 0 [])] [(0, .cells 25 (cRun r))] 16) (by kernel_rfl) ⟨tv, tv, tv⟩ ?_
 refine swp_seq (swp_seq ?_)
 refine sR (kt := [1, 2, 5]) (kh := [0]) (q := True /\ True) (st' := ASt.mk [(1, aInts l), (2, .ptr 0 []), (5, iv 0)] [(0, .cells 25 (cRun r))] 24) (by kernel_rfl) ⟨tv, tv⟩ ?_
 refine swp_block ?_
 refine swp_loopA (Hint.ann (h122a r l) [(1, aInts l), (2, AV.ptr 0 [])] [(0, OB.cells 25 (cRun r))] 10024) (ent_q hE [] [(0, .same 0)] [1] [0] (((aInts l = aInts l /\ true = true) /\ (some (Src.same 0) = some (Src.same 0) /\ nilP = []) /\ (iv 0 = iv (↑0 : Int) /\ nilN = []) /\ True) /\ ((OB.cells 25 (cRun r) = OB.cells 25 (cRun r) /\ true = true) /\ True) /\ T2) (by kernel_rfl) (by kernel_rfl) ⟨⟨⟨rfl, rfl⟩, ⟨rfl, rfl⟩, ⟨(congrArg iv (o0 hp)), rfl⟩, tv⟩, ⟨⟨rfl, rfl⟩, tv⟩, rfl, rfl⟩) (o1 hp) (fun (x0 : Nat) hx0 => ?_)
 refine swp_seq (swp_seq ?_)
 refine sR (kt := [1, 2, 5, 12]) (kh := [0]) (q := True /\ True /\ True /\ True /\ True /\ True) (st' := ASt.mk [(1, aInts l), (2, .ptr 0 []), (5, iv (x0 : Int)), (12, bv (decide ((x0 : Int) < (↑(r.machines.length) : Int))))] [(0, .cells 25 (cRun r))] 10064) (by kernel_rfl) ⟨tv, tv, tv, tv, tv, tv⟩ ?_
 refine swp_cond (decide ((x0 : Int) < (↑(r.machines.length) : Int))) (by kernel_rfl) (fun h1 => ?_) (fun h1 => ?_)
 ·refine swp_skip (swp_seq (swp_block (swp_seq ?_)))
  refine sR (kt := [1, 2, 5, 6]) (kh := [0]) (q := True /\ True) (st' := ASt.mk [(1, aInts l), (2, .ptr 0 []), (5, iv (x0 : Int)), (6, iv 0)] [(0, .cells 25 (cRun r))] 10072) (by kernel_rfl) ⟨tv, tv⟩ ?_
  refine swp_block ?_
  refine swp_loopA (Hint.ann (h122b r l x0) [(1, aInts l), (2, AV.ptr 0 []), (5, iv (x0 : Int))] [(0, OB.cells 25 (cRun r))] 20072) (ent_q hE [] [(0, .same 0)] [1, 5] [0] (((aInts l = aInts l /\ true = true) /\ (some (Src.same 0) = some (Src.same 0) /\ nilP = []) /\ (iv (x0 : Int) = iv (x0 : Int) /\ true = true) /\ (iv 0 = iv (↑0 : Int) /\ nilN = []) /\ True) /\ ((OB.cells 25 (cRun r) = OB.cells 25 (cRun r) /\ true = true) /\ True) /\ T2) (by kernel_rfl) (by kernel_rfl) ⟨⟨⟨rfl, rfl⟩, ⟨rfl, rfl⟩, ⟨rfl, rfl⟩, ⟨(congrArg iv (o2 hp x0 hx0 h1)), rfl⟩, tv⟩, ⟨⟨rfl, rfl⟩, tv⟩, rfl, rfl⟩) (o3 hp x0 hx0 h1) (fun (x2 : Nat) hx2 => ?_)
  refine swp_seq (swp_seq ?_)
  refine sR (kt := [1, 2, 5, 6, 18]) (kh := [0]) (q := True /\ True /\ True /\ True /\ True) (st' := ASt.mk [(1, aInts l), (2, .ptr 0 []), (5, iv (x0 : Int)), (6, iv (x2 : Int)), (18, bv (decide ((x2 : Int) < r.plates)))] [(0, .cells 25 (cRun r))] 20104) (by kernel_rfl) ⟨tv, tv, tv, tv, tv⟩ ?_
  refine swp_cond (decide ((x2 : Int) < r.plates)) (by kernel_rfl) (fun h3 => ?_) (fun h3 => ?_)
  ·refine swp_skip (swp_seq (swp_block (swp_seq ?_)))
   refine swp_region T0_ok mixed (cs := [(4, CallSpec.eq (s88 r l x0 x2) [true, true, true, true])]) (kt := [1, 2, 5, 6, 7]) (kh := [0, 20144]) (q := True /\ True /\ True /\ True /\ ((AV.agg (cRun r) = AV.agg (cRun r) /\ aInts l = aInts l /\ iv (x0 : Int) = iv (x0 : Int) /\ iv (x2 : Int) = iv (x2 : Int) /\ True) /\ Triple Try.prog 88 (s88 r l x0 x2) /\ (okRun r = true /\ x0 < r.machines.length /\ (x2 : Int) < r.plates /\ l.length <= r.found.length) /\ True /\ ∀ (i4 : Env), True) /\ True /\ True /\ True) (st' := ASt.mk [(1, aInts l), (2, .ptr 0 []), (5, iv (x0 : Int)), (6, iv (x2 : Int)), (7, .ptr 20144 [])] [(0, .cells 25 (cRun r)), (20144, .cells 37 (cSpan (spanOf r l x0 x2)))] 20160) (by kernel_rfl) ⟨tv, tv, tv, tv, ⟨⟨rfl, rfl, rfl, rfl, tv⟩, (t88 (r) (l) (x0) (x2)), ⟨hp.1, (o4 hp x0 hx0 h1 x2 hx2 h3), (o5 hp x0 hx0 h1 x2 hx2 h3), hp.2⟩, tv, (fun i4 => tv)⟩, tv, tv, tv⟩ ?_
   refine swp_seq ?_
   refine sR (kt := [1, 2, 5, 6, 30]) (kh := [0]) (q := True /\ True /\ True /\ True /\ True /\ True) (st' := ASt.mk [(1, aInts l), (2, .ptr 0 []), (5, iv (x0 : Int)), (6, iv (x2 : Int)), (30, bv (decide ((spanOf r l x0 x2).hi < (spanOf r l x0 x2).lo)))] [(0, .cells 25 (cRun r))] 20200) (by kernel_rfl) ⟨tv, tv, tv, tv, tv, tv⟩ ?_
   refine swp_cond (decide ((spanOf r l x0 x2).hi < (spanOf r l x0 x2).lo)) (by kernel_rfl) (fun h5 => ?_) (fun h5 => ?_)
   ·refine swp_seq ?_
    refine sR (kt := [4]) (kh := []) (q := True /\ True) (st' := ASt.mk [(4, bv false)] [] 20208) (by kernel_rfl) ⟨tv, tv⟩ ?_
    refine swp_ret ?_
    exact ret_q [] ((True /\ True) /\ (bv false = bv (canBe r l) /\ nilN = []) /\ T3) (by kernel_rfl) ⟨⟨tv, tv⟩, ⟨(congrArg bv (o6 hp x0 hx0 h1 x2 hx2 h3 h5)), rfl⟩, rfl, rfl, rfl⟩
   ·refine swp_skip ?_
    refine sR (kt := [1, 2, 5, 6]) (kh := [0]) (q := True /\ inI ((x2 : Int) + 1) /\ True /\ True) (st' := ASt.mk [(1, aInts l), (2, .ptr 0 []), (5, iv (x0 : Int)), (6, iv ((x2 : Int) + 1))] [(0, .cells 25 (cRun r))] 20224) (by kernel_rfl) ⟨tv, (o7 hp x0 hx0 h1 x2 hx2 h3 h5), tv, tv⟩ ?_
    exact loop_next (Hint.ann (h122b r l x0) [(1, aInts l), (2, AV.ptr 0 []), (5, iv (x0 : Int))] [(0, OB.cells 25 (cRun r))] 20072) x2 (ent_q hE [] [(0, .same 0)] [1, 5] [0] (((aInts l = aInts l /\ true = true) /\ (some (Src.same 0) = some (Src.same 0) /\ nilP = []) /\ (iv (x0 : Int) = iv (x0 : Int) /\ true = true) /\ (iv ((x2 : Int) + 1) = iv (↑(x2 + 1) : Int) /\ nilN = []) /\ True) /\ ((OB.cells 25 (cRun r) = OB.cells 25 (cRun r) /\ true = true) /\ True) /\ T2) (by kernel_rfl) (by kernel_rfl) ⟨⟨⟨rfl, rfl⟩, ⟨rfl, rfl⟩, ⟨rfl, rfl⟩, ⟨(congrArg iv (o8 hp x0 hx0 h1 x2 hx2 h3 h5)), rfl⟩, tv⟩, ⟨⟨rfl, rfl⟩, tv⟩, rfl, rfl⟩) (o9 hp x0 hx0 h1 x2 hx2 h3 h5) (o10 hp x0 hx0 h1 x2 hx2 h3 h5)
  ·refine swp_exit ?_
   refine sR (kt := [1, 2, 5]) (kh := [0]) (q := True /\ inI ((x0 : Int) + 1) /\ True /\ True) (st' := ASt.mk [(1, aInts l), (2, .ptr 0 []), (5, iv ((x0 : Int) + 1))] [(0, .cells 25 (cRun r))] 20128) (by kernel_rfl) ⟨tv, (o11 hp x0 hx0 h1 x2 hx2 h3), tv, tv⟩ ?_
   exact loop_next (Hint.ann (h122a r l) [(1, aInts l), (2, AV.ptr 0 [])] [(0, OB.cells 25 (cRun r))] 10024) x0 (ent_q hE [] [(0, .same 0)] [1] [0] (((aInts l = aInts l /\ true = true) /\ (some (Src.same 0) = some (Src.same 0) /\ nilP = []) /\ (iv ((x0 : Int) + 1) = iv (↑(x0 + 1) : Int) /\ nilN = []) /\ True) /\ ((OB.cells 25 (cRun r) = OB.cells 25 (cRun r) /\ true = true) /\ True) /\ T2) (by kernel_rfl) (by kernel_rfl) ⟨⟨⟨rfl, rfl⟩, ⟨rfl, rfl⟩, ⟨(congrArg iv (o12 hp x0 hx0 h1 x2 hx2 h3)), rfl⟩, tv⟩, ⟨⟨rfl, rfl⟩, tv⟩, rfl, rfl⟩) (o13 hp x0 hx0 h1 x2 hx2 h3) (o14 hp x0 hx0 h1 x2 hx2 h3)
 ·refine swp_exit (swp_seq ?_)
  refine sR (kt := [4]) (kh := []) (q := True /\ True) (st' := ASt.mk [(4, bv true)] [] 10072) (by kernel_rfl) ⟨tv, tv⟩ ?_
  refine swp_ret ?_
  exact ret_q [] ((True /\ True) /\ (bv true = bv (canBe r l) /\ nilN = []) /\ T3) (by kernel_rfl) ⟨⟨tv, tv⟩, ⟨(congrArg bv (o15 hp x0 hx0 h1)), rfl⟩, rfl, rfl, rfl⟩
theorem t122 (r : Run) (l : List Int) : Triple Try.prog 122 (s122 r l) := by
 apply w122
 case o6 =>
  intro hp x hx hl y hy hyl h
  simp only [decide_eq_true_eq] at hl hyl h
  exact (canBe_false (m := x) (p := y) (by omega) hyl (by simp only [canBeAt, decide_eq_false_iff_not]; omega)).symm
 case o9 =>
  intro hp x hx hl y hy hyl h
  simp only [decide_eq_true_eq, decide_eq_false_iff_not] at hl hyl h
  exact ⟨by omega, lt_succ_cases hy.2 (by simp only [canBeAt, decide_eq_true_eq]; omega)⟩
 case o13 =>
  intro hp x hx hl y hy hyl
  simp only [decide_eq_true_eq, decide_eq_false_iff_not] at hl hyl
  exact ⟨by omega, lt_succ_cases hx.2 (all_range fun j hj => hy.2 j (by omega))⟩
 case o15 =>
  intro hp x hx hl
  simp only [decide_eq_false_iff_not] at hl
  exact (all_range fun j hj => hx.2 j (by omega)).symm
 case o7 => intro hp x hx hl y hy hyl h; have := (ok_of hp.1).plates; simp only [decide_eq_true_eq] at hyl; simp only [inI]; omega
 case o11 => intro hp x hx hl y hy hyl; have := (ok_of hp.1).machines; simp only [inI]; omega
 all_goals ((repeat intro _) <;> (try simp only [v0, v1, v2, v3, v4, v5, v6, v7, v8, v9, inI, fits, Go.Sh.small] at *) <;> first | (exact rfl) | omega | exact vz | (simp_all; done) | (simp_all; omega))
abbrev q93_1 (r : Run) (C : Nat -> Prop) : Prop := okRun r = true -> ∀ (x1 : Nat), x1 <= (choices r []).length -> decide ((x1 : Int) < (↑((choices r []).length) : Int)) = true -> C x1
abbrev q93_2 (r : Run) (C : Nat -> Prop) : Prop := q93_1 r fun x1 => canBe r ((choices r []).getD x1 []) = true -> C x1
abbrev q93_3 (r : Run) (C : Nat -> Prop) : Prop := q93_1 r fun x1 => canBe r ((choices r []).getD x1 []) = false -> C x1
abbrev q93_4 (r : Run) (C : Nat -> Prop) : Prop := okRun r = true -> ∀ (x1 : Nat), x1 <= (choices r []).length -> decide ((x1 : Int) < (↑((choices r []).length) : Int)) = false -> C x1
theorem w93 (r : Run)
 (o0 : okRun r = true -> 0 <= List.length (Run.found r))
 (o1 : okRun r = true -> 0 = (↑0 : Int))
 (o2 : okRun r = true -> (List.filter (canBe r) (List.take 0 (choices r []))).length = 0)
 (o3 : okRun r = true -> 0 <= List.length (choices r []))
 (o4 : q93_1 r fun x1 => 0 <= (x1 : Int))
 (o5 : q93_1 r fun x1 => (x1 : Int) < (↑((choices r []).length) : Int))
 (o6 : q93_1 r fun x1 => ((choices r []).getD x1 []).length <= r.found.length)
 (o7 : q93_2 r fun x1 => 0 <= (x1 : Int))
 (o8 : q93_2 r fun x1 => (x1 : Int) < (↑((choices r []).length) : Int))
 (o9 : q93_2 r fun x1 => (List.filter (canBe r) (List.take x1 (choices r []))).length + 1 <= 65536)
 (o10 : q93_2 r fun x1 => inI ((x1 : Int) + 1))
 (o11 : q93_2 r fun x1 => (x1 : Int) + 1 = (↑(x1 + 1) : Int))
 (o12 : q93_2 r fun x1 => (List.filter (canBe r) (List.take x1 (choices r []))).length + 1 = (List.filter (canBe r) (List.take (x1 + 1) (choices r []))).length)
 (o13 : q93_2 r fun x1 => ∀ (i5 : Nat), i5 < (List.filter (canBe r) (List.take x1 (choices r []))).length + 1 -> catF (List.filter (canBe r) (List.take x1 (choices r []))).length (fun (k : Nat) => [aInts ((List.filter (canBe r) (List.take x1 (choices r []))).getD k [])]) (fun (j : Nat) => List.getD [[AV.sl 1 ((choices r []).getD x1 []).length fun (i : Nat) => [iv (((choices r []).getD x1 []).getD i 0)]]] j (TI.za ti30)) i5 = [aInts ((List.filter (canBe r) (List.take (x1 + 1) (choices r []))).getD i5 [])])
 (o14 : q93_2 r fun x1 => x1 + 1 <= (choices r []).length)
 (o15 : q93_2 r fun x1 => (choices r []).length - (x1 + 1) < (choices r []).length - x1)
 (o16 : q93_3 r fun x1 => inI ((x1 : Int) + 1))
 (o17 : q93_3 r fun x1 => (x1 : Int) + 1 = (↑(x1 + 1) : Int))
 (o18 : q93_3 r fun x1 => (List.filter (canBe r) (List.take x1 (choices r []))).length = (List.filter (canBe r) (List.take (x1 + 1) (choices r []))).length)
 (o19 : q93_3 r fun x1 => ∀ (i7 : Nat), i7 < (List.filter (canBe r) (List.take x1 (choices r []))).length -> [aInts ((List.filter (canBe r) (List.take x1 (choices r []))).getD i7 [])] = [aInts ((List.filter (canBe r) (List.take (x1 + 1) (choices r []))).getD i7 [])])
 (o20 : q93_3 r fun x1 => x1 + 1 <= (choices r []).length)
 (o21 : q93_3 r fun x1 => (choices r []).length - (x1 + 1) < (choices r []).length - x1)
 (o22 : q93_4 r fun x1 => (List.filter (canBe r) (List.take x1 (choices r []))).length = (fromsOf r).length)
 (o23 : q93_4 r fun x1 => ∀ (i9 : Nat), i9 < (fromsOf r).length -> [aInts ((List.filter (canBe r) (List.take x1 (choices r []))).getD i9 [])] = [aInts ((fromsOf r).getD i9 [])]) :
  Triple Try.prog 93 (s93 r) := by
 refine triple_of Try.func93 rfl Try.call93 T0_ok _ rfl rfl rfl rfl (Nat.le_of_ble_eq_true (by kernel_rfl)) (fun _ _ _ _ h => h) ?_
 intro hp C hC _ hE
 obtain ⟨P, w0, E0, av, hA⟩ := C
 subst hC
 refine swp_seq ?_
 refine sR (kt := [1]) (kh := [0]) (q := True /\ True /\ True) (st' := ASt.mk [(1, .ptr 0 [])] [(0, .cells 25 (cRun r))] 16) (by kernel_rfl) ⟨tv, tv, tv⟩ ?_
 refine swp_seq ?_
 refine swp_region T0_ok mixed (cs := [(1, CallSpec.eq (s121 r []) [true, false])]) (kt := [1, 3]) (kh := [0]) (q := True /\ ((AV.agg (cRun r) = AV.agg (cRun r) /\ 0 = 0 /\ True) /\ Triple Try.prog 121 (s121 r []) /\ (okRun r = true /\ 0 <= r.found.length) /\ True /\ ∀ (i0 : Env), True) /\ True /\ True) (st' := ASt.mk [(1, .ptr 0 []), (3, aIntss (choices r []))] [(0, .cells 25 (cRun r))] 40) (by kernel_rfl) ⟨tv, ⟨⟨rfl, rfl, tv⟩, (t121 (r) ([])), ⟨hp, (o0 hp)⟩, tv, (fun i0 => tv)⟩, tv, tv⟩ ?_
 refine swp_seq ?_
 refine sR (kt := [1, 3, 4]) (kh := [0]) (q := True /\ True) (st' := ASt.mk [(1, .ptr 0 []), (3, aIntss (choices r [])), (4, nilv)] [(0, .cells 25 (cRun r))] 48) (by kernel_rfl) ⟨tv, tv⟩ ?_
 refine swp_seq (swp_seq ?_)
 refine sR (kt := [1, 3, 4, 5]) (kh := [0]) (q := True /\ True) (st' := ASt.mk [(1, .ptr 0 []), (3, aIntss (choices r [])), (4, nilv), (5, iv 0)] [(0, .cells 25 (cRun r))] 56) (by kernel_rfl) ⟨tv, tv⟩ ?_
 refine swp_block ?_
 refine swp_loopA (Hint.ann (h93 r) [(1, AV.ptr 0 []), (3, aIntss (choices r []))] [(0, OB.cells 25 (cRun r))] 10056) (ent_q hE [] [(0, .same 0), (5000, .nil)] [3] [0] (((some (Src.same 0) = some (Src.same 0) /\ nilP = []) /\ (aIntss (choices r []) = aIntss (choices r []) /\ true = true) /\ (iv 0 = iv (↑0 : Int) /\ nilN = []) /\ some Src.nil = some Src.nil /\ True) /\ ((OB.cells 25 (cRun r) = OB.cells 25 (cRun r) /\ true = true) /\ (List.filter (canBe r) (List.take 0 (choices r []))).length = 0 /\ True) /\ T2) (by kernel_rfl) (by kernel_rfl) ⟨⟨⟨rfl, rfl⟩, ⟨rfl, rfl⟩, ⟨(congrArg iv (o1 hp)), rfl⟩, rfl, tv⟩, ⟨⟨rfl, rfl⟩, (o2 hp), tv⟩, rfl, rfl⟩) (o3 hp) (fun (x1 : Nat) hx1 => ?_)
 refine swp_seq (swp_seq ?_)
 refine sR (kt := [1, 3, 5, 4, 11]) (kh := [0, 5000]) (q := True /\ True /\ True /\ True /\ True) (st' := ASt.mk [(1, .ptr 0 []), (3, aIntss (choices r [])), (5, iv (x1 : Int)), (4, .vec 5000), (11, bv (decide ((x1 : Int) < (↑((choices r []).length) : Int))))] [(0, .cells 25 (cRun r)), (5000, .vec 30 1 (List.filter (canBe r) (List.take x1 (choices r []))).length fun (k : Nat) => [aInts ((List.filter (canBe r) (List.take x1 (choices r []))).getD k [])])] 10088) (by kernel_rfl) ⟨tv, tv, tv, tv, tv⟩ ?_
 refine swp_cond (decide ((x1 : Int) < (↑((choices r []).length) : Int))) (by kernel_rfl) (fun h2 => ?_) (fun h2 => ?_)
 ·refine swp_skip (swp_seq (swp_block (swp_seq ?_)))
  refine swp_region T0_ok mixed (cs := [(5, CallSpec.eq (s122 r ((choices r []).getD x1 [])) [true, true])]) (kt := [1, 3, 5, 4, 19]) (kh := [0, 5000]) (q := True /\ True /\ True /\ (0 <= (x1 : Int) /\ (x1 : Int) < (↑((choices r []).length) : Int)) /\ True /\ ((AV.agg (cRun r) = AV.agg (cRun r) /\ aInts ((choices r []).getD x1 []) = aInts ((choices r []).getD x1 []) /\ True) /\ Triple Try.prog 122 (s122 r ((choices r []).getD x1 [])) /\ (okRun r = true /\ ((choices r []).getD x1 []).length <= r.found.length) /\ True /\ ∀ (i3 : Env), True) /\ True) (st' := ASt.mk [(1, .ptr 0 []), (3, aIntss (choices r [])), (5, iv (x1 : Int)), (4, .vec 5000), (19, bv (canBe r ((choices r []).getD x1 [])))] [(0, .cells 25 (cRun r)), (5000, .vec 30 1 (List.filter (canBe r) (List.take x1 (choices r []))).length fun (k : Nat) => [aInts ((List.filter (canBe r) (List.take x1 (choices r []))).getD k [])])] 10136) (by kernel_rfl) ⟨tv, tv, tv, ⟨(o4 hp x1 hx1 h2), (o5 hp x1 hx1 h2)⟩, tv, ⟨⟨rfl, rfl, tv⟩, (t122 (r) ((choices r []).getD x1 [])), ⟨hp, (o6 hp x1 hx1 h2)⟩, tv, (fun i3 => tv)⟩, tv⟩ ?_
  refine swp_cond (canBe r ((choices r []).getD x1 [])) (by kernel_rfl) (fun h4 => ?_) (fun h4 => ?_)
  ·refine sR (kt := [1, 3, 5, 4]) (kh := [0, 10184]) (q := True /\ True /\ True /\ (0 <= (x1 : Int) /\ (x1 : Int) < (↑((choices r []).length) : Int)) /\ True /\ True /\ (List.filter (canBe r) (List.take x1 (choices r []))).length + 1 <= 65536 /\ True /\ True) (st' := ASt.mk [(1, .ptr 0 []), (3, aIntss (choices r [])), (5, iv (x1 : Int)), (4, .vec 10184)] [(0, .cells 25 (cRun r)), (10184, .vec 30 1 ((List.filter (canBe r) (List.take x1 (choices r []))).length + 1) (catF (List.filter (canBe r) (List.take x1 (choices r []))).length (fun (k : Nat) => [aInts ((List.filter (canBe r) (List.take x1 (choices r []))).getD k [])]) fun (j : Nat) => List.getD [[.sl 1 ((choices r []).getD x1 []).length fun (i : Nat) => [iv (((choices r []).getD x1 []).getD i 0)]]] j (TI.za ti30)))] 10200) (by kernel_rfl) ⟨tv, tv, tv, ⟨(o7 hp x1 hx1 h2 h4), (o8 hp x1 hx1 h2 h4)⟩, tv, tv, (o9 hp x1 hx1 h2 h4), tv, tv⟩ ?_
   refine sR (kt := [1, 3, 5, 4]) (kh := [0, 10184]) (q := True /\ inI ((x1 : Int) + 1) /\ True /\ True) (st' := ASt.mk [(1, .ptr 0 []), (3, aIntss (choices r [])), (5, iv ((x1 : Int) + 1)), (4, .vec 10184)] [(0, .cells 25 (cRun r)), (10184, .vec 30 1 ((List.filter (canBe r) (List.take x1 (choices r []))).length + 1) (catF (List.filter (canBe r) (List.take x1 (choices r []))).length (fun (k : Nat) => [aInts ((List.filter (canBe r) (List.take x1 (choices r []))).getD k [])]) fun (j : Nat) => List.getD [[.sl 1 ((choices r []).getD x1 []).length fun (i : Nat) => [iv (((choices r []).getD x1 []).getD i 0)]]] j (TI.za ti30)))] 10224) (by kernel_rfl) ⟨tv, (o10 hp x1 hx1 h2 h4), tv, tv⟩ ?_
   exact loop_next (Hint.ann (h93 r) [(1, AV.ptr 0 []), (3, aIntss (choices r []))] [(0, OB.cells 25 (cRun r))] 10056) x1 (ent_q hE [] [(0, .same 0), (5000, .same 10184)] [3] [0] (((some (Src.same 0) = some (Src.same 0) /\ nilP = []) /\ (aIntss (choices r []) = aIntss (choices r []) /\ true = true) /\ (iv ((x1 : Int) + 1) = iv (↑(x1 + 1) : Int) /\ nilN = []) /\ some (Src.same 10184) = some (Src.same 10184) /\ True) /\ ((OB.cells 25 (cRun r) = OB.cells 25 (cRun r) /\ true = true) /\ (30 = 30 /\ 1 = 1 /\ (List.filter (canBe r) (List.take x1 (choices r []))).length + 1 = (List.filter (canBe r) (List.take (x1 + 1) (choices r []))).length /\ ∀ (i5 : Nat), i5 < (List.filter (canBe r) (List.take x1 (choices r []))).length + 1 -> catF (List.filter (canBe r) (List.take x1 (choices r []))).length (fun (k : Nat) => [aInts ((List.filter (canBe r) (List.take x1 (choices r []))).getD k [])]) (fun (j : Nat) => List.getD [[AV.sl 1 ((choices r []).getD x1 []).length fun (i : Nat) => [iv (((choices r []).getD x1 []).getD i 0)]]] j (TI.za ti30)) i5 = [aInts ((List.filter (canBe r) (List.take (x1 + 1) (choices r []))).getD i5 [])]) /\ True) /\ T2) (by kernel_rfl) (by kernel_rfl) ⟨⟨⟨rfl, rfl⟩, ⟨rfl, rfl⟩, ⟨(congrArg iv (o11 hp x1 hx1 h2 h4)), rfl⟩, rfl, tv⟩, ⟨⟨rfl, rfl⟩, ⟨rfl, rfl, (o12 hp x1 hx1 h2 h4), (fun i5 => (fun h6 => (o13 hp x1 hx1 h2 h4 i5 h6)))⟩, tv⟩, rfl, rfl⟩) (o14 hp x1 hx1 h2 h4) (o15 hp x1 hx1 h2 h4)
  ·refine swp_skip ?_
   refine sR (kt := [1, 3, 5, 4]) (kh := [0, 5000]) (q := True /\ inI ((x1 : Int) + 1) /\ True /\ True) (st' := ASt.mk [(1, .ptr 0 []), (3, aIntss (choices r [])), (5, iv ((x1 : Int) + 1)), (4, .vec 5000)] [(0, .cells 25 (cRun r)), (5000, .vec 30 1 (List.filter (canBe r) (List.take x1 (choices r []))).length fun (k : Nat) => [aInts ((List.filter (canBe r) (List.take x1 (choices r []))).getD k [])])] 10160) (by kernel_rfl) ⟨tv, (o16 hp x1 hx1 h2 h4), tv, tv⟩ ?_
   exact loop_next (Hint.ann (h93 r) [(1, AV.ptr 0 []), (3, aIntss (choices r []))] [(0, OB.cells 25 (cRun r))] 10056) x1 (ent_q hE [] [(0, .same 0), (5000, .same 5000)] [3] [0] (((some (Src.same 0) = some (Src.same 0) /\ nilP = []) /\ (aIntss (choices r []) = aIntss (choices r []) /\ true = true) /\ (iv ((x1 : Int) + 1) = iv (↑(x1 + 1) : Int) /\ nilN = []) /\ some (Src.same 5000) = some (Src.same 5000) /\ True) /\ ((OB.cells 25 (cRun r) = OB.cells 25 (cRun r) /\ true = true) /\ (30 = 30 /\ 1 = 1 /\ (List.filter (canBe r) (List.take x1 (choices r []))).length = (List.filter (canBe r) (List.take (x1 + 1) (choices r []))).length /\ ∀ (i7 : Nat), i7 < (List.filter (canBe r) (List.take x1 (choices r []))).length -> [aInts ((List.filter (canBe r) (List.take x1 (choices r []))).getD i7 [])] = [aInts ((List.filter (canBe r) (List.take (x1 + 1) (choices r []))).getD i7 [])]) /\ True) /\ T2) (by kernel_rfl) (by kernel_rfl) ⟨⟨⟨rfl, rfl⟩, ⟨rfl, rfl⟩, ⟨(congrArg iv (o17 hp x1 hx1 h2 h4)), rfl⟩, rfl, tv⟩, ⟨⟨rfl, rfl⟩, ⟨rfl, rfl, (o18 hp x1 hx1 h2 h4), (fun i7 => (fun h8 => (o19 hp x1 hx1 h2 h4 i7 h8)))⟩, tv⟩, rfl, rfl⟩) (o20 hp x1 hx1 h2 h4) (o21 hp x1 hx1 h2 h4)
 ·refine swp_exit (swp_seq ?_)
  refine sR (kt := [2]) (kh := [5000]) (q := True /\ True /\ True) (st' := ASt.mk [(2, .vec 5000)] [(5000, .vec 30 1 (List.filter (canBe r) (List.take x1 (choices r []))).length fun (k : Nat) => [aInts ((List.filter (canBe r) (List.take x1 (choices r []))).getD k [])])] 10104) (by kernel_rfl) ⟨tv, tv, tv⟩ ?_
  refine swp_ret ?_
  exact ret_q [5000] ((True /\ True) /\ (1 = 1 /\ (List.filter (canBe r) (List.take x1 (choices r []))).length = (fromsOf r).length /\ ∀ (i9 : Nat), i9 < (fromsOf r).length -> [aInts ((List.filter (canBe r) (List.take x1 (choices r []))).getD i9 [])] = [aInts ((fromsOf r).getD i9 [])]) /\ T3) (by kernel_rfl) ⟨⟨tv, tv⟩, ⟨rfl, (o22 hp x1 hx1 h2), (fun i9 => (fun h10 => (o23 hp x1 hx1 h2 i9 h10)))⟩, rfl, rfl, rfl⟩
theorem t93 (r : Run) : Triple Try.prog 93 (s93 r) := by
 apply w93
 case o2 => intro _; rfl
 case o6 =>
  intro hp x hx hl
  simp only [decide_eq_true_eq] at hl
  rw [choices_mem (getD_mem _ [] (by omega))]; exact Nat.le_refl _
 case o9 =>
  intro hp x hx hl h
  have h1 := choices_len (ok_of hp) (first := []) (Nat.zero_le _)
  have h2 := List.length_filter_le (canBe r) ((choices r []).take x)
  rw [List.length_take] at h2
  omega
 case o10 | o16 =>
  intro hp x hx hl h
  have h1 := choices_len (ok_of hp) (first := []) (Nat.zero_le _)
  simp only [inI]; omega
 case o12 =>
  intro hp x hx hl h
  simp only [decide_eq_true_eq] at hl
  rw [take_succ _ [] (by omega), List.filter_append, List.length_append, List.filter_cons_of_pos h]; rfl
 case o13 =>
  intro hp x hx hl h i hi
  simp only [decide_eq_true_eq] at hl
  rw [take_succ _ [] (show x < (choices r []).length by omega), List.filter_append, List.filter_cons_of_pos h, List.filter_nil]
  exact catF_one _ _ [] (fun z => [aInts z]) rfl (fun _ _ => rfl) rfl hi
 case o18 =>
  intro hp x hx hl h
  simp only [decide_eq_true_eq] at hl
  rw [take_succ _ [] (by omega), List.filter_append, List.length_append, List.filter_cons_of_neg (by rw [h]; exact Bool.false_ne_true)]; rfl
 case o19 =>
  intro hp x hx hl h i hi
  simp only [decide_eq_true_eq] at hl
  rw [take_succ _ [] (show x < (choices r []).length by omega), List.filter_append, List.filter_cons_of_neg (by rw [h]; exact Bool.false_ne_true), List.filter_nil, List.append_nil]
 case o22 =>
  intro hp x hx hl
  simp only [decide_eq_false_iff_not] at hl
  rw [List.take_of_length_le (by omega)]; rfl
 case o23 =>
  intro hp x hx hl i hi
  simp only [decide_eq_false_iff_not] at hl
  rw [List.take_of_length_le (by omega)]; rfl
 all_goals ((repeat intro _) <;> (try simp only [v0, v1, v2, v3, v4, v5, v6, v7, v8, v9, inI, fits, Go.Sh.small] at *) <;> first | (exact rfl) | omega | exact vz | (simp_all; done) | (simp_all; omega))
abbrev q20_1 (r : Run) (C : Nat -> Prop) : Prop := small r -> ∀ (x0 : Nat), x0 <= r.machines.length -> decide ((x0 : Int) < (↑(r.machines.length) : Int)) = true -> C x0
abbrev q20_2 (r : Run) (C : Nat -> Prop) : Prop := small r -> ∀ (x0 : Nat), x0 <= r.machines.length -> decide ((x0 : Int) < (↑(r.machines.length) : Int)) = false -> C x0
abbrev q20_3 (r : Run) (C : Nat -> Nat -> Prop) : Prop := q20_2 r fun x0 => ∀ (x4 : Nat), x4 <= r.found.length -> decide ((x4 : Int) < (↑(r.found.length) : Int)) = true -> C x0 x4
theorem w20 (r : Run)
 (o0 : small r -> 0 = (↑0 : Int))
 (o1 : small r -> 0 <= List.length (Run.machines r))
 (o2 : q20_1 r fun x0 => 0 <= (x0 : Int))
 (o3 : q20_1 r fun x0 => (x0 : Int) < (↑(r.machines.length) : Int))
 (o4 : q20_1 r fun x0 => 0 + (mach r x0).changes.length <= 65536)
 (o5 : q20_1 r fun x0 => 0 <= (x0 : Int))
 (o6 : q20_1 r fun x0 => (x0 : Int) < (↑(r.machines.length) : Int))
 (o7 : q20_1 r fun x0 => x0 + 1 <= 65536)
 (o8 : q20_1 r fun x0 => inI ((x0 : Int) + 1))
 (o9 : q20_1 r fun x0 => (x0 : Int) + 1 = (↑(x0 + 1) : Int))
 (o10 : q20_1 r fun x0 => ∀ (i2 : Nat), i2 < x0 + 1 -> catF x0 (fun (k : Nat) => cMach (mach r k)) (fun (j : Nat) => List.getD [[AV.sl 2 (0 + (mach r x0).changes.length) fun (i : Nat) => cSpan ((mach r x0).changes.getD i default), iv (mach r x0).rate]] j (TI.za ti42)) i2 = cMach (mach r i2))
 (o11 : q20_1 r fun x0 => x0 + 1 <= r.machines.length)
 (o12 : q20_1 r fun x0 => r.machines.length - (x0 + 1) < r.machines.length - x0)
 (o13 : q20_2 r fun x0 => 0 = (↑0 : Int))
 (o14 : q20_2 r fun x0 => x0 = r.machines.length)
 (o15 : q20_2 r fun x0 => 0 <= r.found.length)
 (o16 : q20_3 r fun x0 x4 => 0 <= (x4 : Int))
 (o17 : q20_3 r fun x0 x4 => (x4 : Int) < (↑(r.found.length) : Int))
 (o18 : q20_3 r fun x0 x4 => 0 + (fnd r x4).new.length <= 65536)
 (o19 : q20_3 r fun x0 x4 => 0 + (fnd r x4).frm.length <= 65536)
 (o20 : q20_3 r fun x0 x4 => x4 + 1 <= 65536)
 (o21 : q20_3 r fun x0 x4 => inI ((x4 : Int) + 1))
 (o22 : q20_3 r fun x0 x4 => (x4 : Int) + 1 = (↑(x4 + 1) : Int))
 (o23 : q20_3 r fun x0 x4 => ∀ (i8 : Nat), i8 < x4 + 1 -> catF x4 (fun (k : Nat) => cFnd (fnd r k)) (fun (j : Nat) => List.getD [[iv (fnd r x4).minute, AV.sl 1 (0 + (fnd r x4).new.length) fun (i : Nat) => [iv ((fnd r x4).new.getD i 0)], AV.sl 1 (0 + (fnd r x4).frm.length) fun (i : Nat) => [iv ((fnd r x4).frm.getD i 0)]]] j (TI.za ti32)) i8 = cFnd (fnd r i8))
 (o24 : q20_3 r fun x0 x4 => x4 + 1 <= r.found.length)
 (o25 : q20_3 r fun x0 x4 => r.found.length - (x4 + 1) < r.found.length - x4)
 (o26 : q20_2 r fun x0 => ∀ (x4 : Nat), x4 <= r.found.length -> decide ((x4 : Int) < (↑(r.found.length) : Int)) = false -> x4 = r.found.length) :
  Triple Try.prog 20 (s20 r) := by
 refine triple_of Try.func20 rfl Try.call20 T0_ok _ rfl rfl rfl rfl (Nat.le_of_ble_eq_true (by kernel_rfl)) (fun _ _ _ _ h => h) ?_
 intro hp C hC _ hE
 obtain ⟨P, w0, E0, av, hA⟩ := C
 subst hC
 refine swp_seq ?_
 refine sR (kt := [1, 2]) (kh := [0, 8]) (q := True /\ True /\ True) (st' := ASt.mk [(1, .ptr 0 []), (2, .ptr 8 [])] [(0, .cells 25 (cRun r)), (8, .cells 25 [iv 0, iv 0, nilv, nilv])] 16) (by kernel_rfl) ⟨tv, tv, tv⟩ ?_
 refine swp_seq ?_
 refine sR (kt := [1, 2, 3]) (kh := [0, 8, 56]) (q := True /\ True /\ True /\ True /\ True /\ True /\ True /\ True) (st' := ASt.mk [(1, .ptr 0 []), (2, .ptr 8 []), (3, .ptr 56 [])] [(0, .cells 25 (cRun r)), (8, .cells 25 [iv 0, iv 0, nilv, nilv]), (56, .cells 25 [iv r.plates, iv r.last, nilv, nilv])] 72) (by kernel_rfl) ⟨tv, tv, tv, tv, tv, tv, tv, tv⟩ ?_
 refine swp_seq (swp_seq ?_)
 refine sR (kt := [1, 2, 3, 4]) (kh := [0, 8, 56]) (q := True /\ True) (st' := ASt.mk [(1, .ptr 0 []), (2, .ptr 8 []), (3, .ptr 56 []), (4, iv 0)] [(0, .cells 25 (cRun r)), (8, .cells 25 [iv 0, iv 0, nilv, nilv]), (56, .cells 25 [iv r.plates, iv r.last, nilv, nilv])] 80) (by kernel_rfl) ⟨tv, tv⟩ ?_
 refine swp_block ?_
 refine swp_loopA (Hint.ann (h20a r) [(1, AV.ptr 0 []), (2, AV.ptr 8 []), (3, AV.ptr 56 [])] [(0, OB.cells 25 (cRun r)), (8, OB.cells 25 [iv 0, iv 0, nilv, nilv])] 10080) (ent_q hE [] [(0, .same 0), (8, .same 8), (56, .same 56), (5000, .nil)] [] [0, 8] (((some (Src.same 0) = some (Src.same 0) /\ nilP = []) /\ (some (Src.same 8) = some (Src.same 8) /\ nilP = []) /\ (some (Src.same 56) = some (Src.same 56) /\ nilP = []) /\ (iv 0 = iv (↑0 : Int) /\ nilN = []) /\ True) /\ ((OB.cells 25 (cRun r) = OB.cells 25 (cRun r) /\ true = true) /\ (OB.cells 25 [iv 0, iv 0, nilv, nilv] = OB.cells 25 [iv 0, iv 0, nilv, nilv] /\ true = true) /\ (25 = 25 /\ ((iv r.plates = iv r.plates /\ nilN = []) /\ (iv r.last = iv r.last /\ nilN = []) /\ some Src.nil = some Src.nil /\ (nilv = nilv /\ nilN = []) /\ True) /\ true = true) /\ 0 = 0 /\ True) /\ T2) (by kernel_rfl) (by kernel_rfl) ⟨⟨⟨rfl, rfl⟩, ⟨rfl, rfl⟩, ⟨rfl, rfl⟩, ⟨(congrArg iv (o0 hp)), rfl⟩, tv⟩, ⟨⟨rfl, rfl⟩, ⟨rfl, rfl⟩, ⟨rfl, ⟨⟨rfl, rfl⟩, ⟨rfl, rfl⟩, rfl, ⟨rfl, rfl⟩, tv⟩, rfl⟩, rfl, tv⟩, rfl, rfl⟩) (o1 hp) (fun (x0 : Nat) hx0 => ?_)
 refine swp_seq (swp_seq ?_)
 refine sR (kt := [1, 2, 3, 4, 16]) (kh := [0, 8, 56, 5000]) (q := True /\ True /\ True /\ True /\ True /\ True) (st' := ASt.mk [(1, .ptr 0 []), (2, .ptr 8 []), (3, .ptr 56 []), (4, iv (x0 : Int)), (16, bv (decide ((x0 : Int) < (↑(r.machines.length) : Int))))] [(0, .cells 25 (cRun r)), (8, .cells 25 [iv 0, iv 0, nilv, nilv]), (56, .cells 25 [iv r.plates, iv r.last, .vec 5000, nilv]), (5000, .vec 42 2 x0 fun (k : Nat) => cMach (mach r k))] 10120) (by kernel_rfl) ⟨tv, tv, tv, tv, tv, tv⟩ ?_
 refine swp_cond (decide ((x0 : Int) < (↑(r.machines.length) : Int))) (by kernel_rfl) (fun h1 => ?_) (fun h1 => ?_)
 ·refine swp_skip (swp_seq (swp_block ?_))
  refine sR (kt := [1, 2, 3, 4]) (kh := [0, 8, 56, 10264]) (q := True /\ True /\ True /\ True /\ True /\ True /\ (0 <= (x0 : Int) /\ (x0 : Int) < (↑(r.machines.length) : Int)) /\ True /\ True /\ 0 + (mach r x0).changes.length <= 65536 /\ True /\ True /\ True /\ (0 <= (x0 : Int) /\ (x0 : Int) < (↑(r.machines.length) : Int)) /\ True /\ True /\ True /\ True /\ x0 + 1 <= 65536 /\ True /\ True /\ True) (st' := ASt.mk [(1, .ptr 0 []), (2, .ptr 8 []), (3, .ptr 56 []), (4, iv (x0 : Int))] [(0, .cells 25 (cRun r)), (8, .cells 25 [iv 0, iv 0, nilv, nilv]), (56, .cells 25 [iv r.plates, iv r.last, .vec 10264, nilv]), (10264, .vec 42 2 (x0 + 1) (catF x0 (fun (k : Nat) => cMach (mach r k)) fun (j : Nat) => List.getD [[.sl 2 (0 + (mach r x0).changes.length) fun (i : Nat) => cSpan ((mach r x0).changes.getD i default), iv (mach r x0).rate]] j (TI.za ti42)))] 10288) (by kernel_rfl) ⟨tv, tv, tv, tv, tv, tv, ⟨(o2 hp x0 hx0 h1), (o3 hp x0 hx0 h1)⟩, tv, tv, (o4 hp x0 hx0 h1), tv, tv, tv, ⟨(o5 hp x0 hx0 h1), (o6 hp x0 hx0 h1)⟩, tv, tv, tv, tv, (o7 hp x0 hx0 h1), tv, tv, tv⟩ ?_
  refine sR (kt := [1, 2, 3, 4]) (kh := [0, 8, 56, 10264]) (q := True /\ inI ((x0 : Int) + 1) /\ True /\ True) (st' := ASt.mk [(1, .ptr 0 []), (2, .ptr 8 []), (3, .ptr 56 []), (4, iv ((x0 : Int) + 1))] [(0, .cells 25 (cRun r)), (8, .cells 25 [iv 0, iv 0, nilv, nilv]), (56, .cells 25 [iv r.plates, iv r.last, .vec 10264, nilv]), (10264, .vec 42 2 (x0 + 1) (catF x0 (fun (k : Nat) => cMach (mach r k)) fun (j : Nat) => List.getD [[.sl 2 (0 + (mach r x0).changes.length) fun (i : Nat) => cSpan ((mach r x0).changes.getD i default), iv (mach r x0).rate]] j (TI.za ti42)))] 10312) (by kernel_rfl) ⟨tv, (o8 hp x0 hx0 h1), tv, tv⟩ ?_
  exact loop_next (Hint.ann (h20a r) [(1, AV.ptr 0 []), (2, AV.ptr 8 []), (3, AV.ptr 56 [])] [(0, OB.cells 25 (cRun r)), (8, OB.cells 25 [iv 0, iv 0, nilv, nilv])] 10080) x0 (ent_q hE [] [(0, .same 0), (8, .same 8), (56, .same 56), (5000, .same 10264)] [] [0, 8] (((some (Src.same 0) = some (Src.same 0) /\ nilP = []) /\ (some (Src.same 8) = some (Src.same 8) /\ nilP = []) /\ (some (Src.same 56) = some (Src.same 56) /\ nilP = []) /\ (iv ((x0 : Int) + 1) = iv (↑(x0 + 1) : Int) /\ nilN = []) /\ True) /\ ((OB.cells 25 (cRun r) = OB.cells 25 (cRun r) /\ true = true) /\ (OB.cells 25 [iv 0, iv 0, nilv, nilv] = OB.cells 25 [iv 0, iv 0, nilv, nilv] /\ true = true) /\ (25 = 25 /\ ((iv r.plates = iv r.plates /\ nilN = []) /\ (iv r.last = iv r.last /\ nilN = []) /\ some (Src.same 10264) = some (Src.same 10264) /\ (nilv = nilv /\ nilN = []) /\ True) /\ true = true) /\ (42 = 42 /\ 2 = 2 /\ x0 + 1 = x0 + 1 /\ ∀ (i2 : Nat), i2 < x0 + 1 -> catF x0 (fun (k : Nat) => cMach (mach r k)) (fun (j : Nat) => List.getD [[AV.sl 2 (0 + (mach r x0).changes.length) fun (i : Nat) => cSpan ((mach r x0).changes.getD i default), iv (mach r x0).rate]] j (TI.za ti42)) i2 = cMach (mach r i2)) /\ True) /\ T2) (by kernel_rfl) (by kernel_rfl) ⟨⟨⟨rfl, rfl⟩, ⟨rfl, rfl⟩, ⟨rfl, rfl⟩, ⟨(congrArg iv (o9 hp x0 hx0 h1)), rfl⟩, tv⟩, ⟨⟨rfl, rfl⟩, ⟨rfl, rfl⟩, ⟨rfl, ⟨⟨rfl, rfl⟩, ⟨rfl, rfl⟩, rfl, ⟨rfl, rfl⟩, tv⟩, rfl⟩, ⟨rfl, rfl, rfl, (fun i2 => (fun h3 => (o10 hp x0 hx0 h1 i2 h3)))⟩, tv⟩, rfl, rfl⟩) (o11 hp x0 hx0 h1) (o12 hp x0 hx0 h1)
 ·refine swp_exit (swp_seq (swp_seq ?_))
  refine sR (kt := [1, 2, 3, 5]) (kh := [0, 8, 56, 5000]) (q := True /\ True) (st' := ASt.mk [(1, .ptr 0 []), (2, .ptr 8 []), (3, .ptr 56 []), (5, iv 0)] [(0, .cells 25 (cRun r)), (8, .cells 25 [iv 0, iv 0, nilv, nilv]), (56, .cells 25 [iv r.plates, iv r.last, .vec 5000, nilv]), (5000, .vec 42 2 x0 fun (k : Nat) => cMach (mach r k))] 10128) (by kernel_rfl) ⟨tv, tv⟩ ?_
  refine swp_block ?_
  refine swp_loopA (Hint.ann (h20b r) [(1, AV.ptr 0 []), (2, AV.ptr 8 []), (3, AV.ptr 56 [])] [(0, OB.cells 25 (cRun r)), (8, OB.cells 25 [iv 0, iv 0, nilv, nilv])] 20128) (ent_q hE [] [(0, .same 0), (8, .same 8), (56, .same 56), (5000, .same 5000), (5001, .nil)] [] [0, 8] (((some (Src.same 0) = some (Src.same 0) /\ nilP = []) /\ (some (Src.same 8) = some (Src.same 8) /\ nilP = []) /\ (some (Src.same 56) = some (Src.same 56) /\ nilP = []) /\ (iv 0 = iv (↑0 : Int) /\ nilN = []) /\ True) /\ ((OB.cells 25 (cRun r) = OB.cells 25 (cRun r) /\ true = true) /\ (OB.cells 25 [iv 0, iv 0, nilv, nilv] = OB.cells 25 [iv 0, iv 0, nilv, nilv] /\ true = true) /\ (25 = 25 /\ ((iv r.plates = iv r.plates /\ nilN = []) /\ (iv r.last = iv r.last /\ nilN = []) /\ some (Src.same 5000) = some (Src.same 5000) /\ some Src.nil = some Src.nil /\ True) /\ true = true) /\ (42 = 42 /\ 2 = 2 /\ x0 = r.machines.length /\ ∀ (i5 : Nat), i5 < x0 -> cMach (mach r i5) = cMach (mach r i5)) /\ 0 = 0 /\ True) /\ T2) (by kernel_rfl) (by kernel_rfl) ⟨⟨⟨rfl, rfl⟩, ⟨rfl, rfl⟩, ⟨rfl, rfl⟩, ⟨(congrArg iv (o13 hp x0 hx0 h1)), rfl⟩, tv⟩, ⟨⟨rfl, rfl⟩, ⟨rfl, rfl⟩, ⟨rfl, ⟨⟨rfl, rfl⟩, ⟨rfl, rfl⟩, rfl, rfl, tv⟩, rfl⟩, ⟨rfl, rfl, (o14 hp x0 hx0 h1), (fun i5 => (fun h6 => rfl))⟩, rfl, tv⟩, rfl, rfl⟩) (o15 hp x0 hx0 h1) (fun (x4 : Nat) hx4 => ?_)
  refine swp_seq (swp_seq ?_)
  refine sR (kt := [1, 2, 3, 5, 43]) (kh := [0, 8, 56, 5000, 5001]) (q := True /\ True /\ True /\ True /\ True /\ True) (st' := ASt.mk [(1, .ptr 0 []), (2, .ptr 8 []), (3, .ptr 56 []), (5, iv (x4 : Int)), (43, bv (decide ((x4 : Int) < (↑(r.found.length) : Int))))] [(0, .cells 25 (cRun r)), (8, .cells 25 [iv 0, iv 0, nilv, nilv]), (56, .cells 25 [iv r.plates, iv r.last, .vec 5000, .vec 5001]), (5000, .vec 42 2 r.machines.length fun (k : Nat) => cMach (mach r k)), (5001, .vec 32 3 x4 fun (k : Nat) => cFnd (fnd r k))] 20168) (by kernel_rfl) ⟨tv, tv, tv, tv, tv, tv⟩ ?_
  refine swp_cond (decide ((x4 : Int) < (↑(r.found.length) : Int))) (by kernel_rfl) (fun h7 => ?_) (fun h7 => ?_)
  ·refine swp_skip (swp_seq (swp_block (swp_seq ?_)))
   refine sR (kt := [1, 2, 3, 5, 6]) (kh := [0, 8, 56, 20208, 5000, 5001]) (q := True /\ True /\ True /\ (0 <= (x4 : Int) /\ (x4 : Int) < (↑(r.found.length) : Int)) /\ True /\ True /\ True /\ True) (st' := ASt.mk [(1, .ptr 0 []), (2, .ptr 8 []), (3, .ptr 56 []), (5, iv (x4 : Int)), (6, .ptr 20208 [])] [(0, .cells 25 (cRun r)), (8, .cells 25 [iv 0, iv 0, nilv, nilv]), (56, .cells 25 [iv r.plates, iv r.last, .vec 5000, .vec 5001]), (20208, .cells 32 (cFnd (fnd r x4))), (5000, .vec 42 2 r.machines.length fun (k : Nat) => cMach (mach r k)), (5001, .vec 32 3 x4 fun (k : Nat) => cFnd (fnd r k))] 20224) (by kernel_rfl) ⟨tv, tv, tv, ⟨(o16 hp x0 hx0 h1 x4 hx4 h7), (o17 hp x0 hx0 h1 x4 hx4 h7)⟩, tv, tv, tv, tv⟩ ?_
   refine sR (kt := [1, 2, 3, 5]) (kh := [0, 8, 56, 5000, 20336]) (q := True /\ True /\ True /\ True /\ True /\ True /\ True /\ 0 + (fnd r x4).new.length <= 65536 /\ True /\ True /\ True /\ 0 + (fnd r x4).frm.length <= 65536 /\ True /\ True /\ x4 + 1 <= 65536 /\ True /\ True /\ True) (st' := ASt.mk [(1, .ptr 0 []), (2, .ptr 8 []), (3, .ptr 56 []), (5, iv (x4 : Int))] [(0, .cells 25 (cRun r)), (8, .cells 25 [iv 0, iv 0, nilv, nilv]), (56, .cells 25 [iv r.plates, iv r.last, .vec 5000, .vec 20336]), (5000, .vec 42 2 r.machines.length fun (k : Nat) => cMach (mach r k)), (20336, .vec 32 3 (x4 + 1) (catF x4 (fun (k : Nat) => cFnd (fnd r k)) fun (j : Nat) => List.getD [[iv (fnd r x4).minute, .sl 1 (0 + (fnd r x4).new.length) fun (i : Nat) => [iv ((fnd r x4).new.getD i 0)], .sl 1 (0 + (fnd r x4).frm.length) fun (i : Nat) => [iv ((fnd r x4).frm.getD i 0)]]] j (TI.za ti32)))] 20360) (by kernel_rfl) ⟨tv, tv, tv, tv, tv, tv, tv, (o18 hp x0 hx0 h1 x4 hx4 h7), tv, tv, tv, (o19 hp x0 hx0 h1 x4 hx4 h7), tv, tv, (o20 hp x0 hx0 h1 x4 hx4 h7), tv, tv, tv⟩ ?_
   refine sR (kt := [1, 2, 3, 5]) (kh := [0, 8, 56, 5000, 20336]) (q := True /\ inI ((x4 : Int) + 1) /\ True /\ True) (st' := ASt.mk [(1, .ptr 0 []), (2, .ptr 8 []), (3, .ptr 56 []), (5, iv ((x4 : Int) + 1))] [(0, .cells 25 (cRun r)), (8, .cells 25 [iv 0, iv 0, nilv, nilv]), (56, .cells 25 [iv r.plates, iv r.last, .vec 5000, .vec 20336]), (5000, .vec 42 2 r.machines.length fun (k : Nat) => cMach (mach r k)), (20336, .vec 32 3 (x4 + 1) (catF x4 (fun (k : Nat) => cFnd (fnd r k)) fun (j : Nat) => List.getD [[iv (fnd r x4).minute, .sl 1 (0 + (fnd r x4).new.length) fun (i : Nat) => [iv ((fnd r x4).new.getD i 0)], .sl 1 (0 + (fnd r x4).frm.length) fun (i : Nat) => [iv ((fnd r x4).frm.getD i 0)]]] j (TI.za ti32)))] 20384) (by kernel_rfl) ⟨tv, (o21 hp x0 hx0 h1 x4 hx4 h7), tv, tv⟩ ?_
   exact loop_next (Hint.ann (h20b r) [(1, AV.ptr 0 []), (2, AV.ptr 8 []), (3, AV.ptr 56 [])] [(0, OB.cells 25 (cRun r)), (8, OB.cells 25 [iv 0, iv 0, nilv, nilv])] 20128) x4 (ent_q hE [] [(0, .same 0), (8, .same 8), (56, .same 56), (5000, .same 5000), (5001, .same 20336)] [] [0, 8, 5000] (((some (Src.same 0) = some (Src.same 0) /\ nilP = []) /\ (some (Src.same 8) = some (Src.same 8) /\ nilP = []) /\ (some (Src.same 56) = some (Src.same 56) /\ nilP = []) /\ (iv ((x4 : Int) + 1) = iv (↑(x4 + 1) : Int) /\ nilN = []) /\ True) /\ ((OB.cells 25 (cRun r) = OB.cells 25 (cRun r) /\ true = true) /\ (OB.cells 25 [iv 0, iv 0, nilv, nilv] = OB.cells 25 [iv 0, iv 0, nilv, nilv] /\ true = true) /\ (25 = 25 /\ ((iv r.plates = iv r.plates /\ nilN = []) /\ (iv r.last = iv r.last /\ nilN = []) /\ some (Src.same 5000) = some (Src.same 5000) /\ some (Src.same 20336) = some (Src.same 20336) /\ True) /\ true = true) /\ (((OB.vec 42 2 r.machines.length fun (k : Nat) => cMach (mach r k)) = OB.vec 42 2 r.machines.length fun (k : Nat) => cMach (mach r k)) /\ true = true) /\ (32 = 32 /\ 3 = 3 /\ x4 + 1 = x4 + 1 /\ ∀ (i8 : Nat), i8 < x4 + 1 -> catF x4 (fun (k : Nat) => cFnd (fnd r k)) (fun (j : Nat) => List.getD [[iv (fnd r x4).minute, AV.sl 1 (0 + (fnd r x4).new.length) fun (i : Nat) => [iv ((fnd r x4).new.getD i 0)], AV.sl 1 (0 + (fnd r x4).frm.length) fun (i : Nat) => [iv ((fnd r x4).frm.getD i 0)]]] j (TI.za ti32)) i8 = cFnd (fnd r i8)) /\ True) /\ T2) (by kernel_rfl) (by kernel_rfl) ⟨⟨⟨rfl, rfl⟩, ⟨rfl, rfl⟩, ⟨rfl, rfl⟩, ⟨(congrArg iv (o22 hp x0 hx0 h1 x4 hx4 h7)), rfl⟩, tv⟩, ⟨⟨rfl, rfl⟩, ⟨rfl, rfl⟩, ⟨rfl, ⟨⟨rfl, rfl⟩, ⟨rfl, rfl⟩, rfl, rfl, tv⟩, rfl⟩, ⟨rfl, rfl⟩, ⟨rfl, rfl, rfl, (fun i8 => (fun h9 => (o23 hp x0 hx0 h1 x4 hx4 h7 i8 h9)))⟩, tv⟩, rfl, rfl⟩) (o24 hp x0 hx0 h1 x4 hx4 h7) (o25 hp x0 hx0 h1 x4 hx4 h7)
  ·refine swp_exit (swp_seq ?_)
   refine sR (kt := [2]) (kh := [8, 5000, 5001]) (q := True /\ True /\ True) (st' := ASt.mk [(2, .ptr 8 [])] [(8, .cells 25 [iv r.plates, iv r.last, .vec 5000, .vec 5001]), (5000, .vec 42 2 r.machines.length fun (k : Nat) => cMach (mach r k)), (5001, .vec 32 3 x4 fun (k : Nat) => cFnd (fnd r k))] 20184) (by kernel_rfl) ⟨tv, tv, tv⟩ ?_
   refine swp_ret ?_
   exact ret_q [5000, 5001] ((True /\ True) /\ ((iv r.plates = iv r.plates /\ nilN = []) /\ (iv r.last = iv r.last /\ nilN = []) /\ (2 = 2 /\ r.machines.length = r.machines.length /\ ∀ (i10 : Nat), i10 < r.machines.length -> cMach (mach r i10) = cMach (mach r i10)) /\ (3 = 3 /\ x4 = r.found.length /\ ∀ (i12 : Nat), i12 < r.found.length -> cFnd (fnd r i12) = cFnd (fnd r i12)) /\ True) /\ T3) (by kernel_rfl) ⟨⟨tv, tv⟩, ⟨⟨rfl, rfl⟩, ⟨rfl, rfl⟩, ⟨rfl, rfl, (fun i10 => (fun h11 => rfl))⟩, ⟨rfl, (o26 hp x0 hx0 h1 x4 hx4 h7), (fun i12 => (fun h13 => rfl))⟩, tv⟩, rfl, rfl, rfl⟩
theorem t20 (r : Run) : Triple Try.prog 20 (s20 r) := by
 apply w20
 case o4 => intro hp x hx hl; have := hp.2.2.1 x; omega
 case o18 => intro hp _ _ _ x hx hl; have := (hp.2.2.2 x).1; omega
 case o19 => intro hp _ _ _ x hx hl; have := (hp.2.2.2 x).2; omega
 case o10 =>
  intro hp x hx hl i hi
  exact catF_idx (fun k => cMach (mach r k)) (by simp only [cMach, aSpans, cSpan, Nat.zero_add]) hi
 case o23 =>
  intro hp _ _ _ x hx hl i hi
  exact catF_idx (fun k => cFnd (fnd r k)) (by simp only [cFnd, aInts, Nat.zero_add]) hi
 all_goals ((repeat intro _) <;> (try simp only [v0, v1, v2, v3, v4, v5, v6, v7, v8, v9, inI, fits, Go.Sh.small] at *) <;> first | (exact rfl) | omega | exact vz | (simp_all; done) | (simp_all; omega))
end Go.Ab
namespace Go.Sh
def idxF (l : List Int) (p : Int -> Bool) : Int := match l.findIdx? p with | some i => i | none => -1
def badNew (n : Int) : Bool := !within n (-1) 1
theorem idxF_found {l : List Int} {p : Int -> Bool} {x : Nat} (hx : x < l.length) (h : ∀ j, j < x -> p (l.getD j 0) = false) (hp : p (l.getD x 0) = true) : idxF l p = x := by
 have : l.findIdx? p = some x := by
  rw [List.findIdx?_eq_some_iff_getElem]
  refine ⟨hx, by rw [← Go.Ab.getD_lt l 0 hx]; exact hp, fun j hj => ?_⟩
  rw [← Go.Ab.getD_lt l 0 (by omega), h j hj]; simp
 simp [idxF, this]
theorem idxF_none {l : List Int} {p : Int -> Bool} (h : ∀ j, j < l.length -> p (l.getD j 0) = false) : idxF l p = -1 := by
 have : l.findIdx? p = none := by
  rw [List.findIdx?_eq_none_iff]
  intro x hx
  have h1 := Go.Ab.any_idx l 0 p h
  rw [List.any_eq_false] at h1
  simpa using h1 x hx
 simp [idxF, this]
theorem idxF_any (l : List Int) (p : Int -> Bool) : decide (0 <= idxF l p) = l.any p := by
 unfold idxF
 cases e : l.findIdx? p with
 | none =>
  rw [List.findIdx?_eq_none_iff] at e
  have : l.any p = false := by rw [List.any_eq_false]; intro x hx; simp [e x hx]
  rw [this]; rfl
 | some i =>
  rw [List.findIdx?_eq_some_iff_getElem] at e
  obtain ⟨h, h1, _⟩ := e
  have : l.any p = true := by rw [List.any_eq_true]; exact ⟨_, List.getElem_mem h, h1⟩
  rw [this]; simp
end Go.Sh
namespace Go.Ab
open Go Go.RowKit Go.Proofs Go.Sh Go.En
def s114 (n : Int) : CallSpec := { args := [iv n], res := bv (badNew n) }
def s136 (l : List Int) (p : Int -> Bool) : CallSpec := { args := [aInts l, .fn 0], res := iv (idxF l p), pre := l.length <= 1125899906842624, fnok := fnokOf Try.prog 0 (fun n : Int => [iv n]) (fun n => bv (p n)) }
def h136 (l : List Int) (p : Int -> Bool) : Hint := { X := Nat, M := fun i => [(8, iv i)], I := fun i => i <= l.length /\ ∀ j, j < i -> p (l.getD j 0) = false, mu := fun i => l.length - i, x0 := (0 : Nat), nx := fun i => i + 1 }
def c136 (l : List Int) (p : Int -> Bool) (x : Nat) : CallSpec := { args := [iv (l.getD x 0)], res := bv (p (l.getD x 0)) }
def s113 (l : List Int) (p : Int -> Bool) : CallSpec := { args := [aInts l, .fn 0], res := bv (l.any p), pre := l.length <= 1125899906842624, fnok := fnokOf Try.prog 0 (fun n : Int => [iv n]) (fun n => bv (p n)) }
def c113 (l : List Int) (p : Int -> Bool) : CallSpec := s136 l p
def s71 (r : Run) : CallSpec := { args := [vRun r], res := iv (check r), pre := fits r }
def h71a (r : Run) : Hint := { X := Nat, M := fun i => [(37, iv i)], I := fun i => i <= r.machines.length /\ ∀ j, j < i -> okMachA r (mach r j) = true, mu := fun i => r.machines.length - i, x0 := (0 : Nat), nx := fun i => i + 1 }
def h71b (r : Run) (x : Nat) : Hint := { X := Nat, M := fun i => [(56, iv i)], I := fun i => i <= (mach r x).changes.length /\ ∀ j, j < i -> isSpan (chg (mach r x) j) r.last = true, mu := fun i => (mach r x).changes.length - i, x0 := (0 : Nat), nx := fun i => i + 1 }
def h71c (r : Run) : Hint := { X := Nat, M := fun i => [(78, iv i)], I := fun i => i <= r.found.length /\ ∀ j, j < i -> okFndA r (fnd r j) = true, mu := fun i => r.found.length - i, x0 := (0 : Nat), nx := fun i => i + 1 }
def h71d (r : Run) (x : Nat) : Hint := { X := Nat, M := fun i => [(111, iv i)], I := fun i => i <= (fnd r x).frm.length /\ ∀ j, j < i -> risAt (fnd r x).frm 0 ((r.machines.length : Int) - 1) j = true, mu := fun i => (fnd r x).frm.length - i, x0 := (0 : Nat), nx := fun i => i + 1 }
def c71 (r : Run) (x : Nat) : CallSpec := s113 (fnd r x).new badNew
end Go.Ab
