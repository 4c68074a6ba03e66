/- CopiesEnds returns true for every run and two numbers, and leaves what it was handed as it was. No condition. -/
import Derived.Test.YtcbgfmalillplaaQEnds5
import Derived.Deep.Slices
import Derived.ChangeShapes
import Derived.Carry
import Derived.OpenShut
import Derived.SizedLaws
import Derived.Test.YtcbgfmalillplaaRows
import Derived.ProofKit
import Derived.JoinedOf
set_option linter.all false
set_option linter.deprecated false
namespace Go.Ab
open Go Go.RowKit Go.Proofs Go.Sh Go.En
abbrev q44_1 (r : Run) (m : Int) (p : Int) (n : Int) (C : Prop) : Prop := small r /\ (0 <= m /\ m < (↑(r.machines.length) : Int)) /\ 0 <= p /\ p < (↑((mach r m.toNat).changes.length) : Int) -> C
theorem w44 (r : Run) (m : Int) (p : Int) (n : Int)
 (o0 : q44_1 r m p n (0 <= m))
 (o1 : q44_1 r m p n (m < (↑(r.machines.length) : Int)))
 (o2 : q44_1 r m p n (m.toNat < r.machines.length))
 (o3 : q44_1 r m p n (0 <= p))
 (o4 : q44_1 r m p n (p < (↑(chLen r m.toNat r.machines.length) : Int)))
 (o5 : q44_1 r m p n (p.toNat < chLen r m.toNat r.machines.length))
 (o6 : q44_1 r m p n (∀ (i2 : Nat), i2 < r.machines.length -> i2 ≠ m.toNat -> cMach (mach r i2) = cMach (mach (justR r m p n) i2)))
 (o7 : q44_1 r m p n (chLen r m.toNat r.machines.length = (mach (justR r m p n) m.toNat).changes.length))
 (o8 : q44_1 r m p n (∀ (i5 : Nat), i5 < (mach (justR r m p n) m.toNat).changes.length -> Decidable.rec (fun (h : ¬i5 = p.toNat) => cSpan (chg (mach r m.toNat) i5)) (fun (h : i5 = p.toNat) => [iv n, iv n] ++ []) (instDecidableEqNat i5 p.toNat) = [iv ((mach (justR r m p n) m.toNat).changes.getD i5 default).lo, iv ((mach (justR r m p n) m.toNat).changes.getD i5 default).hi]))
 (o9 : q44_1 r m p n ((mach r m.toNat).rate = (mach (justR r m p n) m.toNat).rate))
 (o10 : q44_1 r m p n (nwLen r r.found.length r.found.length = (fnd r r.found.length).new.length))
 (o11 : q44_1 r m p n (r.plates = (justR r m p n).plates))
 (o12 : q44_1 r m p n (r.last = (justR r m p n).last))
 (o13 : q44_1 r m p n (r.machines.length = (justR r m p n).machines.length))
 (o14 : q44_1 r m p n (r.found.length = (justR r m p n).found.length))
 (o15 : q44_1 r m p n (∀ (i16 : Nat), i16 < (justR r m p n).found.length -> cFnd (fnd r i16) = cFnd (fnd (justR r m p n) i16))) :
  Triple Try.prog 44 (s44 r m p n) := by
 refine triple_of Try.func44 rfl Try.call44 T0_ok _ rfl rfl rfl rfl (Nat.le_of_ble_eq_true (by kernel_rfl)) (fun _ _ _ _ h => h) ?_
 intro hp C hC _ hE
 obtain ⟨P, w0, E0, av, hA⟩ := C
 subst hC
 refine swp_seq ?_
 refine sR (kt := [1, 2, 3, 4, 8]) (kh := [0, 8]) (q := True /\ True /\ True) (st' := ASt.mk [(1, iv m), (2, iv p), (3, iv n), (4, .ptr 0 []), (8, .ptr 8 [])] [(0, .cells 25 (cRun r)), (8, .cells 25 [iv 0, iv 0, nilv, nilv])] 16) (by kernel_rfl) ⟨tv, tv, tv⟩ ?_
 refine swp_seq ?_
 refine swp_region T0_ok mixed (cs := [(1, CallSpec.eq (c44 r m p n 24) [true])]) (kt := [1, 2, 3, 8, 9]) (kh := [8, 32, 24, 25, 27, 26]) (q := True /\ ((AV.agg (cRun r) = AV.agg (cRun r) /\ True) /\ Triple Try.prog 20 (c44 r m p n 24) /\ small r /\ True /\ ∀ (i0 : Env), True) /\ True /\ True /\ True) (st' := ASt.mk [(1, iv m), (2, iv p), (3, iv n), (8, .ptr 8 []), (9, .ptr 32 [])] [(8, .cells 25 [iv 0, iv 0, nilv, nilv]), (32, .cells 25 [iv r.plates, iv r.last, .vec 24, .vec 25]), (24, .vecx 42 2 r.machines.length (fun (k : Nat) => cMach (mach r k)) m.toNat [.vec 26, iv (mach r m.toNat).rate]), (25, .vecx 32 3 r.found.length (fun (k : Nat) => cFnd (fnd r k)) r.found.length [iv (fnd r r.found.length).minute, .vec 27, .sl 1 (fnd r r.found.length).frm.length fun (i : Nat) => [iv ((fnd r r.found.length).frm.getD i 0)]]), (27, .vec 3 1 (nwLen r r.found.length r.found.length) fun (p : Nat) => [iv ((fnd r r.found.length).new.getD p 0)]), (26, .vec 37 2 (chLen r m.toNat r.machines.length) fun (p : Nat) => cSpan (chg (mach r m.toNat) p))] 48) (by kernel_rfl) ⟨tv, ⟨⟨rfl, tv⟩, (t20o (r) m.toNat r.found.length (24)), hp.1, tv, (fun i0 => tv)⟩, tv, tv, tv⟩ ?_
 refine swp_seq ?_
 refine swp_region T0_ok mixed (cs := [(9, CallSpec.eq (s29 n n) [true, true])]) (kt := [8, 9]) (kh := [8, 32, 24, 25, 26, 27]) (q := True /\ True /\ True /\ (0 <= m /\ m < (↑(r.machines.length) : Int)) /\ True /\ (m.toNat = m.toNat /\ m.toNat < r.machines.length /\ True) /\ True /\ True /\ True /\ ((iv n = iv n /\ iv n = iv n /\ True) /\ Triple Try.prog 29 (s29 n n) /\ True /\ True /\ ∀ (i1 : Env), True) /\ (0 <= p /\ p < (↑(chLen r m.toNat r.machines.length) : Int)) /\ (p.toNat < chLen r m.toNat r.machines.length /\ True) /\ True) (st' := ASt.mk [(8, .ptr 8 []), (9, .ptr 32 [])] [(8, .cells 25 [iv 0, iv 0, nilv, nilv]), (32, .cells 25 [iv r.plates, iv r.last, .vec 24, .vec 25]), (24, .vecx 42 2 r.machines.length (fun (k : Nat) => cMach (mach r k)) m.toNat [.vec 26, iv (mach r m.toNat).rate]), (25, .vecx 32 3 r.found.length (fun (k : Nat) => cFnd (fnd r k)) r.found.length [iv (fnd r r.found.length).minute, .vec 27, .sl 1 (fnd r r.found.length).frm.length fun (i : Nat) => [iv ((fnd r r.found.length).frm.getD i 0)]]), (26, .vec 37 2 (chLen r m.toNat r.machines.length) fun (j : Nat) => Decidable.rec (fun (h : ¬j = p.toNat) => cSpan (chg (mach r m.toNat) j)) (fun (h : j = p.toNat) => [iv n, iv n] ++ []) (instDecidableEqNat j p.toNat)), (27, .vec 3 1 (nwLen r r.found.length r.found.length) fun (p : Nat) => [iv ((fnd r r.found.length).new.getD p 0)])] 144) (by kernel_rfl) ⟨tv, tv, tv, ⟨(o0 hp), (o1 hp)⟩, tv, ⟨rfl, (o2 hp), tv⟩, tv, tv, tv, ⟨⟨rfl, rfl, tv⟩, (t29 (n) (n)), tv, tv, (fun i1 => tv)⟩, ⟨(o3 hp), (o4 hp)⟩, ⟨(o5 hp), tv⟩, tv⟩ ?_
 refine swp_seq ?_
 refine swp_ent (ent_q (st2 := ASt.mk [(8, AV.ptr 8 []), (9, AV.ptr 32 [])] [(24, OB.vec 42 2 r.machines.length fun (k : Nat) => cMach (mach (justR r m p n) k)), (25, OB.vec 32 3 r.found.length fun (k : Nat) => cFnd (fnd r k)), (8, OB.cells 25 [iv 0, iv 0, nilv, nilv]), (32, OB.cells 25 [iv r.plates, iv r.last, AV.vec 24, AV.vec 25])] 144) hE [26, 27] [(8, .same 8), (32, .same 32), (24, .same 24), (25, .same 25)] [] [8] (((some (Src.same 8) = some (Src.same 8) /\ nilP = []) /\ (some (Src.same 32) = some (Src.same 32) /\ nilP = []) /\ True) /\ ((42 = 42 /\ 2 = 2 /\ r.machines.length = r.machines.length /\ (∀ (i2 : Nat), i2 < r.machines.length -> i2 ≠ m.toNat -> cMach (mach r i2) = cMach (mach (justR r m p n) i2)) /\ ((2 = 2 /\ chLen r m.toNat r.machines.length = (mach (justR r m p n) m.toNat).changes.length /\ ∀ (i5 : Nat), i5 < (mach (justR r m p n) m.toNat).changes.length -> Decidable.rec (fun (h : ¬i5 = p.toNat) => cSpan (chg (mach r m.toNat) i5)) (fun (h : i5 = p.toNat) => [iv n, iv n] ++ []) (instDecidableEqNat i5 p.toNat) = [iv ((mach (justR r m p n) m.toNat).changes.getD i5 default).lo, iv ((mach (justR r m p n) m.toNat).changes.getD i5 default).hi]) /\ (iv (mach r m.toNat).rate = iv (mach (justR r m p n) m.toNat).rate /\ nilN = []) /\ True) /\ T2) /\ (32 = 32 /\ 3 = 3 /\ r.found.length = r.found.length /\ (∀ (i7 : Nat), i7 < r.found.length -> i7 ≠ r.found.length -> cFnd (fnd r i7) = cFnd (fnd r i7)) /\ ((iv (fnd r r.found.length).minute = iv (fnd r r.found.length).minute /\ nilN = []) /\ (1 = 1 /\ nwLen r r.found.length r.found.length = (fnd r r.found.length).new.length /\ ∀ (i10 : Nat), i10 < (fnd r r.found.length).new.length -> [iv ((fnd r r.found.length).new.getD i10 0)] = [iv ((fnd r r.found.length).new.getD i10 0)]) /\ (1 = 1 /\ (fnd r r.found.length).frm.length = (fnd r r.found.length).frm.length /\ ∀ (i12 : Nat), i12 < (fnd r r.found.length).frm.length -> [iv ((fnd r r.found.length).frm.getD i12 0)] = [iv ((fnd r r.found.length).frm.getD i12 0)]) /\ True) /\ T2) /\ (OB.cells 25 [iv 0, iv 0, nilv, nilv] = OB.cells 25 [iv 0, iv 0, nilv, nilv] /\ true = true) /\ (25 = 25 /\ ((iv r.plates = iv r.plates /\ nilN = []) /\ (iv r.last = iv r.last /\ nilN = []) /\ some (Src.same 24) = some (Src.same 24) /\ some (Src.same 25) = some (Src.same 25) /\ True) /\ true = true) /\ True) /\ T2) (by kernel_rfl) (by kernel_rfl) ⟨⟨⟨rfl, rfl⟩, ⟨rfl, rfl⟩, tv⟩, ⟨⟨rfl, rfl, rfl, (fun i2 => (fun h3 => (fun h4 => (o6 hp i2 h3 h4)))), ⟨⟨rfl, (o7 hp), (fun i5 => (fun h6 => (o8 hp i5 h6)))⟩, ⟨(congrArg iv (o9 hp)), rfl⟩, tv⟩, rfl, rfl⟩, ⟨rfl, rfl, rfl, (fun i7 => (fun h8 => (fun h9 => rfl))), ⟨⟨rfl, rfl⟩, ⟨rfl, (o10 hp), (fun i10 => (fun h11 => rfl))⟩, ⟨rfl, rfl, (fun i12 => (fun h13 => rfl))⟩, tv⟩, rfl, rfl⟩, ⟨rfl, rfl⟩, ⟨rfl, ⟨⟨rfl, rfl⟩, ⟨rfl, rfl⟩, rfl, rfl, tv⟩, rfl⟩, tv⟩, rfl, rfl⟩) ?_
 refine swp_ent (ent_q (st2 := ASt.mk [(8, AV.ptr 8 []), (9, AV.ptr 32 [])] [(24, OB.vec 42 2 r.machines.length fun (k : Nat) => cMach (mach (justR r m p n) k)), (25, OB.vec 32 3 r.found.length fun (k : Nat) => cFnd (fnd r k)), (8, OB.cells 25 [iv 0, iv 0, nilv, nilv]), (32, OB.cells 25 [iv r.plates, iv r.last, AV.vec 24, AV.vec 25])] 144) hE [] [(8, .same 8), (32, .same 32), (24, .same 24), (25, .same 25)] [] [24, 25, 8] (((some (Src.same 8) = some (Src.same 8) /\ nilP = []) /\ (some (Src.same 32) = some (Src.same 32) /\ nilP = []) /\ True) /\ ((((OB.vec 42 2 r.machines.length fun (k : Nat) => cMach (mach (justR r m p n) k)) = OB.vec 42 2 r.machines.length fun (k : Nat) => cMach (mach (justR r m p n) k)) /\ true = true) /\ (((OB.vec 32 3 r.found.length fun (k : Nat) => cFnd (fnd r k)) = OB.vec 32 3 r.found.length fun (k : Nat) => cFnd (fnd r k)) /\ true = true) /\ (OB.cells 25 [iv 0, iv 0, nilv, nilv] = OB.cells 25 [iv 0, iv 0, nilv, nilv] /\ true = true) /\ (25 = 25 /\ ((iv r.plates = iv r.plates /\ nilN = []) /\ (iv r.last = iv r.last /\ nilN = []) /\ some (Src.same 24) = some (Src.same 24) /\ some (Src.same 25) = some (Src.same 25) /\ True) /\ true = true) /\ True) /\ T2) (by kernel_rfl) (by kernel_rfl) ⟨⟨⟨rfl, rfl⟩, ⟨rfl, rfl⟩, tv⟩, ⟨⟨rfl, rfl⟩, ⟨rfl, rfl⟩, ⟨rfl, rfl⟩, ⟨rfl, ⟨⟨rfl, rfl⟩, ⟨rfl, rfl⟩, rfl, rfl, tv⟩, rfl⟩, tv⟩, rfl, rfl⟩) ?_
 refine sR (kt := [8]) (kh := [8, 24, 25]) (q := True /\ True /\ True) (st' := ASt.mk [(8, .ptr 8 [])] [(8, .cells 25 [iv r.plates, iv r.last, .vec 24, .vec 25]), (24, .vec 42 2 r.machines.length fun (k : Nat) => cMach (mach (justR r m p n) k)), (25, .vec 32 3 r.found.length fun (k : Nat) => cFnd (fnd r k))] 160) (by kernel_rfl) ⟨tv, tv, tv⟩ ?_
 refine swp_ret ?_
 exact ret_q [24, 25] ((True /\ True) /\ ((iv r.plates = iv (justR r m p n).plates /\ nilN = []) /\ (iv r.last = iv (justR r m p n).last /\ nilN = []) /\ (2 = 2 /\ r.machines.length = (justR r m p n).machines.length /\ ∀ (i14 : Nat), i14 < (justR r m p n).machines.length -> cMach (mach (justR r m p n) i14) = cMach (mach (justR r m p n) i14)) /\ (3 = 3 /\ r.found.length = (justR r m p n).found.length /\ ∀ (i16 : Nat), i16 < (justR r m p n).found.length -> cFnd (fnd r i16) = cFnd (fnd (justR r m p n) i16)) /\ True) /\ T3) (by kernel_rfl) ⟨⟨tv, tv⟩, ⟨⟨(congrArg iv (o11 hp)), rfl⟩, ⟨(congrArg iv (o12 hp)), rfl⟩, ⟨rfl, (o13 hp), (fun i14 => (fun h15 => rfl))⟩, ⟨rfl, (o14 hp), (fun i16 => (fun h17 => (o15 hp i16 h17)))⟩, tv⟩, rfl, rfl, rfl⟩
theorem t44 (r : Run) (m p n : Int) : Triple Try.prog 44 (s44 r m p n) := by
 apply w44
 case o4 | o5 => intro h; rw [chLen_at (by omega)]; omega
 case o6 => intro h i hi hne; rw [justR, setCh, mach_setM _ (by omega), if_neg hne]
 case o7 => intro h; rw [chLen_at (by omega)]; exact (len_setCh (by omega) _).1.symm
 case o8 =>
  intro h i hi
  have hc := chg_setCh (r := r) (m := m.toNat) (p := p.toNat) (s := ⟨n, n⟩) (by omega) (by omega) m.toNat i
  show _ = cSpan (chg (mach (setCh r m.toNat p.toNat ⟨n, n⟩) m.toNat) i)
  rw [hc]
  exact rec_eq (fun h => by rw [if_neg (fun e => h e.2)]) (fun h => by rw [if_pos ⟨rfl, h⟩]; rfl)
 case o9 => intro h; exact (len_setCh (by omega) _).2.symm
 case o10 => intro h; exact nwLen_over r
 case o13 => intro h; exact (len_setM _ _ _).symm
 all_goals (first | ((repeat intro _) <;> (try simp only [v0, v1, v2, v3, v4, v5, v6, v7, v8, v9, inI, fits, Go.Sh.small] at *) <;> first | (exact rfl) | omega | exact vz | (simp_all; done) | (simp_all; omega)) | skip)
abbrev q7_1 (r : Run) (m : Int) (p : Int) (C : Prop) : Prop := fits r -> (bif bif !ready r then true else !isMachine r m then true else !isPlate r p) = false -> C
abbrev q7_2 (r : Run) (m : Int) (p : Int) (C : Prop) : Prop := q7_1 r m p ((!decide (openE r (whenIs r m p) = 0)) = false -> C)
abbrev q7_3 (r : Run) (m : Int) (p : Int) (C : Prop) : Prop := q7_2 r m p ((!inside (whenS r m p) ((mach r m.toNat).changes.getD p.toNat default)) = false -> C)
abbrev q7_4 (r : Run) (m : Int) (p : Int) (C : Int -> Prop) : Prop := q7_3 r m p (∀ (x45 : Int), end0 (whenS r m p) <= x45 /\ x45 <= (whenS r m p).hi + 2 -> decide (x45 <= (whenS r m p).hi + 1) = true -> C x45)
abbrev q7_5 (r : Run) (m : Int) (p : Int) (C : Int -> Prop) : Prop := q7_4 r m p fun x45 => (bif bif decide ((whenS r m p).lo < x45) then decide (x45 < (whenS r m p).hi) else false then true else !has ((mach r m.toNat).changes.getD p.toNat default) x45) = true -> C x45
abbrev q7_6 (r : Run) (m : Int) (p : Int) (C : Int -> Prop) : Prop := q7_4 r m p fun x45 => (bif bif decide ((whenS r m p).lo < x45) then decide (x45 < (whenS r m p).hi) else false then true else !has ((mach r m.toNat).changes.getD p.toNat default) x45) = false -> C x45
abbrev q7_7 (r : Run) (m : Int) (p : Int) (C : Int -> Prop) : Prop := q7_6 r m p fun x45 => (bif bif !decide (openE (justR r m p x45) (whenIs (justR r m p x45) m p) = 0) == has (whenS r m p) x45 then true else bif !decide (openE (justR r m p x45) (whenIs (justR r m p x45) m p) = 0) then !decide (openE (justR r m p x45) (whenIs (justR r m p x45) m p) = 3) else false then true else bif decide (openE (justR r m p x45) (whenIs (justR r m p x45) m p) = 0) then !(decide ((whenS (justR r m p x45) m p).lo = x45) && (decide ((whenS (justR r m p x45) m p).hi = x45) && true)) else false) = false -> C x45
theorem w7 (r : Run) (m : Int) (p : Int)
 (o0 : fits r -> (!ready r) = false -> (!!ready r) = true)
 (o1 : fits r -> (bif !ready r then true else !isMachine r m) = false -> (!bif !ready r then true else !isMachine r m) = true)
 (o2 : q7_1 r m p ((!decide (openE r (whenIs r m p) = 0)) -> (bif decide (openE r (whenIs r m p) = 3) then decide (openE r true = 3) else false) = true -> okRun r = true))
 (o3 : q7_1 r m p ((!decide (openE r (whenIs r m p) = 0)) -> (bif bif bif decide (openE r (whenIs r m p) = 3) then decide (openE r true = 3) else false then !isOne r else false then true else false) = true))
 (o4 : q7_2 r m p (0 <= m))
 (o5 : q7_2 r m p (m < (↑(r.machines.length) : Int)))
 (o6 : q7_2 r m p (0 <= p))
 (o7 : q7_2 r m p (p < (↑((mach r m.toNat).changes.length) : Int)))
 (o8 : q7_2 r m p ((!inside (whenS r m p) ((mach r m.toNat).changes.getD p.toNat default)) = true -> false = true))
 (o9 : q7_3 r m p (inI ((whenS r m p).lo - 1)))
 (o10 : q7_3 r m p ((whenS r m p).lo - 1 = end0 (whenS r m p)))
 (o11 : q7_3 r m p (end0 (whenS r m p) <= end0 (whenS r m p) /\ end0 (whenS r m p) <= (whenS r m p).hi + 2))
 (o12 : q7_3 r m p (∀ (x45 : Int), end0 (whenS r m p) <= x45 /\ x45 <= (whenS r m p).hi + 2 -> inI ((whenS r m p).hi + 1)))
 (o13 : q7_4 r m p fun x45 => (bif decide ((whenS r m p).lo < x45) then decide (x45 < (whenS r m p).hi) else false) = false -> (!bif decide ((whenS r m p).lo < x45) then decide (x45 < (whenS r m p).hi) else false) = true)
 (o14 : q7_5 r m p fun x45 => inI (x45 + 1))
 (o15 : q7_5 r m p fun x45 => end0 (whenS r m p) <= x45 + 1 /\ x45 + 1 <= (whenS r m p).hi + 2)
 (o16 : q7_5 r m p fun x45 => ((whenS r m p).hi + 2 - (x45 + 1)).toNat < ((whenS r m p).hi + 2 - x45).toNat)
 (o17 : q7_6 r m p fun x45 => small r)
 (o18 : q7_6 r m p fun x45 => 0 <= m)
 (o19 : q7_6 r m p fun x45 => m < (↑(r.machines.length) : Int))
 (o20 : q7_6 r m p fun x45 => 0 <= p)
 (o21 : q7_6 r m p fun x45 => p < (↑((mach r m.toNat).changes.length) : Int))
 (o22 : q7_6 r m p fun x45 => fits (justR r m p x45))
 (o23 : q7_6 r m p fun x45 => (!!decide (openE (justR r m p x45) (whenIs (justR r m p x45) m p) = 0) == has (whenS r m p) x45) -> (!decide (openE (justR r m p x45) (whenIs (justR r m p x45) m p) = 0)) -> (!!decide (openE (justR r m p x45) (whenIs (justR r m p x45) m p) = 0) == has (whenS r m p) x45 && !decide (openE (justR r m p x45) (whenIs (justR r m p x45) m p) = 0)) = true)
 (o24 : q7_6 r m p fun x45 => (!decide (openE (justR r m p x45) (whenIs (justR r m p x45) m p) = 0) == has (whenS r m p) x45) = false -> (!!decide (openE (justR r m p x45) (whenIs (justR r m p x45) m p) = 0) == has (whenS r m p) x45) = true)
 (o25 : q7_6 r m p fun x45 => (!bif !decide (openE (justR r m p x45) (whenIs (justR r m p x45) m p) = 0) == has (whenS r m p) x45 then true else bif !decide (openE (justR r m p x45) (whenIs (justR r m p x45) m p) = 0) then !decide (openE (justR r m p x45) (whenIs (justR r m p x45) m p) = 3) else false) = true -> decide (openE (justR r m p x45) (whenIs (justR r m p x45) m p) = 0) = true -> ((!bif !decide (openE (justR r m p x45) (whenIs (justR r m p x45) m p) = 0) == has (whenS r m p) x45 then true else bif !decide (openE (justR r m p x45) (whenIs (justR r m p x45) m p) = 0) then !decide (openE (justR r m p x45) (whenIs (justR r m p x45) m p) = 3) else false) && decide (openE (justR r m p x45) (whenIs (justR r m p x45) m p) = 0)) = true)
 (o26 : q7_6 r m p fun x45 => (bif !decide (openE (justR r m p x45) (whenIs (justR r m p x45) m p) = 0) == has (whenS r m p) x45 then true else bif !decide (openE (justR r m p x45) (whenIs (justR r m p x45) m p) = 0) then !decide (openE (justR r m p x45) (whenIs (justR r m p x45) m p) = 3) else false) = false -> (!bif !decide (openE (justR r m p x45) (whenIs (justR r m p x45) m p) = 0) == has (whenS r m p) x45 then true else bif !decide (openE (justR r m p x45) (whenIs (justR r m p x45) m p) = 0) then !decide (openE (justR r m p x45) (whenIs (justR r m p x45) m p) = 3) else false) = true)
 (o27 : q7_6 r m p fun x45 => (bif bif !decide (openE (justR r m p x45) (whenIs (justR r m p x45) m p) = 0) == has (whenS r m p) x45 then true else bif !decide (openE (justR r m p x45) (whenIs (justR r m p x45) m p) = 0) then !decide (openE (justR r m p x45) (whenIs (justR r m p x45) m p) = 3) else false then true else bif decide (openE (justR r m p x45) (whenIs (justR r m p x45) m p) = 0) then !(decide ((whenS (justR r m p x45) m p).lo = x45) && (decide ((whenS (justR r m p x45) m p).hi = x45) && true)) else false) = true -> false = true)
 (o28 : q7_7 r m p fun x45 => inI (x45 + 1))
 (o29 : q7_7 r m p fun x45 => end0 (whenS r m p) <= x45 + 1 /\ x45 + 1 <= (whenS r m p).hi + 2)
 (o30 : q7_7 r m p fun x45 => ((whenS r m p).hi + 2 - (x45 + 1)).toNat < ((whenS r m p).hi + 2 - x45).toNat) :
  Triple Try.prog 7 (s7 r m p) := by
 refine triple_of Try.func7 rfl Try.call7 T0_ok _ rfl rfl rfl rfl (Nat.le_of_ble_eq_true (by kernel_rfl)) (fun _ _ _ _ h => h) ?_
 intro hp C hC _ hE
 obtain ⟨P, w0, E0, av, hA⟩ := C
 subst hC
 refine swp_seq ?_
 refine sR (kt := [1, 2, 3]) (kh := [0]) (q := True /\ True /\ True) (st' := ASt.mk [(1, iv m), (2, iv p), (3, .ptr 0 [])] [(0, .cells 25 (cRun r))] 16) (by kernel_rfl) ⟨tv, tv, tv⟩ ?_
 refine swp_seq (swp_seq ?_)
 refine swp_region T0_ok mixed (cs := [(1, CallSpec.eq (s17 r) [true]), (6, CallSpec.eq (s18 r m) [true, true]), (12, CallSpec.eq (s25 r p) [true, true])]) (kt := [1, 2, 3, 29]) (kh := [0]) (q := True /\ ((AV.agg (cRun r) = AV.agg (cRun r) /\ True) /\ Triple Try.prog 17 (s17 r) /\ fits r /\ True /\ ∀ (i0 : Env), True) /\ True /\ True /\ ((!!ready r) = true -> (True /\ True) /\ True) /\ ((!!ready r) = true -> (True /\ True) /\ True) /\ ((!!ready r) = true -> (True /\ ((!!ready r) = true -> (!!ready r) = true) /\ ((!!ready r) = true -> (!!ready r) = true) /\ True) /\ (AV.agg (cRun r) = AV.agg (cRun r) /\ iv m = iv m /\ True) /\ Triple Try.prog 18 (s18 r m) /\ fits r /\ True /\ ∀ (i6 : Env), True) /\ ((!!ready r) = true -> (((!!ready r) = true -> (!!ready r) = true) /\ True) /\ True) /\ (((!ready r) = true -> True) /\ ((!ready r) = false -> (!!ready r) = true)) /\ True /\ ((!bif !ready r then true else !isMachine r m) = true -> (True /\ True) /\ True) /\ ((!bif !ready r then true else !isMachine r m) = true -> (True /\ True) /\ True) /\ ((!bif !ready r then true else !isMachine r m) = true -> (True /\ ((!bif !ready r then true else !isMachine r m) = true -> (!bif !ready r then true else !isMachine r m) = true) /\ ((!bif !ready r then true else !isMachine r m) = true -> (!bif !ready r then true else !isMachine r m) = true) /\ True) /\ (AV.agg (cRun r) = AV.agg (cRun r) /\ iv p = iv p /\ True) /\ Triple Try.prog 25 (s25 r p) /\ fits r /\ True /\ ∀ (i16 : Env), True) /\ ((!bif !ready r then true else !isMachine r m) = true -> (((!bif !ready r then true else !isMachine r m) = true -> (!bif !ready r then true else !isMachine r m) = true) /\ True) /\ True) /\ (((bif !ready r then true else !isMachine r m) = true -> True) /\ ((bif !ready r then true else !isMachine r m) = false -> (!bif !ready r then true else !isMachine r m) = true)) /\ True) (st' := ASt.mk [(1, iv m), (2, iv p), (3, .ptr 0 []), (29, bv (bif bif !ready r then true else !isMachine r m then true else !isPlate r p))] [(0, .cells 25 (cRun r))] 136) (by kernel_rfl) ⟨tv, ⟨⟨rfl, tv⟩, (t17 (r)), hp, tv, (fun i0 => tv)⟩, tv, tv, (fun h1 => ⟨⟨tv, tv⟩, tv⟩), (fun h2 => ⟨⟨tv, tv⟩, tv⟩), (fun h3 => ⟨⟨tv, (fun h4 => h3), (fun h5 => h3), tv⟩, ⟨rfl, rfl, tv⟩, (t18 (r) (m)), hp, tv, (fun i6 => tv)⟩), (fun h7 => ⟨⟨(fun h8 => h7), tv⟩, tv⟩), ⟨(fun h9 => tv), (fun h10 => (o0 hp h10))⟩, tv, (fun h11 => ⟨⟨tv, tv⟩, tv⟩), (fun h12 => ⟨⟨tv, tv⟩, tv⟩), (fun h13 => ⟨⟨tv, (fun h14 => h13), (fun h15 => h13), tv⟩, ⟨rfl, rfl, tv⟩, (t25 (r) (p)), hp, tv, (fun i16 => tv)⟩), (fun h17 => ⟨⟨(fun h18 => h17), tv⟩, tv⟩), ⟨(fun h19 => tv), (fun h20 => (o1 hp h20))⟩, tv⟩ ?_
 refine swp_cond (bif bif !ready r then true else !isMachine r m then true else !isPlate r p) (by kernel_rfl) (fun h21 => ?_) (fun h21 => ?_)
 ·refine swp_seq ?_
  refine swp_region T0_ok mixed (cs := [(0, CallSpec.eq s19 [])]) (kt := [6]) (kh := []) (q := (True /\ Triple Try.prog 19 s19 /\ True /\ True /\ ∀ (i22 : Env), True) /\ True /\ True) (st' := ASt.mk [(6, bv true)] [] 152) (by kernel_rfl) ⟨⟨tv, (t19), tv, tv, (fun i22 => tv)⟩, tv, tv⟩ ?_
  refine swp_ret ?_
  exact ret_q [] ((True /\ True) /\ (bv true = bv true /\ nilN = []) /\ T3) (by kernel_rfl) ⟨⟨tv, tv⟩, ⟨rfl, rfl⟩, rfl, rfl, rfl⟩
 ·refine swp_skip (swp_seq ?_)
  refine swp_region T0_ok mixed (cs := [(3, CallSpec.eq (s23 r m p) [true, true, true])]) (kt := [1, 2, 3, 7, 8]) (kh := [0, 192]) (q := True /\ True /\ True /\ ((AV.agg (cRun r) = AV.agg (cRun r) /\ iv m = iv m /\ iv p = iv p /\ True) /\ Triple Try.prog 23 (s23 r m p) /\ fits r /\ True /\ ∀ (i23 : Env), True) /\ True /\ True /\ True /\ True /\ True /\ True /\ True) (st' := ASt.mk [(1, iv m), (2, iv p), (3, .ptr 0 []), (7, .ptr 192 []), (8, iv (openE r (whenIs r m p)))] [(0, .cells 25 (cRun r)), (192, .cells 37 (cSpan (whenS r m p)))] 216) (by kernel_rfl) ⟨tv, tv, tv, ⟨⟨rfl, rfl, rfl, tv⟩, (t23 (r) (m) (p)), hp, tv, (fun i23 => tv)⟩, tv, tv, tv, tv, tv, tv, tv⟩ ?_
  refine swp_seq (swp_seq ?_)
  refine sR (kt := [1, 2, 3, 7, 8, 39]) (kh := [0, 192]) (q := True /\ True /\ True) (st' := ASt.mk [(1, iv m), (2, iv p), (3, .ptr 0 []), (7, .ptr 192 []), (8, iv (openE r (whenIs r m p))), (39, bv !decide (openE r (whenIs r m p) = 0))] [(0, .cells 25 (cRun r)), (192, .cells 37 (cSpan (whenS r m p)))] 232) (by kernel_rfl) ⟨tv, tv, tv⟩ ?_
  refine swp_cond (!decide (openE r (whenIs r m p) = 0)) (by kernel_rfl) (fun h24 => ?_) (fun h24 => ?_)
  ·refine swp_seq ?_
   refine swp_region T0_ok mixed (cs := [(1, CallSpec.eq (s41 r) [true])]) (kt := [3, 8, 10]) (kh := [0]) (q := True /\ ((AV.agg (cRun r) = AV.agg (cRun r) /\ True) /\ Triple Try.prog 41 (s41 r) /\ fits r /\ True /\ ∀ (i25 : Env), True) /\ True /\ True /\ True /\ True /\ True /\ True /\ True) (st' := ASt.mk [(3, .ptr 0 []), (8, iv (openE r (whenIs r m p))), (10, iv (openE r true))] [(0, .cells 25 (cRun r))] 296) (by kernel_rfl) ⟨tv, ⟨⟨rfl, tv⟩, (t41 (r)), hp, tv, (fun i25 => tv)⟩, tv, tv, tv, tv, tv, tv, tv⟩ ?_
   refine swp_seq ?_
   refine swp_region T0_ok mixed (cs := [(8, CallSpec.eq (s42 r) [true]), (12, CallSpec.eq s19 [])]) (kt := [6]) (kh := []) (q := True /\ True /\ True /\ (decide (openE r (whenIs r m p) = 3) = true -> (True /\ True) /\ True) /\ (decide (openE r (whenIs r m p) = 3) = true -> ((decide (openE r (whenIs r m p) = 3) = true -> decide (openE r (whenIs r m p) = 3) = true) /\ True /\ True) /\ True) /\ ((decide (openE r (whenIs r m p) = 3) = true -> decide (openE r (whenIs r m p) = 3) = true) /\ (decide (openE r (whenIs r m p) = 3) = false -> True)) /\ True /\ ((bif decide (openE r (whenIs r m p) = 3) then decide (openE r true = 3) else false) = true -> (True /\ True) /\ True) /\ ((bif decide (openE r (whenIs r m p) = 3) then decide (openE r true = 3) else false) = true -> (True /\ ((bif decide (openE r (whenIs r m p) = 3) then decide (openE r true = 3) else false) = true -> (bif decide (openE r (whenIs r m p) = 3) then decide (openE r true = 3) else false) = true) /\ True) /\ (AV.agg (cRun r) = AV.agg (cRun r) /\ True) /\ Triple Try.prog 42 (s42 r) /\ okRun r = true /\ True /\ ∀ (i34 : Env), True) /\ ((bif decide (openE r (whenIs r m p) = 3) then decide (openE r true = 3) else false) = true -> (((bif decide (openE r (whenIs r m p) = 3) then decide (openE r true = 3) else false) = true -> (bif decide (openE r (whenIs r m p) = 3) then decide (openE r true = 3) else false) = true) /\ True) /\ True) /\ (((bif decide (openE r (whenIs r m p) = 3) then decide (openE r true = 3) else false) = true -> (bif decide (openE r (whenIs r m p) = 3) then decide (openE r true = 3) else false) = true) /\ ((bif decide (openE r (whenIs r m p) = 3) then decide (openE r true = 3) else false) = false -> True)) /\ True /\ ((bif bif decide (openE r (whenIs r m p) = 3) then decide (openE r true = 3) else false then !isOne r else false) = true -> (True /\ True) /\ True /\ Triple Try.prog 19 s19 /\ True /\ True /\ ∀ (i40 : Env), True) /\ (((bif bif decide (openE r (whenIs r m p) = 3) then decide (openE r true = 3) else false then !isOne r else false) = true -> (bif bif decide (openE r (whenIs r m p) = 3) then decide (openE r true = 3) else false then !isOne r else false) = true) /\ ((bif bif decide (openE r (whenIs r m p) = 3) then decide (openE r true = 3) else false then !isOne r else false) = false -> True)) /\ True /\ True) (st' := ASt.mk [(6, bv (bif bif bif decide (openE r (whenIs r m p) = 3) then decide (openE r true = 3) else false then !isOne r else false then true else false))] [] 416) (by kernel_rfl) ⟨tv, tv, tv, (fun h26 => ⟨⟨tv, tv⟩, tv⟩), (fun h27 => ⟨⟨(fun h28 => h27), tv, tv⟩, tv⟩), ⟨(fun h29 => h29), (fun h30 => tv)⟩, tv, (fun h31 => ⟨⟨tv, tv⟩, tv⟩), (fun h32 => ⟨⟨tv, (fun h33 => h32), tv⟩, ⟨rfl, tv⟩, (t42 (r)), (o2 hp h21 h24 h32), tv, (fun i34 => tv)⟩), (fun h35 => ⟨⟨(fun h36 => h35), tv⟩, tv⟩), ⟨(fun h37 => h37), (fun h38 => tv)⟩, tv, (fun h39 => ⟨⟨tv, tv⟩, tv, (t19), tv, tv, (fun i40 => tv)⟩), ⟨(fun h41 => h41), (fun h42 => tv)⟩, tv, tv⟩ ?_
   refine swp_ret ?_
   exact ret_q [] ((True /\ True) /\ (bv (bif bif bif decide (openE r (whenIs r m p) = 3) then decide (openE r true = 3) else false then !isOne r else false then true else false) = bv true /\ nilN = []) /\ T3) (by kernel_rfl) ⟨⟨tv, tv⟩, ⟨(congrArg bv (o3 hp h21 h24)), rfl⟩, rfl, rfl, rfl⟩
  ·refine swp_skip (swp_seq ?_)
   refine sR (kt := [1, 2, 3, 7, 11]) (kh := [0, 192, 304]) (q := True /\ True /\ True /\ (0 <= m /\ m < (↑(r.machines.length) : Int)) /\ True /\ True /\ True /\ (0 <= p /\ p < (↑((mach r m.toNat).changes.length) : Int)) /\ True /\ True /\ True /\ True) (st' := ASt.mk [(1, iv m), (2, iv p), (3, .ptr 0 []), (7, .ptr 192 []), (11, .ptr 304 [])] [(0, .cells 25 (cRun r)), (192, .cells 37 (cSpan (whenS r m p))), (304, .cells 37 (cSpan ((mach r m.toNat).changes.getD p.toNat default)))] 320) (by kernel_rfl) ⟨tv, tv, tv, ⟨(o4 hp h21 h24), (o5 hp h21 h24)⟩, tv, tv, tv, ⟨(o6 hp h21 h24), (o7 hp h21 h24)⟩, tv, tv, tv, tv⟩ ?_
   refine swp_seq (swp_seq ?_)
   refine swp_region T0_ok mixed (cs := [(2, CallSpec.eq (s28 (whenS r m p) ((mach r m.toNat).changes.getD p.toNat default)) [true, true])]) (kt := [1, 2, 3, 7, 11, 71]) (kh := [0, 192, 304]) (q := True /\ True /\ ((AV.agg (cSpan (whenS r m p)) = AV.agg (cSpan (whenS r m p)) /\ AV.agg (cSpan ((mach r m.toNat).changes.getD p.toNat default)) = AV.agg (cSpan ((mach r m.toNat).changes.getD p.toNat default)) /\ True) /\ Triple Try.prog 28 (s28 (whenS r m p) ((mach r m.toNat).changes.getD p.toNat default)) /\ True /\ True /\ ∀ (i43 : Env), True) /\ True /\ True) (st' := ASt.mk [(1, iv m), (2, iv p), (3, .ptr 0 []), (7, .ptr 192 []), (11, .ptr 304 []), (71, bv !inside (whenS r m p) ((mach r m.toNat).changes.getD p.toNat default))] [(0, .cells 25 (cRun r)), (192, .cells 37 (cSpan (whenS r m p))), (304, .cells 37 (cSpan ((mach r m.toNat).changes.getD p.toNat default)))] 352) (by kernel_rfl) ⟨tv, tv, ⟨⟨rfl, rfl, tv⟩, (t28 (whenS r m p) ((mach r m.toNat).changes.getD p.toNat default)), tv, tv, (fun i43 => tv)⟩, tv, tv⟩ ?_
   refine swp_cond (!inside (whenS r m p) ((mach r m.toNat).changes.getD p.toNat default)) (by kernel_rfl) (fun h44 => ?_) (fun h44 => ?_)
   ·refine swp_seq ?_
    refine sR (kt := [6]) (kh := []) (q := True /\ True) (st' := ASt.mk [(6, bv false)] [] 360) (by kernel_rfl) ⟨tv, tv⟩ ?_
    refine swp_ret ?_
    exact ret_q [] ((True /\ True) /\ (bv false = bv true /\ nilN = []) /\ T3) (by kernel_rfl) ⟨⟨tv, tv⟩, ⟨(congrArg bv (o8 hp h21 h24 h44)), rfl⟩, rfl, rfl, rfl⟩
   ·refine swp_skip (swp_seq (swp_seq ?_))
    refine sR (kt := [1, 2, 3, 7, 11, 12]) (kh := [0, 192, 304]) (q := True /\ True /\ inI ((whenS r m p).lo - 1) /\ True /\ True) (st' := ASt.mk [(1, iv m), (2, iv p), (3, .ptr 0 []), (7, .ptr 192 []), (11, .ptr 304 []), (12, iv ((whenS r m p).lo - 1))] [(0, .cells 25 (cRun r)), (192, .cells 37 (cSpan (whenS r m p))), (304, .cells 37 (cSpan ((mach r m.toNat).changes.getD p.toNat default)))] 384) (by kernel_rfl) ⟨tv, tv, (o9 hp h21 h24 h44), tv, tv⟩ ?_
    refine swp_block ?_
    refine swp_loopA (Hint.ann (h7 r m p) [(1, iv m), (2, iv p), (3, AV.ptr 0 []), (7, AV.ptr 192 []), (11, AV.ptr 304 [])] [(0, OB.cells 25 (cRun r)), (192, OB.cells 37 (cSpan (whenS r m p))), (304, OB.cells 37 (cSpan ((mach r m.toNat).changes.getD p.toNat default)))] 10384) (ent_q hE [] [(0, .same 0), (192, .same 192), (304, .same 304)] [1, 2] [0, 192, 304] (((iv m = iv m /\ true = true) /\ (iv p = iv p /\ true = true) /\ (some (Src.same 0) = some (Src.same 0) /\ nilP = []) /\ (some (Src.same 192) = some (Src.same 192) /\ nilP = []) /\ (some (Src.same 304) = some (Src.same 304) /\ nilP = []) /\ (iv ((whenS r m p).lo - 1) = iv (end0 (whenS r m p)) /\ nilN = []) /\ True) /\ ((OB.cells 25 (cRun r) = OB.cells 25 (cRun r) /\ true = true) /\ (OB.cells 37 (cSpan (whenS r m p)) = OB.cells 37 (cSpan (whenS r m p)) /\ true = true) /\ (OB.cells 37 (cSpan ((mach r m.toNat).changes.getD p.toNat default)) = OB.cells 37 (cSpan ((mach r m.toNat).changes.getD p.toNat default)) /\ true = true) /\ True) /\ T2) (by kernel_rfl) (by kernel_rfl) ⟨⟨⟨rfl, rfl⟩, ⟨rfl, rfl⟩, ⟨rfl, rfl⟩, ⟨rfl, rfl⟩, ⟨rfl, rfl⟩, ⟨(congrArg iv (o10 hp h21 h24 h44)), rfl⟩, tv⟩, ⟨⟨rfl, rfl⟩, ⟨rfl, rfl⟩, ⟨rfl, rfl⟩, tv⟩, rfl, rfl⟩) (o11 hp h21 h24 h44) (fun (x45 : Int) hx45 => ?_)
    refine swp_seq (swp_seq ?_)
    refine sR (kt := [1, 2, 3, 7, 11, 12, 79]) (kh := [0, 192, 304]) (q := True /\ True /\ True /\ inI ((whenS r m p).hi + 1) /\ True /\ True) (st' := ASt.mk [(1, iv m), (2, iv p), (3, .ptr 0 []), (7, .ptr 192 []), (11, .ptr 304 []), (12, iv x45), (79, bv (decide (x45 <= (whenS r m p).hi + 1)))] [(0, .cells 25 (cRun r)), (192, .cells 37 (cSpan (whenS r m p))), (304, .cells 37 (cSpan ((mach r m.toNat).changes.getD p.toNat default)))] 10424) (by kernel_rfl) ⟨tv, tv, tv, (o12 hp h21 h24 h44 x45 hx45), tv, tv⟩ ?_
    refine swp_cond (decide (x45 <= (whenS r m p).hi + 1)) (by kernel_rfl) (fun h46 => ?_) (fun h46 => ?_)
    ·refine swp_skip (swp_seq (swp_block (swp_seq (swp_seq ?_))))
     refine swp_region T0_ok mixed (cs := [(13, CallSpec.eq (s43 ((mach r m.toNat).changes.getD p.toNat default) x45) [true, true])]) (kt := [1, 2, 3, 7, 11, 12, 97]) (kh := [0, 192, 304]) (q := True /\ True /\ True /\ True /\ True /\ (decide ((whenS r m p).lo < x45) = true -> (True /\ True) /\ True) /\ (decide ((whenS r m p).lo < x45) = true -> (True /\ True) /\ True) /\ (decide ((whenS r m p).lo < x45) = true -> ((decide ((whenS r m p).lo < x45) = true -> decide ((whenS r m p).lo < x45) = true) /\ True) /\ True) /\ (decide ((whenS r m p).lo < x45) = true -> ((decide ((whenS r m p).lo < x45) = true -> decide ((whenS r m p).lo < x45) = true) /\ (decide ((whenS r m p).lo < x45) = true -> decide ((whenS r m p).lo < x45) = true) /\ True) /\ True) /\ ((decide ((whenS r m p).lo < x45) = true -> decide ((whenS r m p).lo < x45) = true) /\ (decide ((whenS r m p).lo < x45) = false -> True)) /\ True /\ ((!bif decide ((whenS r m p).lo < x45) then decide (x45 < (whenS r m p).hi) else false) = true -> (True /\ True) /\ True) /\ ((!bif decide ((whenS r m p).lo < x45) then decide (x45 < (whenS r m p).hi) else false) = true -> (True /\ True) /\ True) /\ ((!bif decide ((whenS r m p).lo < x45) then decide (x45 < (whenS r m p).hi) else false) = true -> (True /\ ((!bif decide ((whenS r m p).lo < x45) then decide (x45 < (whenS r m p).hi) else false) = true -> (!bif decide ((whenS r m p).lo < x45) then decide (x45 < (whenS r m p).hi) else false) = true) /\ ((!bif decide ((whenS r m p).lo < x45) then decide (x45 < (whenS r m p).hi) else false) = true -> (!bif decide ((whenS r m p).lo < x45) then decide (x45 < (whenS r m p).hi) else false) = true) /\ True) /\ (AV.agg (cSpan ((mach r m.toNat).changes.getD p.toNat default)) = AV.agg (cSpan ((mach r m.toNat).changes.getD p.toNat default)) /\ iv x45 = iv x45 /\ True) /\ Triple Try.prog 43 (s43 ((mach r m.toNat).changes.getD p.toNat default) x45) /\ True /\ True /\ ∀ (i61 : Env), True) /\ ((!bif decide ((whenS r m p).lo < x45) then decide (x45 < (whenS r m p).hi) else false) = true -> (((!bif decide ((whenS r m p).lo < x45) then decide (x45 < (whenS r m p).hi) else false) = true -> (!bif decide ((whenS r m p).lo < x45) then decide (x45 < (whenS r m p).hi) else false) = true) /\ True) /\ True) /\ (((bif decide ((whenS r m p).lo < x45) then decide (x45 < (whenS r m p).hi) else false) = true -> True) /\ ((bif decide ((whenS r m p).lo < x45) then decide (x45 < (whenS r m p).hi) else false) = false -> (!bif decide ((whenS r m p).lo < x45) then decide (x45 < (whenS r m p).hi) else false) = true)) /\ True) (st' := ASt.mk [(1, iv m), (2, iv p), (3, .ptr 0 []), (7, .ptr 192 []), (11, .ptr 304 []), (12, iv x45), (97, bv (bif bif decide ((whenS r m p).lo < x45) then decide (x45 < (whenS r m p).hi) else false then true else !has ((mach r m.toNat).changes.getD p.toNat default) x45))] [(0, .cells 25 (cRun r)), (192, .cells 37 (cSpan (whenS r m p))), (304, .cells 37 (cSpan ((mach r m.toNat).changes.getD p.toNat default)))] 10552) (by kernel_rfl) ⟨tv, tv, tv, tv, tv, (fun h47 => ⟨⟨tv, tv⟩, tv⟩), (fun h48 => ⟨⟨tv, tv⟩, tv⟩), (fun h49 => ⟨⟨(fun h50 => h49), tv⟩, tv⟩), (fun h51 => ⟨⟨(fun h52 => h51), (fun h53 => h51), tv⟩, tv⟩), ⟨(fun h54 => h54), (fun h55 => tv)⟩, tv, (fun h56 => ⟨⟨tv, tv⟩, tv⟩), (fun h57 => ⟨⟨tv, tv⟩, tv⟩), (fun h58 => ⟨⟨tv, (fun h59 => h58), (fun h60 => h58), tv⟩, ⟨rfl, rfl, tv⟩, (t43 ((mach r m.toNat).changes.getD p.toNat default) (x45)), tv, tv, (fun i61 => tv)⟩), (fun h62 => ⟨⟨(fun h63 => h62), tv⟩, tv⟩), ⟨(fun h64 => tv), (fun h65 => (o13 hp h21 h24 h44 x45 hx45 h46 h65))⟩, tv⟩ ?_
     refine swp_cond (bif bif decide ((whenS r m p).lo < x45) then decide (x45 < (whenS r m p).hi) else false then true else !has ((mach r m.toNat).changes.getD p.toNat default) x45) (by kernel_rfl) (fun h66 => ?_) (fun h66 => ?_)
     ·refine swp_exit ?_
      refine sR (kt := [1, 2, 3, 7, 11, 12]) (kh := [0, 192, 304]) (q := True /\ inI (x45 + 1) /\ True /\ True) (st' := ASt.mk [(1, iv m), (2, iv p), (3, .ptr 0 []), (7, .ptr 192 []), (11, .ptr 304 []), (12, iv (x45 + 1))] [(0, .cells 25 (cRun r)), (192, .cells 37 (cSpan (whenS r m p))), (304, .cells 37 (cSpan ((mach r m.toNat).changes.getD p.toNat default)))] 10576) (by kernel_rfl) ⟨tv, (o14 hp h21 h24 h44 x45 hx45 h46 h66), tv, tv⟩ ?_
      exact loop_next (Hint.ann (h7 r m p) [(1, iv m), (2, iv p), (3, AV.ptr 0 []), (7, AV.ptr 192 []), (11, AV.ptr 304 [])] [(0, OB.cells 25 (cRun r)), (192, OB.cells 37 (cSpan (whenS r m p))), (304, OB.cells 37 (cSpan ((mach r m.toNat).changes.getD p.toNat default)))] 10384) x45 (ent_q hE [] [(0, .same 0), (192, .same 192), (304, .same 304)] [1, 2, 12] [0, 192, 304] (((iv m = iv m /\ true = true) /\ (iv p = iv p /\ true = true) /\ (some (Src.same 0) = some (Src.same 0) /\ nilP = []) /\ (some (Src.same 192) = some (Src.same 192) /\ nilP = []) /\ (some (Src.same 304) = some (Src.same 304) /\ nilP = []) /\ (iv (x45 + 1) = iv (x45 + 1) /\ true = true) /\ True) /\ ((OB.cells 25 (cRun r) = OB.cells 25 (cRun r) /\ true = true) /\ (OB.cells 37 (cSpan (whenS r m p)) = OB.cells 37 (cSpan (whenS r m p)) /\ true = true) /\ (OB.cells 37 (cSpan ((mach r m.toNat).changes.getD p.toNat default)) = OB.cells 37 (cSpan ((mach r m.toNat).changes.getD p.toNat default)) /\ true = true) /\ True) /\ T2) (by kernel_rfl) (by kernel_rfl) ⟨⟨⟨rfl, rfl⟩, ⟨rfl, rfl⟩, ⟨rfl, rfl⟩, ⟨rfl, rfl⟩, ⟨rfl, rfl⟩, ⟨rfl, rfl⟩, tv⟩, ⟨⟨rfl, rfl⟩, ⟨rfl, rfl⟩, ⟨rfl, rfl⟩, tv⟩, rfl, rfl⟩) (o15 hp h21 h24 h44 x45 hx45 h46 h66) (o16 hp h21 h24 h44 x45 hx45 h46 h66)
     ·refine swp_skip (swp_seq ?_)
      refine swp_region T0_ok mixed (cs := [(4, CallSpec.eq (s44 r m p x45) [true, true, true, true]), (7, CallSpec.eq (s23 (justR r m p x45) m p) [true, true, true])]) (kt := [1, 2, 3, 7, 11, 12, 13, 14]) (kh := [0, 192, 304, 10640]) (q := True /\ True /\ True /\ True /\ ((AV.agg (cRun r) = AV.agg (cRun r) /\ iv m = iv m /\ iv p = iv p /\ iv x45 = iv x45 /\ True) /\ Triple Try.prog 44 (s44 r m p x45) /\ (small r /\ (0 <= m /\ m < (↑(r.machines.length) : Int)) /\ 0 <= p /\ p < (↑((mach r m.toNat).changes.length) : Int)) /\ True /\ ∀ (i67 : Env), True) /\ True /\ True /\ ((AV.agg (cRun (justR r m p x45)) = AV.agg (cRun (justR r m p x45)) /\ iv m = iv m /\ iv p = iv p /\ True) /\ Triple Try.prog 23 (s23 (justR r m p x45) m p) /\ fits (justR r m p x45) /\ True /\ ∀ (i68 : Env), True) /\ True /\ True /\ True /\ True /\ True /\ True /\ True) (st' := ASt.mk [(1, iv m), (2, iv p), (3, .ptr 0 []), (7, .ptr 192 []), (11, .ptr 304 []), (12, iv x45), (13, .ptr 10640 []), (14, iv (openE (justR r m p x45) (whenIs (justR r m p x45) m p)))] [(0, .cells 25 (cRun r)), (192, .cells 37 (cSpan (whenS r m p))), (304, .cells 37 (cSpan ((mach r m.toNat).changes.getD p.toNat default))), (10640, .cells 37 (cSpan (whenS (justR r m p x45) m p)))] 10664) (by kernel_rfl) ⟨tv, tv, tv, tv, ⟨⟨rfl, rfl, rfl, rfl, tv⟩, (t44 (r) (m) (p) (x45)), ⟨(o17 hp h21 h24 h44 x45 hx45 h46 h66), ⟨(o18 hp h21 h24 h44 x45 hx45 h46 h66), (o19 hp h21 h24 h44 x45 hx45 h46 h66)⟩, (o20 hp h21 h24 h44 x45 hx45 h46 h66), (o21 hp h21 h24 h44 x45 hx45 h46 h66)⟩, tv, (fun i67 => tv)⟩, tv, tv, ⟨⟨rfl, rfl, rfl, tv⟩, (t23 (justR r m p x45) (m) (p)), (o22 hp h21 h24 h44 x45 hx45 h46 h66), tv, (fun i68 => tv)⟩, tv, tv, tv, tv, tv, tv, tv⟩ ?_
      refine swp_seq ?_
      refine swp_region T0_ok mixed (cs := [(4, CallSpec.eq (s43 (whenS r m p) x45) [true, true]), (21, CallSpec.eq (s29 x45 x45) [true, true])]) (kt := [1, 2, 3, 7, 11, 12, 133]) (kh := [0, 192, 304]) (q := True /\ True /\ True /\ True /\ ((AV.agg (cSpan (whenS r m p)) = AV.agg (cSpan (whenS r m p)) /\ iv x45 = iv x45 /\ True) /\ Triple Try.prog 43 (s43 (whenS r m p) x45) /\ True /\ True /\ ∀ (i69 : Env), True) /\ True /\ True /\ ((!!decide (openE (justR r m p x45) (whenIs (justR r m p x45) m p) = 0) == has (whenS r m p) x45) -> (True /\ True) /\ True) /\ ((!!decide (openE (justR r m p x45) (whenIs (justR r m p x45) m p) = 0) == has (whenS r m p) x45) -> (((!!decide (openE (justR r m p x45) (whenIs (justR r m p x45) m p) = 0) == has (whenS r m p) x45) -> (!!decide (openE (justR r m p x45) (whenIs (justR r m p x45) m p) = 0) == has (whenS r m p) x45) = true) /\ True /\ True) /\ True) /\ ((!!decide (openE (justR r m p x45) (whenIs (justR r m p x45) m p) = 0) == has (whenS r m p) x45) -> (((!!decide (openE (justR r m p x45) (whenIs (justR r m p x45) m p) = 0) == has (whenS r m p) x45) -> (!!decide (openE (justR r m p x45) (whenIs (justR r m p x45) m p) = 0) == has (whenS r m p) x45) = true) /\ True) /\ True) /\ ((!!decide (openE (justR r m p x45) (whenIs (justR r m p x45) m p) = 0) == has (whenS r m p) x45 && !decide (openE (justR r m p x45) (whenIs (justR r m p x45) m p) = 0)) -> (True /\ True) /\ True) /\ ((!!decide (openE (justR r m p x45) (whenIs (justR r m p x45) m p) = 0) == has (whenS r m p) x45 && !decide (openE (justR r m p x45) (whenIs (justR r m p x45) m p) = 0)) -> (((!!decide (openE (justR r m p x45) (whenIs (justR r m p x45) m p) = 0) == has (whenS r m p) x45 && !decide (openE (justR r m p x45) (whenIs (justR r m p x45) m p) = 0)) -> (!!decide (openE (justR r m p x45) (whenIs (justR r m p x45) m p) = 0) == has (whenS r m p) x45 && !decide (openE (justR r m p x45) (whenIs (justR r m p x45) m p) = 0)) = true) /\ True /\ True) /\ True) /\ ((!!decide (openE (justR r m p x45) (whenIs (justR r m p x45) m p) = 0) == has (whenS r m p) x45) -> (((!!decide (openE (justR r m p x45) (whenIs (justR r m p x45) m p) = 0) == has (whenS r m p) x45) -> (!!decide (openE (justR r m p x45) (whenIs (justR r m p x45) m p) = 0) == has (whenS r m p) x45) = true) /\ True) /\ ((!decide (openE (justR r m p x45) (whenIs (justR r m p x45) m p) = 0)) -> (!!decide (openE (justR r m p x45) (whenIs (justR r m p x45) m p) = 0) == has (whenS r m p) x45 && !decide (openE (justR r m p x45) (whenIs (justR r m p x45) m p) = 0)) = true) /\ ((!decide (openE (justR r m p x45) (whenIs (justR r m p x45) m p) = 0)) = false -> True)) /\ (((!decide (openE (justR r m p x45) (whenIs (justR r m p x45) m p) = 0) == has (whenS r m p) x45) -> True) /\ ((!decide (openE (justR r m p x45) (whenIs (justR r m p x45) m p) = 0) == has (whenS r m p) x45) = false -> (!!decide (openE (justR r m p x45) (whenIs (justR r m p x45) m p) = 0) == has (whenS r m p) x45) = true)) /\ True /\ ((!bif !decide (openE (justR r m p x45) (whenIs (justR r m p x45) m p) = 0) == has (whenS r m p) x45 then true else bif !decide (openE (justR r m p x45) (whenIs (justR r m p x45) m p) = 0) then !decide (openE (justR r m p x45) (whenIs (justR r m p x45) m p) = 3) else false) = true -> (True /\ True) /\ True) /\ ((!bif !decide (openE (justR r m p x45) (whenIs (justR r m p x45) m p) = 0) == has (whenS r m p) x45 then true else bif !decide (openE (justR r m p x45) (whenIs (justR r m p x45) m p) = 0) then !decide (openE (justR r m p x45) (whenIs (justR r m p x45) m p) = 3) else false) = true -> (((!bif !decide (openE (justR r m p x45) (whenIs (justR r m p x45) m p) = 0) == has (whenS r m p) x45 then true else bif !decide (openE (justR r m p x45) (whenIs (justR r m p x45) m p) = 0) then !decide (openE (justR r m p x45) (whenIs (justR r m p x45) m p) = 3) else false) = true -> (!bif !decide (openE (justR r m p x45) (whenIs (justR r m p x45) m p) = 0) == has (whenS r m p) x45 then true else bif !decide (openE (justR r m p x45) (whenIs (justR r m p x45) m p) = 0) then !decide (openE (justR r m p x45) (whenIs (justR r m p x45) m p) = 3) else false) = true) /\ True /\ True) /\ True) /\ ((!bif !decide (openE (justR r m p x45) (whenIs (justR r m p x45) m p) = 0) == has (whenS r m p) x45 then true else bif !decide (openE (justR r m p x45) (whenIs (justR r m p x45) m p) = 0) then !decide (openE (justR r m p x45) (whenIs (justR r m p x45) m p) = 3) else false) = true -> (((!bif !decide (openE (justR r m p x45) (whenIs (justR r m p x45) m p) = 0) == has (whenS r m p) x45 then true else bif !decide (openE (justR r m p x45) (whenIs (justR r m p x45) m p) = 0) then !decide (openE (justR r m p x45) (whenIs (justR r m p x45) m p) = 3) else false) = true -> (!bif !decide (openE (justR r m p x45) (whenIs (justR r m p x45) m p) = 0) == has (whenS r m p) x45 then true else bif !decide (openE (justR r m p x45) (whenIs (justR r m p x45) m p) = 0) then !decide (openE (justR r m p x45) (whenIs (justR r m p x45) m p) = 3) else false) = true) /\ True) /\ True) /\ (((!bif !decide (openE (justR r m p x45) (whenIs (justR r m p x45) m p) = 0) == has (whenS r m p) x45 then true else bif !decide (openE (justR r m p x45) (whenIs (justR r m p x45) m p) = 0) then !decide (openE (justR r m p x45) (whenIs (justR r m p x45) m p) = 3) else false) && decide (openE (justR r m p x45) (whenIs (justR r m p x45) m p) = 0)) = true -> (True /\ True) /\ True) /\ (((!bif !decide (openE (justR r m p x45) (whenIs (justR r m p x45) m p) = 0) == has (whenS r m p) x45 then true else bif !decide (openE (justR r m p x45) (whenIs (justR r m p x45) m p) = 0) then !decide (openE (justR r m p x45) (whenIs (justR r m p x45) m p) = 3) else false) && decide (openE (justR r m p x45) (whenIs (justR r m p x45) m p) = 0)) = true -> (True /\ True) /\ True) /\ (((!bif !decide (openE (justR r m p x45) (whenIs (justR r m p x45) m p) = 0) == has (whenS r m p) x45 then true else bif !decide (openE (justR r m p x45) (whenIs (justR r m p x45) m p) = 0) then !decide (openE (justR r m p x45) (whenIs (justR r m p x45) m p) = 3) else false) && decide (openE (justR r m p x45) (whenIs (justR r m p x45) m p) = 0)) = true -> (True /\ True) /\ True) /\ (((!bif !decide (openE (justR r m p x45) (whenIs (justR r m p x45) m p) = 0) == has (whenS r m p) x45 then true else bif !decide (openE (justR r m p x45) (whenIs (justR r m p x45) m p) = 0) then !decide (openE (justR r m p x45) (whenIs (justR r m p x45) m p) = 3) else false) && decide (openE (justR r m p x45) (whenIs (justR r m p x45) m p) = 0)) = true -> (True /\ (((!bif !decide (openE (justR r m p x45) (whenIs (justR r m p x45) m p) = 0) == has (whenS r m p) x45 then true else bif !decide (openE (justR r m p x45) (whenIs (justR r m p x45) m p) = 0) then !decide (openE (justR r m p x45) (whenIs (justR r m p x45) m p) = 3) else false) && decide (openE (justR r m p x45) (whenIs (justR r m p x45) m p) = 0)) = true -> ((!bif !decide (openE (justR r m p x45) (whenIs (justR r m p x45) m p) = 0) == has (whenS r m p) x45 then true else bif !decide (openE (justR r m p x45) (whenIs (justR r m p x45) m p) = 0) then !decide (openE (justR r m p x45) (whenIs (justR r m p x45) m p) = 3) else false) && decide (openE (justR r m p x45) (whenIs (justR r m p x45) m p) = 0)) = true) /\ (((!bif !decide (openE (justR r m p x45) (whenIs (justR r m p x45) m p) = 0) == has (whenS r m p) x45 then true else bif !decide (openE (justR r m p x45) (whenIs (justR r m p x45) m p) = 0) then !decide (openE (justR r m p x45) (whenIs (justR r m p x45) m p) = 3) else false) && decide (openE (justR r m p x45) (whenIs (justR r m p x45) m p) = 0)) = true -> ((!bif !decide (openE (justR r m p x45) (whenIs (justR r m p x45) m p) = 0) == has (whenS r m p) x45 then true else bif !decide (openE (justR r m p x45) (whenIs (justR r m p x45) m p) = 0) then !decide (openE (justR r m p x45) (whenIs (justR r m p x45) m p) = 3) else false) && decide (openE (justR r m p x45) (whenIs (justR r m p x45) m p) = 0)) = true) /\ True) /\ (iv x45 = iv x45 /\ iv x45 = iv x45 /\ True) /\ Triple Try.prog 29 (s29 x45 x45) /\ True /\ True /\ ∀ (i95 : Env), True) /\ (((!bif !decide (openE (justR r m p x45) (whenIs (justR r m p x45) m p) = 0) == has (whenS r m p) x45 then true else bif !decide (openE (justR r m p x45) (whenIs (justR r m p x45) m p) = 0) then !decide (openE (justR r m p x45) (whenIs (justR r m p x45) m p) = 3) else false) && decide (openE (justR r m p x45) (whenIs (justR r m p x45) m p) = 0)) = true -> ((((!bif !decide (openE (justR r m p x45) (whenIs (justR r m p x45) m p) = 0) == has (whenS r m p) x45 then true else bif !decide (openE (justR r m p x45) (whenIs (justR r m p x45) m p) = 0) then !decide (openE (justR r m p x45) (whenIs (justR r m p x45) m p) = 3) else false) && decide (openE (justR r m p x45) (whenIs (justR r m p x45) m p) = 0)) = true -> ((!bif !decide (openE (justR r m p x45) (whenIs (justR r m p x45) m p) = 0) == has (whenS r m p) x45 then true else bif !decide (openE (justR r m p x45) (whenIs (justR r m p x45) m p) = 0) then !decide (openE (justR r m p x45) (whenIs (justR r m p x45) m p) = 3) else false) && decide (openE (justR r m p x45) (whenIs (justR r m p x45) m p) = 0)) = true) /\ (((!bif !decide (openE (justR r m p x45) (whenIs (justR r m p x45) m p) = 0) == has (whenS r m p) x45 then true else bif !decide (openE (justR r m p x45) (whenIs (justR r m p x45) m p) = 0) then !decide (openE (justR r m p x45) (whenIs (justR r m p x45) m p) = 3) else false) && decide (openE (justR r m p x45) (whenIs (justR r m p x45) m p) = 0)) = true -> ((!bif !decide (openE (justR r m p x45) (whenIs (justR r m p x45) m p) = 0) == has (whenS r m p) x45 then true else bif !decide (openE (justR r m p x45) (whenIs (justR r m p x45) m p) = 0) then !decide (openE (justR r m p x45) (whenIs (justR r m p x45) m p) = 3) else false) && decide (openE (justR r m p x45) (whenIs (justR r m p x45) m p) = 0)) = true) /\ True) /\ True) /\ ((!bif !decide (openE (justR r m p x45) (whenIs (justR r m p x45) m p) = 0) == has (whenS r m p) x45 then true else bif !decide (openE (justR r m p x45) (whenIs (justR r m p x45) m p) = 0) then !decide (openE (justR r m p x45) (whenIs (justR r m p x45) m p) = 3) else false) = true -> (((!bif !decide (openE (justR r m p x45) (whenIs (justR r m p x45) m p) = 0) == has (whenS r m p) x45 then true else bif !decide (openE (justR r m p x45) (whenIs (justR r m p x45) m p) = 0) then !decide (openE (justR r m p x45) (whenIs (justR r m p x45) m p) = 3) else false) = true -> (!bif !decide (openE (justR r m p x45) (whenIs (justR r m p x45) m p) = 0) == has (whenS r m p) x45 then true else bif !decide (openE (justR r m p x45) (whenIs (justR r m p x45) m p) = 0) then !decide (openE (justR r m p x45) (whenIs (justR r m p x45) m p) = 3) else false) = true) /\ True) /\ (decide (openE (justR r m p x45) (whenIs (justR r m p x45) m p) = 0) = true -> ((!bif !decide (openE (justR r m p x45) (whenIs (justR r m p x45) m p) = 0) == has (whenS r m p) x45 then true else bif !decide (openE (justR r m p x45) (whenIs (justR r m p x45) m p) = 0) then !decide (openE (justR r m p x45) (whenIs (justR r m p x45) m p) = 3) else false) && decide (openE (justR r m p x45) (whenIs (justR r m p x45) m p) = 0)) = true) /\ (decide (openE (justR r m p x45) (whenIs (justR r m p x45) m p) = 0) = false -> True)) /\ (((bif !decide (openE (justR r m p x45) (whenIs (justR r m p x45) m p) = 0) == has (whenS r m p) x45 then true else bif !decide (openE (justR r m p x45) (whenIs (justR r m p x45) m p) = 0) then !decide (openE (justR r m p x45) (whenIs (justR r m p x45) m p) = 3) else false) = true -> True) /\ ((bif !decide (openE (justR r m p x45) (whenIs (justR r m p x45) m p) = 0) == has (whenS r m p) x45 then true else bif !decide (openE (justR r m p x45) (whenIs (justR r m p x45) m p) = 0) then !decide (openE (justR r m p x45) (whenIs (justR r m p x45) m p) = 3) else false) = false -> (!bif !decide (openE (justR r m p x45) (whenIs (justR r m p x45) m p) = 0) == has (whenS r m p) x45 then true else bif !decide (openE (justR r m p x45) (whenIs (justR r m p x45) m p) = 0) then !decide (openE (justR r m p x45) (whenIs (justR r m p x45) m p) = 3) else false) = true)) /\ True) (st' := ASt.mk [(1, iv m), (2, iv p), (3, .ptr 0 []), (7, .ptr 192 []), (11, .ptr 304 []), (12, iv x45), (133, bv (bif bif !decide (openE (justR r m p x45) (whenIs (justR r m p x45) m p) = 0) == has (whenS r m p) x45 then true else bif !decide (openE (justR r m p x45) (whenIs (justR r m p x45) m p) = 0) then !decide (openE (justR r m p x45) (whenIs (justR r m p x45) m p) = 3) else false then true else bif decide (openE (justR r m p x45) (whenIs (justR r m p x45) m p) = 0) then !(decide ((whenS (justR r m p x45) m p).lo = x45) && (decide ((whenS (justR r m p x45) m p).hi = x45) && true)) else false))] [(0, .cells 25 (cRun r)), (192, .cells 37 (cSpan (whenS r m p))), (304, .cells 37 (cSpan ((mach r m.toNat).changes.getD p.toNat default)))] 10864) (by kernel_rfl) ⟨tv, tv, tv, tv, ⟨⟨rfl, rfl, tv⟩, (t43 (whenS r m p) (x45)), tv, tv, (fun i69 => tv)⟩, tv, tv, (fun h70 => ⟨⟨tv, tv⟩, tv⟩), (fun h71 => ⟨⟨(fun h72 => h71), tv, tv⟩, tv⟩), (fun h73 => ⟨⟨(fun h74 => h73), tv⟩, tv⟩), (fun h75 => ⟨⟨tv, tv⟩, tv⟩), (fun h76 => ⟨⟨(fun h77 => h76), tv, tv⟩, tv⟩), (fun h78 => ⟨⟨(fun h79 => h78), tv⟩, (fun h80 => (o23 hp h21 h24 h44 x45 hx45 h46 h66 h78 h80)), (fun h81 => tv)⟩), ⟨(fun h82 => tv), (fun h83 => (o24 hp h21 h24 h44 x45 hx45 h46 h66 h83))⟩, tv, (fun h84 => ⟨⟨tv, tv⟩, tv⟩), (fun h85 => ⟨⟨(fun h86 => h85), tv, tv⟩, tv⟩), (fun h87 => ⟨⟨(fun h88 => h87), tv⟩, tv⟩), (fun h89 => ⟨⟨tv, tv⟩, tv⟩), (fun h90 => ⟨⟨tv, tv⟩, tv⟩), (fun h91 => ⟨⟨tv, tv⟩, tv⟩), (fun h92 => ⟨⟨tv, (fun h93 => h92), (fun h94 => h92), tv⟩, ⟨rfl, rfl, tv⟩, (t29 (x45) (x45)), tv, tv, (fun i95 => tv)⟩), (fun h96 => ⟨⟨(fun h97 => h96), (fun h98 => h96), tv⟩, tv⟩), (fun h99 => ⟨⟨(fun h100 => h99), tv⟩, (fun h101 => (o25 hp h21 h24 h44 x45 hx45 h46 h66 h99 h101)), (fun h102 => tv)⟩), ⟨(fun h103 => tv), (fun h104 => (o26 hp h21 h24 h44 x45 hx45 h46 h66 h104))⟩, tv⟩ ?_
      refine swp_cond (bif bif !decide (openE (justR r m p x45) (whenIs (justR r m p x45) m p) = 0) == has (whenS r m p) x45 then true else bif !decide (openE (justR r m p x45) (whenIs (justR r m p x45) m p) = 0) then !decide (openE (justR r m p x45) (whenIs (justR r m p x45) m p) = 3) else false then true else bif decide (openE (justR r m p x45) (whenIs (justR r m p x45) m p) = 0) then !(decide ((whenS (justR r m p x45) m p).lo = x45) && (decide ((whenS (justR r m p x45) m p).hi = x45) && true)) else false) (by kernel_rfl) (fun h105 => ?_) (fun h105 => ?_)
      ·refine swp_seq ?_
       refine sR (kt := [6]) (kh := []) (q := True /\ True) (st' := ASt.mk [(6, bv false)] [] 10872) (by kernel_rfl) ⟨tv, tv⟩ ?_
       refine swp_ret ?_
       exact ret_q [] ((True /\ True) /\ (bv false = bv true /\ nilN = []) /\ T3) (by kernel_rfl) ⟨⟨tv, tv⟩, ⟨(congrArg bv (o27 hp h21 h24 h44 x45 hx45 h46 h66 h105)), rfl⟩, rfl, rfl, rfl⟩
      ·refine swp_skip ?_
       refine sR (kt := [1, 2, 3, 7, 11, 12]) (kh := [0, 192, 304]) (q := True /\ inI (x45 + 1) /\ True /\ True) (st' := ASt.mk [(1, iv m), (2, iv p), (3, .ptr 0 []), (7, .ptr 192 []), (11, .ptr 304 []), (12, iv (x45 + 1))] [(0, .cells 25 (cRun r)), (192, .cells 37 (cSpan (whenS r m p))), (304, .cells 37 (cSpan ((mach r m.toNat).changes.getD p.toNat default)))] 10888) (by kernel_rfl) ⟨tv, (o28 hp h21 h24 h44 x45 hx45 h46 h66 h105), tv, tv⟩ ?_
       exact loop_next (Hint.ann (h7 r m p) [(1, iv m), (2, iv p), (3, AV.ptr 0 []), (7, AV.ptr 192 []), (11, AV.ptr 304 [])] [(0, OB.cells 25 (cRun r)), (192, OB.cells 37 (cSpan (whenS r m p))), (304, OB.cells 37 (cSpan ((mach r m.toNat).changes.getD p.toNat default)))] 10384) x45 (ent_q hE [] [(0, .same 0), (192, .same 192), (304, .same 304)] [1, 2, 12] [0, 192, 304] (((iv m = iv m /\ true = true) /\ (iv p = iv p /\ true = true) /\ (some (Src.same 0) = some (Src.same 0) /\ nilP = []) /\ (some (Src.same 192) = some (Src.same 192) /\ nilP = []) /\ (some (Src.same 304) = some (Src.same 304) /\ nilP = []) /\ (iv (x45 + 1) = iv (x45 + 1) /\ true = true) /\ True) /\ ((OB.cells 25 (cRun r) = OB.cells 25 (cRun r) /\ true = true) /\ (OB.cells 37 (cSpan (whenS r m p)) = OB.cells 37 (cSpan (whenS r m p)) /\ true = true) /\ (OB.cells 37 (cSpan ((mach r m.toNat).changes.getD p.toNat default)) = OB.cells 37 (cSpan ((mach r m.toNat).changes.getD p.toNat default)) /\ true = true) /\ True) /\ T2) (by kernel_rfl) (by kernel_rfl) ⟨⟨⟨rfl, rfl⟩, ⟨rfl, rfl⟩, ⟨rfl, rfl⟩, ⟨rfl, rfl⟩, ⟨rfl, rfl⟩, ⟨rfl, rfl⟩, tv⟩, ⟨⟨rfl, rfl⟩, ⟨rfl, rfl⟩, ⟨rfl, rfl⟩, tv⟩, rfl, rfl⟩) (o29 hp h21 h24 h44 x45 hx45 h46 h66 h105) (o30 hp h21 h24 h44 x45 hx45 h46 h66 h105)
    ·refine swp_exit (swp_seq ?_)
     refine swp_region T0_ok mixed (cs := [(0, CallSpec.eq s19 [])]) (kt := [6]) (kh := []) (q := (True /\ Triple Try.prog 19 s19 /\ True /\ True /\ ∀ (i106 : Env), True) /\ True /\ True) (st' := ASt.mk [(6, bv true)] [] 10440) (by kernel_rfl) ⟨⟨tv, (t19), tv, tv, (fun i106 => tv)⟩, tv, tv⟩ ?_
     refine swp_ret ?_
     exact ret_q [] ((True /\ True) /\ (bv true = bv true /\ nilN = []) /\ T3) (by kernel_rfl) ⟨⟨tv, tv⟩, ⟨rfl, rfl⟩, rfl, rfl, rfl⟩
theorem t7 (r : Run) (m p : Int) : Triple Try.prog 7 (s7 r m p) := by
 apply w7
 case o2 => intro _ h _ _; exact ready_ok (ends_h h).1
 case o3 =>
  intro _ h ho
  obtain ⟨h1, h2⟩ := ends_h h
  rcases open_ask h1 h2 with ⟨h3, _⟩ | ⟨h3, h4, h5⟩
  ·rw [h3] at ho; cases ho
  ·rw [h3, h4, h5]; rfl
 case o4 | o5 | o6 | o7 => intro _ h ho; have := ends_ok h ho; omega
 case o8 =>
  intro _ h ho hin
  obtain ⟨hO, hk, hi, _⟩ := ends_ok h ho
  have := when_inside hO hi
  unfold chg at this
  rw [this] at hin; cases hin
 case o9 | o12 =>
  intro _ h ho
  obtain ⟨hO, hk, hi, _⟩ := ends_ok h ho
  have := when_bound hO hi
  (repeat intro _)
  exact ⟨by omega, by omega⟩
 case o11 =>
  intro _ h ho
  obtain ⟨hO, hk, hi, _⟩ := ends_ok h ho
  have := when_bound hO hi
  (repeat intro _)
  exact ⟨Int.le_refl _, by rw [end0_eq]; omega⟩
 all_goals (first | ((repeat intro _) <;> (try simp only [v0, v1, v2, v3, v4, v5, v6, v7, v8, v9, inI, fits, Go.Sh.small] at *) <;> first | (exact rfl) | omega | exact vz | (simp_all; done) | (simp_all; omega)) | skip)
 case o14 | o28 =>
  intro _ h ho hin x hx hle
  obtain ⟨hO, hk, hi, _⟩ := ends_ok h ho
  have := when_bound hO hi
  rw [end0_eq] at hx
  (repeat intro _)
  exact ⟨by omega, by omega⟩
 case o17 =>
  intro hf h _ _ x _ _ _
  have := (ends_h h).1
  simp only [ready, Bool.and_eq_true, Bool.not_eq_true'] at this
  exact far_small this.1 hf
 case o18 | o19 | o20 | o21 => intro _ h ho _ x _ _ _; have := ends_ok h ho; omega
 case o22 => intro hf h ho _ x _ _ _; exact fits_setCh hf (by have := ends_ok h ho; omega)
 case o27 =>
  intro _ h ho _ x _ _ hs hh
  rcases ends_skip h ho hs with ⟨h1, h2, h3⟩ | ⟨h1, h2⟩
  ·rw [h1, h2, h3] at hh; simp at hh
  ·rw [h1, h2] at hh; simp at hh
end Go.Ab
namespace Go.Ab
open Go Go.RowKit
def Dec (P : Program) (t : TypeId) {α : Type} (c : α -> List AV) (ok : α -> Prop) : Prop :=
 ∀ {H : Type} (enc : TypeId × Value -> H) (w : World) (E : Env) (fuel : Nat) (cs : List Value) (d : DataW H) (ps : List MemPlace),
  (∀ b, E.M b = w.heap[b]?) -> DataW.trod enc P w 0 (fun _ => true) true fuel t cs = some (d, ps) -> (∀ n ∈ d.weights P t, n <= reachBytes) -> ∃ a, ok a /\ ∀ o, RelL E o (c a) cs
theorem mcell_of {E : Env} {w : World} (h : ∀ b, E.M b = w.heap[b]?) {a : Addr} {v : Value} (hc : w.cell? a = some v) : a.spot = none /\ mcell E.M a.block a.off = some v := by
 refine ⟨World.cell?_spot hc, ?_⟩
 have hs := World.cell?_spot hc
 unfold World.cell? at hc
 unfold mcell
 rw [h]
 split at hc
 ·rename_i c t fr e
  rw [hs] at hc
  rw [e]
  simpa using hc
 ·cases hc
theorem lit_wf {n : Int} (h : (Lit.int .i64 n).wf = true) : -9223372036854775808 <= n /\ n <= 9223372036854775807 := by
 simpa [Lit.wf, IntKind.min, IntKind.max, IntKind.signed, IntKind.bits] using h
theorem dec_int {P : Program} {t : TypeId} (ht : P.underlying t = some (.int .i64)) : Dec P t (fun n => [iv n]) (fun n => -9223372036854775808 <= n /\ n <= 9223372036854775807) := by
 intro H enc w E fuel cs d ps _ h _
 obtain ⟨n, rfl, _, hw⟩ := DataW.trod_int ht h
 exact ⟨n, lit_wf hw, fun o => .cons (.lit _) rfl .nil⟩
theorem weightsAll_mem {H : Type} {P : Program} {e : TypeId} : ∀ {l : List (DataW H)} {d : DataW H}, d ∈ l -> ∀ n ∈ d.weights P e, n ∈ DataW.weightsAll P e l := by
 intro l
 induction l with
 | nil => intro d h; cases h
 | cons x l ih =>
  intro d h n hn
  rw [DataW.weightsAll, List.mem_append]
  rcases List.mem_cons.1 h with rfl | h
  ·exact .inl hn
  ·exact .inr (ih h n hn)
theorem dec_slice {P : Program} {t e : TypeId} {α : Type} [Inhabited α] {c : α -> List AV} {ok : α -> Prop} (ht : P.underlying t = some (.slice e)) {sz : Nat} (hsz : P.cellsOf e = sz) (hpos : 0 < sz) (hby : 0 < P.bytesOf e) (he : Dec P e c ok) :
  Dec P t (fun l : List α => [.sl sz l.length (fun i => c (l.getD i default))]) (fun l => l.length <= 140737488355328 /\ ∀ a, a ∈ l -> ok a) := by
 intro H enc w E fuel cs d ps hE h hw
 rcases Deep.open_slice ht h with ⟨rfl, hx⟩ | ⟨a, len, cap, m, n, D, Pl, rfl, hb, hl, hm, hmm, hx, hall⟩
 ·refine ⟨[], ⟨Nat.zero_le _, fun a ha => by cases ha⟩, fun o => ?_⟩
  exact .cons (.slN _ _) rfl .nil
 ·simp only [if_true] at hmm
  subst hmm
  rw [hsz] at hall
  obtain ⟨rfl, rfl⟩ := Prod.mk.inj hx
  have hwt : ∀ i, i < len -> ∀ k ∈ (D i).weights P e, k <= reachBytes := by
   intro i hi k hk
   refine hw k ?_
   rw [DataW.weights, ht]
   refine List.mem_cons_of_mem _ (List.mem_append_left _ (weightsAll_mem (d := D i) ?_ k hk))
   exact List.mem_map.2 ⟨i, List.mem_range.2 hi, rfl⟩
  have hlen : len <= 140737488355328 := by
   have h1 : (((List.range len).map D).length + ((List.range (m - len)).map fun j => D (len + j)).length) * P.bytesOf e <= reachBytes := by
    refine hw _ ?_
    rw [DataW.weights, ht]
    exact List.mem_cons_self ..
   simp only [List.length_map, List.length_range] at h1
   have h2 : len <= (len + (m - len)) * P.bytesOf e := Nat.le_trans (Nat.le_add_right _ _) (Nat.le_mul_of_pos_right _ hby)
   have h3 := reachBytes_lt
   omega
  obtain ⟨g, hg⟩ := Deep.choose_lt (α := List Value) (p := fun i cs' => w.cells? 0 (a.add (i * sz)) sz = some cs' /\ DataW.trod enc P w 0 (fun _ => true) true n e cs' = some (D i, Pl i)) hall
  have hdec : ∀ i, i < len -> ∃ x, ok x /\ ∀ o, RelL E o (c x) (g i) := fun i hi => he enc w E n (g i) (D i) (Pl i) hE (hg i (by omega)).2 (hwt i hi)
  obtain ⟨A, hA⟩ := Deep.choose_lt (α := α) (p := fun i x => ok x /\ ∀ o, RelL E o (c x) (g i)) hdec
  refine ⟨(List.range len).map A, ⟨by simpa using hlen, fun x hx => ?_⟩, fun o => .cons ?_ rfl .nil⟩
  ·obtain ⟨i, hi, rfl⟩ := List.mem_map.1 hx
   exact (hA i (List.mem_range.1 hi)).1
  ·rw [List.length_map, List.length_range]
   have hcell : ∀ i k, i < m -> k < sz -> ∃ v, (g i)[k]? = some v /\ w.cell? ((a.add (i * sz)).add k) = some v := by
    intro i k hi hk
    obtain ⟨_, hl1, hl2⟩ := World.cells?_some (hg i hi).1
    have := hl2 k hk
    obtain ⟨v, hv⟩ : ∃ v, (g i)[k]? = some v := ⟨_, List.getElem?_eq_getElem (by omega)⟩
    exact ⟨v, hv, by rw [this, hv]⟩
   by_cases h0 : m = 0
   ·subst h0
    obtain rfl : len = 0 := by omega
    exact .slZ _ _ _
   ·obtain ⟨v, _, hv⟩ := hcell 0 0 (by omega) hpos
    have hsp := (mcell_of hE hv).1
    obtain ⟨b, off, spot⟩ := a
    obtain rfl : spot = none := by simpa [Addr.add] using hsp
    refine .slA sz len _ b off m g hl hm (fun i hi => ?_) (fun i k hi hk => ?_) (fun i hi => ?_)
    ·exact (World.cells?_some (hg i (by omega)).1).2.1
    ·obtain ⟨v, hv1, hv2⟩ := hcell i k (by omega) hk
     rw [hv1]
     have := (mcell_of hE hv2).2
     rw [addr_add, addr_add] at this
     exact this
    ·have : ((List.range len).map A).getD i default = A i := by
      rw [List.getD_eq_getElem?_getD, List.getElem?_map, List.getElem?_range hi]; rfl
     rw [this]
     exact (hA i hi).2 false
def DecFs (P : Program) (off fin : Nat) (fs : List Field) {α : Type} (c : α -> List AV) (ok : α -> Prop) : Prop :=
 ∀ {H : Type} (enc : TypeId × Value -> H) (w : World) (E : Env) (n : Nat) (cs : List Value) (xs : List (DataW H × List MemPlace)),
  (∀ b, E.M b = w.heap[b]?) -> cs.length = fin -> xs.length = fs.length -> (∀ (i : Nat) (f : Field), fs[i]? = some f -> DataW.trod enc P w 0 (fun _ => true) true n f.type ((cs.drop f.offset).take (P.cellsOf f.type)) = xs[i]?) →
  (∀ k ∈ DataW.weightsEach P (fs.map (·.type)) (xs.map (·.1)), k <= reachBytes) -> ∃ a, ok a /\ ∀ o, RelL E o (c a) (cs.drop off)
theorem decFs_nil {P : Program} {fin : Nat} : DecFs P fin fin [] (fun _ : Unit => []) (fun _ => True) := by
 intro H enc w E n cs xs _ hl _ _ _
 refine ⟨(), trivial, fun o => ?_⟩
 rw [List.drop_of_length_le (by omega)]
 exact .nil
theorem decFs_cons {P : Program} {off mid fin : Nat} {f : Field} {fs : List Field} {α β : Type} {c1 : α -> List AV} {ok1 : α -> Prop} {c2 : β -> List AV} {ok2 : β -> Prop} {t : TypeId} (hft : f.type = t) (ho : f.offset = off) (hm : off + P.cellsOf t = mid)
  (h1 : Dec P t c1 ok1) (h2 : DecFs P mid fin fs c2 ok2) : DecFs P off fin (f :: fs) (fun p : α × β => c1 p.1 ++ c2 p.2) (fun p => ok1 p.1 /\ ok2 p.2) := by
 intro H enc w E n cs xs hE hl hx hall hw
 subst hft; subst ho; subst hm
 cases xs with
 | nil => simp at hx
 | cons x xs =>
  have h0 := hall 0 f rfl
  simp only [List.getElem?_cons_zero] at h0
  obtain ⟨a, ha, hra⟩ := h1 enc w E n _ x.1 x.2 hE h0 (fun k hk => hw k (by
   simp only [List.map_cons, DataW.weightsEach]
   exact List.mem_append_left _ hk))
  obtain ⟨b, hb, hrb⟩ := h2 enc w E n cs xs hE hl (by simpa using hx) (fun i g hg => by
   have := hall (i + 1) g (by simpa using hg)
   simpa using this) (fun k hk => hw k (by
   simp only [List.map_cons, DataW.weightsEach]
   exact List.mem_append_right _ hk))
  refine ⟨(a, b), ⟨ha, hb⟩, fun o => ?_⟩
  have := (hra o).append (hrb o)
  rw [← List.drop_drop, List.take_append_drop] at this
  exact this
theorem dec_struct {P : Program} {t : TypeId} {fs : Array Field} {sz : Nat} {α : Type} {c : α -> List AV} {ok : α -> Prop} (ht : P.underlying t = some (.struct fs)) (hsz : P.cellsOf t = sz) (h : DecFs P 0 sz fs.toList c ok) : Dec P t c ok := by
 intro H enc w E fuel cs d ps hE hd hw
 obtain ⟨xs, n, _, hx, hl, hxl, hall⟩ := DataW.trod_struct ht hd
 obtain ⟨rfl, rfl⟩ := Prod.mk.inj hx
 obtain ⟨a, ha, hr⟩ := h enc w E n cs xs hE (by omega) (by simpa using hxl) (fun i f hf => hall i f (by simpa using hf)) (fun k hk => hw k (by rw [DataW.weights, ht]; exact hk))
 exact ⟨a, ha, fun o => by simpa using hr o⟩
theorem Dec.map {P : Program} {t : TypeId} {α β : Type} {c : α -> List AV} {ok : α -> Prop} {c' : β -> List AV} {ok' : β -> Prop} (h : Dec P t c ok) (g : α -> β) (hc : ∀ a, ok a -> c' (g a) = c a) (hok : ∀ a, ok a -> ok' (g a)) : Dec P t c' ok' := by
 intro H enc w E fuel cs d ps hE hd hw
 obtain ⟨a, ha, hr⟩ := h enc w E fuel cs d ps hE hd hw
 exact ⟨g a, hok a ha, fun o => by rw [hc a ha]; exact hr o⟩
theorem Dec.arg {P : Program} {t : TypeId} {α : Type} {c : α -> List AV} {ok : α -> Prop} (h : Dec P t c ok) {H : Type} {enc : TypeId × Value -> H} {w : World} {E : Env} (hE : ∀ b, E.M b = w.heap[b]?) {v : Value} {d : DataW H} {ps : List MemPlace}
  (hd : DataW.Trod enc P w 0 (fun _ => true) true t v d ps) (hw : ∀ n ∈ d.weights P t, n <= reachBytes) : ∃ a, ok a /\ ∀ o, RelL E o (c a) v.cells.toList := by
 obtain ⟨fuel, hf⟩ := hd
 exact h enc w E fuel _ d ps hE hf hw
def envOf (w : World) : Env := { M := fun b => w.heap[b]?, blk := fun _ => none, hdr := fun _ => none, fns := fun _ _ => False }
theorem heapOK_of (P : Program) (w : World) : HeapOK (calleeCtx P (envOf w) w []) (envOf w) (Heap.of []) w where
 os := rfl
 tape := rfl
 output := rfl
 size := Nat.le_refl _
 pres := fun _ _ => rfl
 mem := fun _ _ h => h
 le := Env.le.refl _
 ext := fun _ _ h => .inl h
 own := fun id ob h => by cases h
 sep := fun i j k _ h => absurd rfl h
theorem trodAll_below {H : Type} {enc : TypeId × Value -> H} {P : Program} (hl : laidOutB P = true) {W W' : World} (hb : Below W.heap.size W W') : ∀ {ts : List TypeId} {vs : List Value} {ds : List (DataW H)} {ps : List MemPlace},
  (∀ t ∈ ts, P.readableRec t = true /\ t < P.types.size) -> DataW.TrodAll enc P W 0 (fun _ => true) true ts vs ds ps -> (∀ x ∈ ps, x.block < W.heap.size) →
  DataW.TrodAll enc P W' 0 (fun b => decide (b < W.heap.size)) true ts vs ds ps := by
 intro ts
 induction ts with
 | nil =>
  intro vs ds ps _ h _
  obtain ⟨rfl, rfl, rfl⟩ := ChangeShapes.trodAll_nil h
  exact ChangeShapes.trodAll_mk0
 | cons t ts ih =>
  intro vs ds ps hr h hlt
  obtain ⟨v, vs', d, ds', p, q, rfl, rfl, rfl, hd, hrest⟩ := ChangeShapes.trodAll_cons h
  obtain ⟨h1, h2⟩ := hr t (List.mem_cons_self ..)
  exact ⟨p, q, Below.trod hl h1 h2 hd hb (fun x hx => hlt x (List.mem_append_left _ hx)), ih (fun t ht => hr t (List.mem_cons_of_mem _ ht)) hrest (fun x hx => hlt x (List.mem_append_right _ hx)), rfl⟩
theorem law_contract {P : Program} (hl : laidOutB P = true) {f : FuncId} {fn : Func} {s : ChangeSpec} (hvars : s.vars = []) {tb : TypeId} (hres : fn.resultTypes = #[tb]) (htb : P.underlying tb = some .bool)
  (hread : ∀ t ∈ fn.params.toList, P.readableRec t = true /\ t < P.types.size)
  {H : Type} {enc : TypeId × Value -> H} {W : World} {args : Array Value} {ds gs : List (DataW H)} {before : List MemPlace}
  (hfn : ds.length = fn.params.size -> s.fn H ds = { results := [.lit (.bool true)], args := ds })
  (hW : DataW.Whole enc P fn.params.toList s.vars false W args.toList ds gs before) {sp : CallSpec} (ht : Triple P f sp) (hp : sp.pre) (hfo : ∀ E, sp.fnok E) (hin : sp.hin = []) (hout : sp.hout = []) (hr : sp.res = bv true)
  (hla : args.toList.length = sp.args.length) (hra : ∀ k, Rel (envOf W) true (sp.args.getD k .any) (args.toList.getD k undef)) :
  Calls P f args W fun e W' => ∃ v, e = .returned v /\ s.post enc P fn false true false false W args v W' := by
 have hok := heapOK_of P W
 have h := ht.2 hp (envOf W) W args.toList (hfo _) (by rw [hin]; exact hok) hla hra
 refine (h (by rw [hout]; intro p hp; cases hp)).mono fun e W' hpost => ?_
 obtain ⟨v, E', he, hh, hv, _⟩ := hpost
 rw [hr] at hv
 have hvt : v = .bool true := by cases hv; rfl
 subst hvt
 have hb : Below W.heap.size W W' := ⟨hh.os, hh.tape, hh.output, hh.size, fun k hk => hh.pres k (by
  rintro (hc | ⟨q, hq, _⟩)
  ·exact absurd hk (Nat.not_lt.2 hc)
  ·rw [hin] at hq; cases hq)⟩
 refine ⟨_, he, ?_⟩
 have hW' := hW
 obtain ⟨p, q, hA, hV, rfl, hz, hnd⟩ := hW
 rw [hvars] at hV
 obtain ⟨rfl, rfl⟩ := ChangeShapes.trodVars_none hV
 have hlen : ds.length = fn.params.size := by
  have : ∀ {ts : List TypeId} {vs : List Value} {ds : List (DataW H)} {ps : List MemPlace}, DataW.TrodAll enc P W 0 (fun _ => true) true ts vs ds ps -> ds.length = ts.length := by
   intro ts
   induction ts with
   | nil => intro vs ds ps h; obtain ⟨_, rfl, _⟩ := ChangeShapes.trodAll_nil h; rfl
   | cons t ts ih => intro vs ds ps h; obtain ⟨_, _, _, _, _, _, rfl, rfl, rfl, _, hr⟩ := ChangeShapes.trodAll_cons h; simp [ih hr]
  simpa using this hA
 refine ⟨ds, [], p ++ [], [], p, [], hW', ?_, ?_, ?_, hb.frame _, fun h => by cases h⟩
 ·rw [List.append_nil, hfn hlen, hres]
  exact ChangeShapes.trodAll_mk1 (shut_bool htb true)
 ·rw [List.append_nil, hfn hlen]
  exact trodAll_below hl hb hread hA (fun x hx => hW'.lt x (List.mem_append_left _ hx))
 ·rw [List.append_nil, hfn hlen, hvars]
  rfl
end Go.Ab
namespace Go.Ab
open Go Go.RowKit Go.Proofs Go.Sh Go.En
theorem dInt : Dec Try.prog 3 (fun n => [iv n]) (fun n => -9223372036854775808 <= n /\ n <= 9223372036854775807) := dec_int Try.underlying3
theorem dInts : Dec Try.prog 30 (fun l : List Int => [aInts l]) (fun l => l.length <= 140737488355328) :=
 Dec.map (dec_slice (α := Int) Try.underlying30 (by kernel_rfl) (by decide) (Nat.lt_of_lt_of_eq (by decide : 0 < 8) (by kernel_rfl)) dInt) id (fun _ _ => rfl) (fun _ h => h.1)
theorem dSpan : Dec Try.prog 37 cSpan (fun _ => True) :=
 Dec.map (dec_struct Try.underlying37 (sz := 2) (by kernel_rfl) (decFs_cons (mid := 1) rfl rfl (by kernel_rfl) dInt (decFs_cons (mid := 2) rfl rfl (by kernel_rfl) dInt decFs_nil))) (fun p => (⟨p.1, p.2.1⟩ : Span)) (fun _ _ => rfl) (fun _ _ => trivial)
theorem dSpans : Dec Try.prog 40 (fun l : List Span => [aSpans l]) (fun l => l.length <= 140737488355328) :=
 Dec.map (dec_slice (α := Span) Try.underlying40 (by kernel_rfl) (by decide) (Nat.lt_of_lt_of_eq (by decide : 0 < 16) (by kernel_rfl)) dSpan) id (fun _ _ => rfl) (fun _ h => h.1)
theorem dMach : Dec Try.prog 42 cMach (fun m => m.changes.length <= 140737488355328) :=
 Dec.map (dec_struct Try.underlying42 (sz := 2) (by kernel_rfl) (decFs_cons (mid := 1) rfl rfl (by kernel_rfl) dSpans (decFs_cons (mid := 2) rfl rfl (by kernel_rfl) dInt decFs_nil))) (fun p => (⟨p.1, p.2.1⟩ : Mach)) (fun _ _ => rfl) (fun _ h => h.1)
theorem dFnd : Dec Try.prog 32 cFnd (fun c => c.new.length <= 140737488355328 /\ c.frm.length <= 140737488355328) :=
 Dec.map (dec_struct Try.underlying32 (sz := 3) (by kernel_rfl) (decFs_cons (mid := 1) rfl rfl (by kernel_rfl) dInt (decFs_cons (mid := 2) rfl rfl (by kernel_rfl) dInts (decFs_cons (mid := 3) rfl rfl (by kernel_rfl) dInts decFs_nil)))) (fun p => (⟨p.1, p.2.1, p.2.2.1⟩ : Fnd)) (fun _ _ => rfl) (fun _ h => ⟨h.2.1, h.2.2.1⟩)
theorem dMachs : Dec Try.prog 22 (fun l : List Mach => [.sl 2 l.length (fun i => cMach (l.getD i default))]) (fun l => l.length <= 140737488355328 /\ ∀ m, m ∈ l -> m.changes.length <= 140737488355328) :=
 dec_slice (α := Mach) Try.underlying22 (by kernel_rfl) (by decide) (Nat.lt_of_lt_of_eq (by decide : 0 < 32) (by kernel_rfl)) dMach
theorem dFnds : Dec Try.prog 23 (fun l : List Fnd => [.sl 3 l.length (fun i => cFnd (l.getD i default))]) (fun l => l.length <= 140737488355328 /\ ∀ c, c ∈ l -> c.new.length <= 140737488355328 /\ c.frm.length <= 140737488355328) :=
 dec_slice (α := Fnd) Try.underlying23 (by kernel_rfl) (by decide) (Nat.lt_of_lt_of_eq (by decide : 0 < 56) (by kernel_rfl)) dFnd
theorem dRun : Dec Try.prog 25 cRun fits := by
 refine Dec.map (dec_struct Try.underlying25 (sz := 4) (by kernel_rfl) (decFs_cons (mid := 1) rfl rfl (by kernel_rfl) dInt (decFs_cons (mid := 2) rfl rfl (by kernel_rfl) dInt (decFs_cons (mid := 3) rfl rfl (by kernel_rfl) dMachs (decFs_cons (mid := 4) rfl rfl (by kernel_rfl) dFnds decFs_nil))))) (fun p => (⟨p.1, p.2.1, p.2.2.1, p.2.2.2.1⟩ : Run)) (fun _ _ => rfl) (fun p h => ?_)
 obtain ⟨_, _, ⟨h1, h2⟩, ⟨h3, h4⟩, _⟩ := h
 refine ⟨Nat.le_trans h1 (by decide), Nat.le_trans h3 (by decide), fun i => ?_, fun i => ?_⟩
 ·show (p.2.2.1.getD i default).changes.length <= _
  by_cases hi : i < p.2.2.1.length
  ·exact Nat.le_trans (h2 _ (getD_mem _ default hi)) (by decide)
  ·rw [getD_ge _ _ (by omega)]; exact Nat.zero_le _
 ·show (p.2.2.2.1.getD i default).new.length <= _ /\ (p.2.2.2.1.getD i default).frm.length <= _
  by_cases hi : i < p.2.2.2.1.length
  ·have := h4 _ (getD_mem _ default hi)
   exact ⟨Nat.le_trans this.1 (by decide), Nat.le_trans this.2 (by decide)⟩
  ·rw [getD_ge _ _ (by omega)]; exact ⟨Nat.zero_le _, Nat.zero_le _⟩
set_option maxRecDepth 100000
theorem laidOut : laidOutB Try.prog = true := by kernel_rfl
section
variable {H : Type} {enc : TypeId × Value -> H} {W : World} {base : Nat} {v : Value} {d : DataW H} {ps : List MemPlace}
theorem arg_struct {t : TypeId} {fs : Array Field} {α : Type} {c : α -> List AV} {ok : α -> Prop} (ht : Try.prog.underlying t = some (.struct fs)) (hD : Dec Try.prog t c ok) (hval : Value.okWide Try.prog W .any base t v) (hd : DataW.Trod enc Try.prog W 0 (fun _ => true) true t v d ps) (hw : ∀ n ∈ d.weights Try.prog t, n <= reachBytes) :
  ∃ a, ok a /\ Rel (envOf W) true (.agg (c a)) v := by
 unfold Value.okWide at hval
 rw [ht] at hval
 obtain ⟨cs, rfl, _⟩ := hval
 obtain ⟨a, ha, hr⟩ := hD.arg (E := envOf W) (fun _ => rfl) hd hw
 refine ⟨a, ha, ?_⟩
 have h := Rel.agg (hr true)
 simpa [Value.cells] using h
theorem arg_int (hval : Value.okWide Try.prog W .any base 3 v) (hd : DataW.Trod enc Try.prog W 0 (fun _ => true) true 3 v d ps) : ∃ n : Int, (-9223372036854775808 <= n /\ n <= 9223372036854775807) /\ Rel (envOf W) true (iv n) v := by
 obtain ⟨n, rfl, _, _, hw⟩ := ChangeShapes.open_int Try.underlying3 hval hd
 exact ⟨n, lit_wf hw, .lit _⟩
end
theorem weights_part {H : Type} {ts : List TypeId} {ds : List (DataW H)} (h : (DataW.weightsEach Try.prog ts ds).all (· <= reachBytes) = true) {j : Nat} {t : TypeId} {d : DataW H} (ht : ts[j]? = some t) (hd : ds[j]? = some d) : ∀ n ∈ d.weights Try.prog t, n <= reachBytes := by
 intro n hn
 have := List.all_eq_true.1 h _ (DataW.weights_mem_each ht hd n hn)
 simpa using this
theorem law_run2 {f : FuncId} {fn : Func} {s : ChangeSpec} (hps : fn.params = #[25, 3, 3]) (hres : fn.resultTypes = #[4]) (hvars : s.vars = []) (hfn : ∀ (H : Type) (d1 d2 d3 : DataW H), s.fn H [d1, d2, d3] = { results := [.lit (.bool true)], args := [d1, d2, d3] })
  (sp : Run -> Int -> Int -> CallSpec) (ht : ∀ r a b, Triple Try.prog f (sp r a b)) (hargs : ∀ r a b, (sp r a b).args = [vRun r, iv a, iv b]) (hpre : ∀ r a b, fits r -> (-9223372036854775808 <= a /\ a <= 9223372036854775807) -> (-9223372036854775808 <= b /\ b <= 9223372036854775807) -> (sp r a b).pre)
  (hfo : ∀ r a b E, (sp r a b).fnok E) (hin : ∀ r a b, (sp r a b).hin = []) (hout : ∀ r a b, (sp r a b).hout = []) (hr : ∀ r a b, (sp r a b).res = bv true)
  {H : Type} {enc : TypeId × Value -> H} {W : World} {base : Nat} {args : Array Value} {ds gs : List (DataW H)} {before : List MemPlace}
  (hval : ∀ (j : Nat) t v, fn.params[j]? = some t -> args[j]? = some v -> Value.okWide Try.prog W .any base t v) (hW : DataW.Whole enc Try.prog fn.params.toList s.vars false W args.toList ds gs before)
  (hsz : (DataW.weightsEach Try.prog (fn.params.toList ++ s.plain.varTypes Try.prog) (ds ++ gs)).all (· <= reachBytes) = true) :
  Calls Try.prog f args W fun e W' => ∃ v, e = .returned v /\ s.post enc Try.prog fn false true false false W args v W' := by
 have hW' := hW
 obtain ⟨p, q, hA, _, _, _, _⟩ := hW
 rw [hps] at hA hval hsz
 obtain ⟨v0, v1, v2, d0, d1, d2, p0, p1, p2, rfl, rfl, rfl, h0, h1, h2⟩ := ChangeShapes.trodAll_three hA
 obtain ⟨r, hr0, r0⟩ := arg_struct Try.underlying25 dRun (hval 0 25 v0 rfl rfl) h0 (weights_part hsz (j := 0) rfl rfl)
 obtain ⟨a, ha, r1⟩ := arg_int (hval 1 3 v1 rfl rfl) h1
 obtain ⟨b, hb, r2⟩ := arg_int (hval 2 3 v2 rfl rfl) h2
 refine law_contract laidOut hvars hres Try.underlying4 (fun t htt => ?_) (fun _ => hfn H d0 d1 d2) hW' (ht r a b) (hpre r a b hr0 ha hb) (hfo r a b) (hin r a b) (hout r a b) (hr r a b) (by rw [hargs]; rfl) (fun k => ?_)
 ·rw [hps] at htt
  have : t = 25 ∨ t = 3 := by simpa using htt
  rcases this with rfl | rfl
  ·exact ⟨by kernel_rfl, of_decide_eq_true (by kernel_rfl)⟩
  ·exact ⟨by kernel_rfl, of_decide_eq_true (by kernel_rfl)⟩
 ·rw [hargs]
  rcases k with _ | _ | _ | k
  ·exact r0
  ·exact r1
  ·exact r2
  ·exact .any _
end Go.Ab
namespace Go.Proofs.Ytcbgfmalillplaa
open Go Go.Ab Go.Sh Go.En Go.RowKit
set_option maxRecDepth 100000
theorem own : ownKnob Try.prog.godebug = none := by kernel_rfl
def nilArgs : Array Value := #[.agg #[.int .i64 0, .int .i64 0, .slice none 0 0, .slice none 0 0], .int .i64 0, .int .i64 0]
theorem lifted (os : Os) (started : os.Started) (H : Type) (enc : TypeId × Value -> H) :
  ReturnsInHanded {} Try.checked os 7 .any (Rows.copiesEndsSpec.pre6 enc Try.prog Try.f7 Rows.copiesEndsRow.domain false) (Rows.copiesEndsSpec.post enc Try.prog Try.f7 false true false false) := by
 refine returnsInHanded_of_change_sized (C := Try.checked) own started (by kernel_rfl) Try.func7
  (ChangeSpec.witness6 (enc := enc) (C := Try.checked) false ⟨#[], nilArgs, []⟩ 8 (by kernel_rfl) (by kernel_rfl) (by kernel_rfl) (by kernel_rfl)) ?_
 intro W base args ds gs before hval hW _ hsz _
 exact law_run2 Try.params7 rfl rfl (fun _ _ _ _ => rfl) s7 t7 (fun _ _ _ => rfl) (fun _ _ _ h _ _ => h) (fun _ _ _ _ => trivial) (fun _ _ _ => rfl) (fun _ _ _ => rfl) (fun _ _ _ => rfl) hval hW hsz
theorem proved : Rows.CopiesEndsSaid :=
 OpenClaim.holds_of_wide 7 Try.f7 rfl rfl rfl rfl rfl rfl rfl ⟨rfl, rfl, rfl, rfl, rfl⟩ rfl rfl rfl rfl rfl (by kernel_rfl) Try.func7 (by kernel_rfl)
  (of_decide_eq_true (by kernel_rfl)) (by unfold Func.isWrapper; first | (rw [if_pos (by decide +kernel)]; kernel_rfl) | (rw [if_neg (by decide +kernel)]; exact ⟨rfl, rfl⟩))
  (fun os started H enc _ => lifted os started H enc)
end Go.Proofs.Ytcbgfmalillplaa
