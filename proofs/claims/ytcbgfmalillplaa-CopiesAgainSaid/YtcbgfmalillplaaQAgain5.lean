/- Part 5 of the proof: own library, plain forms and walks. -/
import Derived.Test.YtcbgfmalillplaaQAgain4
import Derived.Shelf.Sort.Plain
import Derived.Shelf.Slices.CompactI
import Derived.Test.YtcbgfmalillplaaProg
import Derived.Sort.Grow
import Derived.Lib.SlicesCompact
set_option linter.all false
set_option linter.deprecated false
namespace Go.Ab
open Go Go.RowKit Go.Proofs Go.Sh Go.En
abbrev q41_1 (r : Run) (C : Prop) : Prop := fits r -> (!decide (openE r true = 0)) = false -> C
abbrev q41_2 (r : Run) (C : Nat -> Prop) : Prop := q41_1 r (∀ (x2 : Nat), x2 <= r.machines.length -> decide ((x2 : Int) < (↑(r.machines.length) : Int)) = true -> C x2)
abbrev q41_3 (r : Run) (C : Nat -> Nat -> Prop) : Prop := q41_2 r fun x2 => ∀ (x6 : Nat), x6 <= r.plates.toNat -> decide ((x6 : Int) < (↑(r.plates.toNat) : Int)) = true -> C x2 x6
abbrev q41_4 (r : Run) (C : Nat -> Nat -> Prop) : Prop := q41_2 r fun x2 => ∀ (x6 : Nat), x6 <= r.plates.toNat -> decide ((x6 : Int) < (↑(r.plates.toNat) : Int)) = false -> C x2 x6
abbrev q41_5 (r : Run) (C : Nat -> Prop) : Prop := q41_1 r (∀ (x2 : Nat), x2 <= r.machines.length -> decide ((x2 : Int) < (↑(r.machines.length) : Int)) = false -> C x2)
theorem w41 (r : Run)
 (o0 : fits r -> (!decide (openE r true = 0)) -> (truthP r).minutes.length = 0)
 (o1 : fits r -> (!decide (openE r true = 0)) -> (truthP r).frm.length = 0)
 (o2 : q41_1 r (0 < (↑((openL r true).length) : Int)))
 (o3 : q41_1 r (0 = (↑0 : Int)))
 (o4 : q41_1 r (0 <= r.machines.length))
 (o5 : q41_2 r fun x2 => 0 < (↑((openL r true).length) : Int))
 (o6 : q41_2 r fun x2 => 0 <= (x2 : Int))
 (o7 : q41_2 r fun x2 => (x2 : Int) < (↑3 : Int))
 (o8 : q41_2 r fun x2 => (x2 : Int) < (↑3 : Int))
 (o9 : q41_2 r fun x2 => 0 <= r.plates)
 (o10 : q41_2 r fun x2 => r.plates <= (↑3 : Int))
 (o11 : q41_2 r fun x2 => 0 = (↑0 : Int))
 (o12 : q41_2 r fun x2 => 0 <= r.plates.toNat)
 (o13 : q41_3 r fun x2 x6 => 0 <= (x6 : Int))
 (o14 : q41_3 r fun x2 x6 => (x6 : Int) < (↑(r.plates.toNat) : Int))
 (o15 : q41_3 r fun x2 x6 => x6 + 1 <= 65536)
 (o16 : q41_3 r fun x2 x6 => inI ((x6 : Int) + 1))
 (o17 : q41_3 r fun x2 x6 => (x6 : Int) + 1 = (↑(x6 + 1) : Int))
 (o18 : q41_3 r fun x2 x6 => ∀ (i12 : Nat), i12 < x6 + 1 -> catF x6 (fun (k : Nat) => [iv ((wRow ((openL r true).getD 0 default) x2 r.plates.toNat).getD k 0)]) (fun (j : Nat) => List.getD [[iv (((openL r true).getD 0 default).whn x2 x6).lo]] j (TI.za ti3)) i12 = [iv ((wRow ((openL r true).getD 0 default) x2 r.plates.toNat).getD i12 0)])
 (o19 : q41_3 r fun x2 x6 => x6 + 1 <= r.plates.toNat)
 (o20 : q41_3 r fun x2 x6 => r.plates.toNat - (x6 + 1) < r.plates.toNat - x6)
 (o21 : q41_4 r fun x2 x6 => x2 + 1 <= 65536)
 (o22 : q41_4 r fun x2 x6 => inI ((x2 : Int) + 1))
 (o23 : q41_4 r fun x2 x6 => (x2 : Int) + 1 = (↑(x2 + 1) : Int))
 (o24 : q41_4 r fun x2 x6 => ∀ (i16 : Nat), i16 < x2 + 1 -> catF x2 (fun (k : Nat) => [aInts (wRow ((openL r true).getD 0 default) k r.plates.toNat)]) (fun (j : Nat) => List.getD [[AV.sl 1 x6 fun (k : Nat) => [iv ((wRow ((openL r true).getD 0 default) x2 r.plates.toNat).getD k 0)]]] j (TI.za ti30)) i16 = [aInts (wRow ((openL r true).getD 0 default) i16 r.plates.toNat)])
 (o25 : q41_4 r fun x2 x6 => x2 + 1 <= r.machines.length)
 (o26 : q41_4 r fun x2 x6 => r.machines.length - (x2 + 1) < r.machines.length - x2)
 (o27 : q41_5 r fun x2 => x2 = (truthP r).minutes.length)
 (o28 : q41_5 r fun x2 => ∀ (i18 : Nat), i18 < (truthP r).minutes.length -> [aInts (wRow ((openL r true).getD 0 default) i18 r.plates.toNat)] = [aInts ((truthP r).minutes.getD i18 [])])
 (o29 : q41_5 r fun x2 => ((openL r true).getD 0 default).frm.length = (truthP r).frm.length)
 (o30 : q41_5 r fun x2 => ∀ (i20 : Nat), i20 < (truthP r).frm.length -> [iv (((openL r true).getD 0 default).frm.getD i20 0)] = [iv ((truthP r).frm.getD i20 0)])
 (o31 : q41_5 r fun x2 => 0 = openE r true) :
  Triple Try.prog 41 (s41 r) := by
 refine triple_of Try.func41 rfl Try.call41 T0_ok _ rfl rfl rfl rfl (Nat.le_of_ble_eq_true (by kernel_rfl)) (fun _ _ _ _ h => h) ?_
 intro hp C hC _ hE
 obtain ⟨P, w0, E0, av, hA⟩ := C
 subst hC
 refine swp_seq ?_
 refine sR (kt := [1, 2]) (kh := [0, 8]) (q := True /\ True /\ True /\ True) (st' := ASt.mk [(1, .ptr 0 []), (2, .ptr 8 [])] [(0, .cells 25 (cRun r)), (8, .cells 56 [nilv, nilv])] 24) (by kernel_rfl) ⟨tv, tv, tv, tv⟩ ?_
 refine swp_seq ?_
 refine swp_region T0_ok mixed (cs := [(1, CallSpec.eq (s78 r true) [true, true])]) (kt := [1, 2, 4, 5]) (kh := [0, 8]) (q := True /\ ((AV.agg (cRun r) = AV.agg (cRun r) /\ bv true = bv true /\ True) /\ Triple Try.prog 78 (s78 r true) /\ fits r /\ True /\ ∀ (i0 : Env), True) /\ True /\ True /\ True /\ True /\ True /\ True) (st' := ASt.mk [(1, .ptr 0 []), (2, .ptr 8 []), (4, aWays (openL r true)), (5, iv (openE r true))] [(0, .cells 25 (cRun r)), (8, .cells 56 [nilv, nilv])] 80) (by kernel_rfl) ⟨tv, ⟨⟨rfl, rfl, tv⟩, (t78 (r) (true)), hp, tv, (fun i0 => tv)⟩, tv, tv, tv, tv, tv, tv⟩ ?_
 refine swp_seq (swp_seq ?_)
 refine sR (kt := [1, 2, 4, 5, 17]) (kh := [0, 8]) (q := True /\ True /\ True) (st' := ASt.mk [(1, .ptr 0 []), (2, .ptr 8 []), (4, aWays (openL r true)), (5, iv (openE r true)), (17, bv !decide (openE r true = 0))] [(0, .cells 25 (cRun r)), (8, .cells 56 [nilv, nilv])] 96) (by kernel_rfl) ⟨tv, tv, tv⟩ ?_
 refine swp_cond (!decide (openE r true = 0)) (by kernel_rfl) (fun h1 => ?_) (fun h1 => ?_)
 ·refine swp_seq ?_
  refine sR (kt := [2, 3]) (kh := [8]) (q := True /\ True /\ True /\ True /\ True) (st' := ASt.mk [(2, .ptr 8 []), (3, iv (openE r true))] [(8, .cells 56 [nilv, nilv])] 128) (by kernel_rfl) ⟨tv, tv, tv, tv, tv⟩ ?_
  refine swp_ret ?_
  exact ret_q [] ((True /\ True /\ True) /\ (((truthP r).minutes.length = 0 /\ (truthP r).frm.length = 0 /\ True) /\ (iv (openE r true) = iv (openE r true) /\ nilN = []) /\ True) /\ T3) (by kernel_rfl) ⟨⟨tv, tv, tv⟩, ⟨⟨(o0 hp h1), (o1 hp h1), tv⟩, ⟨rfl, rfl⟩, tv⟩, rfl, rfl, rfl⟩
 ·refine swp_skip (swp_seq ?_)
  refine sR (kt := [1, 2, 4, 6]) (kh := [0, 8, 136]) (q := True /\ (Int.ofNat 0 <= Int.ofNat 0 /\ 0 < (↑((openL r true).length) : Int)) /\ True /\ True /\ True /\ True /\ True /\ True) (st' := ASt.mk [(1, .ptr 0 []), (2, .ptr 8 []), (4, aWays (openL r true)), (6, .ptr 136 [])] [(0, .cells 25 (cRun r)), (8, .cells 56 [nilv, nilv]), (136, .cells 56 [nilv, aInts ((openL r true).getD 0 default).frm])] 152) (by kernel_rfl) ⟨tv, ⟨(by decide), (o2 hp h1)⟩, tv, tv, tv, tv, tv, tv⟩ ?_
  refine swp_seq (swp_seq ?_)
  refine sR (kt := [1, 2, 4, 6, 27, 28]) (kh := [0, 8, 136]) (q := True /\ True /\ True /\ True /\ True) (st' := ASt.mk [(1, .ptr 0 []), (2, .ptr 8 []), (4, aWays (openL r true)), (6, .ptr 136 []), (27, iv (↑(r.machines.length) : Int)), (28, iv 0)] [(0, .cells 25 (cRun r)), (8, .cells 56 [nilv, nilv]), (136, .cells 56 [nilv, aInts ((openL r true).getD 0 default).frm])] 184) (by kernel_rfl) ⟨tv, tv, tv, tv, tv⟩ ?_
  refine swp_block ?_
  refine swp_loopA (Hint.ann (h41a r) [(1, AV.ptr 0 []), (2, AV.ptr 8 []), (4, aWays (openL r true)), (27, iv (↑(r.machines.length) : Int))] [(0, OB.cells 25 (cRun r)), (8, OB.cells 56 [nilv, nilv])] 10184) (ent_q hE [] [(0, .same 0), (8, .same 8), (5000, .same 136), (5001, .nil)] [4, 27] [0, 8] (((some (Src.same 0) = some (Src.same 0) /\ nilP = []) /\ (some (Src.same 8) = some (Src.same 8) /\ nilP = []) /\ (aWays (openL r true) = aWays (openL r true) /\ true = true) /\ (iv (↑(r.machines.length) : Int) = iv (↑(r.machines.length) : Int) /\ true = true) /\ (iv 0 = iv (↑0 : Int) /\ nilN = []) /\ (some (Src.same 136) = some (Src.same 136) /\ nilP = []) /\ True) /\ ((OB.cells 25 (cRun r) = OB.cells 25 (cRun r) /\ true = true) /\ (OB.cells 56 [nilv, nilv] = OB.cells 56 [nilv, nilv] /\ true = true) /\ (56 = 56 /\ (some Src.nil = some Src.nil /\ (1 = 1 /\ ((openL r true).getD 0 default).frm.length = ((openL r true).getD 0 default).frm.length /\ ∀ (i3 : Nat), i3 < ((openL r true).getD 0 default).frm.length -> [iv (((openL r true).getD 0 default).frm.getD i3 0)] = [iv (((openL r true).getD 0 default).frm.getD i3 0)]) /\ True) /\ true = true) /\ 0 = 0 /\ True) /\ T2) (by kernel_rfl) (by kernel_rfl) ⟨⟨⟨rfl, rfl⟩, ⟨rfl, rfl⟩, ⟨rfl, rfl⟩, ⟨rfl, rfl⟩, ⟨(congrArg iv (o3 hp h1)), rfl⟩, ⟨rfl, rfl⟩, tv⟩, ⟨⟨rfl, rfl⟩, ⟨rfl, rfl⟩, ⟨rfl, ⟨rfl, ⟨rfl, rfl, (fun i3 => (fun h4 => rfl))⟩, tv⟩, rfl⟩, rfl, tv⟩, rfl, rfl⟩) (o4 hp h1) (fun (x2 : Nat) hx2 => ?_)
  refine swp_seq ?_
  refine sR (kt := [1, 2, 4, 27, 28, 6, 29]) (kh := [0, 8, 5000, 5001]) (q := True /\ True) (st' := ASt.mk [(1, .ptr 0 []), (2, .ptr 8 []), (4, aWays (openL r true)), (27, iv (↑(r.machines.length) : Int)), (28, iv (x2 : Int)), (6, .ptr 5000 []), (29, bv (decide ((x2 : Int) < (↑(r.machines.length) : Int))))] [(0, .cells 25 (cRun r)), (8, .cells 56 [nilv, nilv]), (5000, .cells 56 [.vec 5001, aInts ((openL r true).getD 0 default).frm]), (5001, .vec 30 1 x2 fun (k : Nat) => [aInts (wRow ((openL r true).getD 0 default) k r.plates.toNat)])] 10192) (by kernel_rfl) ⟨tv, tv⟩ ?_
  refine swp_seq ?_
  refine swp_cond (decide ((x2 : Int) < (↑(r.machines.length) : Int))) (by kernel_rfl) (fun h5 => ?_) (fun h5 => ?_)
  ·refine swp_skip (swp_seq (swp_block (swp_seq ?_)))
   refine sR (kt := [1, 2, 4, 27, 28, 6, 7]) (kh := [0, 8, 5000, 5001]) (q := True /\ True /\ True) (st' := ASt.mk [(1, .ptr 0 []), (2, .ptr 8 []), (4, aWays (openL r true)), (27, iv (↑(r.machines.length) : Int)), (28, iv (x2 : Int)), (6, .ptr 5000 []), (7, iv (x2 : Int))] [(0, .cells 25 (cRun r)), (8, .cells 56 [nilv, nilv]), (5000, .cells 56 [.vec 5001, aInts ((openL r true).getD 0 default).frm]), (5001, .vec 30 1 x2 fun (k : Nat) => [aInts (wRow ((openL r true).getD 0 default) k r.plates.toNat)])] 10208) (by kernel_rfl) ⟨tv, tv, tv⟩ ?_
   refine swp_seq ?_
   refine sR (kt := [1, 2, 4, 27, 28, 6, 7, 8]) (kh := [0, 8, 5000, 5001]) (q := True /\ True) (st' := ASt.mk [(1, .ptr 0 []), (2, .ptr 8 []), (4, aWays (openL r true)), (27, iv (↑(r.machines.length) : Int)), (28, iv (x2 : Int)), (6, .ptr 5000 []), (7, iv (x2 : Int)), (8, nilv)] [(0, .cells 25 (cRun r)), (8, .cells 56 [nilv, nilv]), (5000, .cells 56 [.vec 5001, aInts ((openL r true).getD 0 default).frm]), (5001, .vec 30 1 x2 fun (k : Nat) => [aInts (wRow ((openL r true).getD 0 default) k r.plates.toNat)])] 10216) (by kernel_rfl) ⟨tv, tv⟩ ?_
   refine swp_seq (swp_seq ?_)
   refine sR (kt := [1, 2, 4, 27, 28, 6, 8, 38, 39, 40]) (kh := [0, 8, 5000, 5001]) (q := True /\ True /\ (Int.ofNat 0 <= Int.ofNat 0 /\ 0 < (↑((openL r true).length) : Int)) /\ True /\ (0 <= (x2 : Int) /\ (x2 : Int) < (↑3 : Int) /\ (x2 : Int) < (↑3 : Int)) /\ True /\ True /\ (0 <= r.plates /\ r.plates <= (↑3 : Int)) /\ True /\ True /\ True) (st' := ASt.mk [(1, .ptr 0 []), (2, .ptr 8 []), (4, aWays (openL r true)), (27, iv (↑(r.machines.length) : Int)), (28, iv (x2 : Int)), (6, .ptr 5000 []), (8, nilv), (38, .sl 2 r.plates.toNat fun (p : Nat) => cSpan (((openL r true).getD 0 default).whn x2 p)), (39, iv (↑(r.plates.toNat) : Int)), (40, iv 0)] [(0, .cells 25 (cRun r)), (8, .cells 56 [nilv, nilv]), (5000, .cells 56 [.vec 5001, aInts ((openL r true).getD 0 default).frm]), (5001, .vec 30 1 x2 fun (k : Nat) => [aInts (wRow ((openL r true).getD 0 default) k r.plates.toNat)])] 10296) (by kernel_rfl) ⟨tv, tv, ⟨(by decide), (o5 hp h1 x2 hx2 h5)⟩, tv, ⟨(o6 hp h1 x2 hx2 h5), (o7 hp h1 x2 hx2 h5), (o8 hp h1 x2 hx2 h5)⟩, tv, tv, ⟨(o9 hp h1 x2 hx2 h5), (o10 hp h1 x2 hx2 h5)⟩, tv, tv, tv⟩ ?_
   refine swp_block ?_
   refine swp_loopA (Hint.ann (h41b r x2) [(1, AV.ptr 0 []), (2, AV.ptr 8 []), (4, aWays (openL r true)), (27, iv (↑(r.machines.length) : Int)), (28, iv (x2 : Int)), (6, AV.ptr 5000 []), (38, AV.sl 2 r.plates.toNat fun (p : Nat) => cSpan (((openL r true).getD 0 default).whn x2 p)), (39, iv (↑(r.plates.toNat) : Int))] [(0, OB.cells 25 (cRun r)), (8, OB.cells 56 [nilv, nilv]), (5000, OB.cells 56 [AV.vec 5001, aInts ((openL r true).getD 0 default).frm]), (5001, OB.vec 30 1 x2 fun (k : Nat) => [aInts (wRow ((openL r true).getD 0 default) k r.plates.toNat)])] 20296) (ent_q hE [] [(0, .same 0), (8, .same 8), (5000, .same 5000), (5001, .same 5001), (5002, .nil)] [4, 27, 28, 38, 39] [0, 8, 5001] (((some (Src.same 0) = some (Src.same 0) /\ nilP = []) /\ (some (Src.same 8) = some (Src.same 8) /\ nilP = []) /\ (aWays (openL r true) = aWays (openL r true) /\ true = true) /\ (iv (↑(r.machines.length) : Int) = iv (↑(r.machines.length) : Int) /\ true = true) /\ (iv (x2 : Int) = iv (x2 : Int) /\ true = true) /\ (some (Src.same 5000) = some (Src.same 5000) /\ nilP = []) /\ (((AV.sl 2 r.plates.toNat fun (p : Nat) => cSpan (((openL r true).getD 0 default).whn x2 p)) = AV.sl 2 r.plates.toNat fun (p : Nat) => cSpan (((openL r true).getD 0 default).whn x2 p)) /\ true = true) /\ (iv (↑(r.plates.toNat) : Int) = iv (↑(r.plates.toNat) : Int) /\ true = true) /\ (iv 0 = iv (↑0 : Int) /\ nilN = []) /\ some Src.nil = some Src.nil /\ True) /\ ((OB.cells 25 (cRun r) = OB.cells 25 (cRun r) /\ true = true) /\ (OB.cells 56 [nilv, nilv] = OB.cells 56 [nilv, nilv] /\ true = true) /\ (56 = 56 /\ (some (Src.same 5001) = some (Src.same 5001) /\ (1 = 1 /\ ((openL r true).getD 0 default).frm.length = ((openL r true).getD 0 default).frm.length /\ ∀ (i7 : Nat), i7 < ((openL r true).getD 0 default).frm.length -> [iv (((openL r true).getD 0 default).frm.getD i7 0)] = [iv (((openL r true).getD 0 default).frm.getD i7 0)]) /\ True) /\ true = true) /\ (((OB.vec 30 1 x2 fun (k : Nat) => [aInts (wRow ((openL r true).getD 0 default) k r.plates.toNat)]) = OB.vec 30 1 x2 fun (k : Nat) => [aInts (wRow ((openL r true).getD 0 default) k r.plates.toNat)]) /\ true = true) /\ 0 = 0 /\ True) /\ T2) (by kernel_rfl) (by kernel_rfl) ⟨⟨⟨rfl, rfl⟩, ⟨rfl, rfl⟩, ⟨rfl, rfl⟩, ⟨rfl, rfl⟩, ⟨rfl, rfl⟩, ⟨rfl, rfl⟩, ⟨rfl, rfl⟩, ⟨rfl, rfl⟩, ⟨(congrArg iv (o11 hp h1 x2 hx2 h5)), rfl⟩, rfl, tv⟩, ⟨⟨rfl, rfl⟩, ⟨rfl, rfl⟩, ⟨rfl, ⟨rfl, ⟨rfl, rfl, (fun i7 => (fun h8 => rfl))⟩, tv⟩, rfl⟩, ⟨rfl, rfl⟩, rfl, tv⟩, rfl, rfl⟩) (o12 hp h1 x2 hx2 h5) (fun (x6 : Nat) hx6 => ?_)
   refine swp_seq ?_
   refine sR (kt := [1, 2, 4, 27, 28, 6, 38, 39, 40, 8, 41]) (kh := [0, 8, 5000, 5002, 5001]) (q := True /\ True) (st' := ASt.mk [(1, .ptr 0 []), (2, .ptr 8 []), (4, aWays (openL r true)), (27, iv (↑(r.machines.length) : Int)), (28, iv (x2 : Int)), (6, .ptr 5000 []), (38, .sl 2 r.plates.toNat fun (p : Nat) => cSpan (((openL r true).getD 0 default).whn x2 p)), (39, iv (↑(r.plates.toNat) : Int)), (40, iv (x6 : Int)), (8, .vec 5002), (41, bv (decide ((x6 : Int) < (↑(r.plates.toNat) : Int))))] [(0, .cells 25 (cRun r)), (8, .cells 56 [nilv, nilv]), (5000, .cells 56 [.vec 5001, aInts ((openL r true).getD 0 default).frm]), (5002, .vec 3 1 x6 fun (k : Nat) => [iv ((wRow ((openL r true).getD 0 default) x2 r.plates.toNat).getD k 0)]), (5001, .vec 30 1 x2 fun (k : Nat) => [aInts (wRow ((openL r true).getD 0 default) k r.plates.toNat)])] 20304) (by kernel_rfl) ⟨tv, tv⟩ ?_
   refine swp_seq ?_
   refine swp_cond (decide ((x6 : Int) < (↑(r.plates.toNat) : Int))) (by kernel_rfl) (fun h9 => ?_) (fun h9 => ?_)
   ·refine swp_skip (swp_seq (swp_block (swp_seq ?_)))
    refine sR (kt := [1, 2, 4, 27, 28, 6, 38, 39, 40, 8, 10]) (kh := [0, 8, 5000, 5002, 20320, 5001]) (q := (0 <= (x6 : Int) /\ (x6 : Int) < (↑(r.plates.toNat) : Int)) /\ True /\ True /\ True /\ True) (st' := ASt.mk [(1, .ptr 0 []), (2, .ptr 8 []), (4, aWays (openL r true)), (27, iv (↑(r.machines.length) : Int)), (28, iv (x2 : Int)), (6, .ptr 5000 []), (38, .sl 2 r.plates.toNat fun (p : Nat) => cSpan (((openL r true).getD 0 default).whn x2 p)), (39, iv (↑(r.plates.toNat) : Int)), (40, iv (x6 : Int)), (8, .vec 5002), (10, .ptr 20320 [])] [(0, .cells 25 (cRun r)), (8, .cells 56 [nilv, nilv]), (5000, .cells 56 [.vec 5001, aInts ((openL r true).getD 0 default).frm]), (5002, .vec 3 1 x6 fun (k : Nat) => [iv ((wRow ((openL r true).getD 0 default) x2 r.plates.toNat).getD k 0)]), (20320, .cells 37 (cSpan (((openL r true).getD 0 default).whn x2 x6))), (5001, .vec 30 1 x2 fun (k : Nat) => [aInts (wRow ((openL r true).getD 0 default) k r.plates.toNat)])] 20336) (by kernel_rfl) ⟨⟨(o13 hp h1 x2 hx2 h5 x6 hx6 h9), (o14 hp h1 x2 hx2 h5 x6 hx6 h9)⟩, tv, tv, tv, tv⟩ ?_
    refine sR (kt := [1, 2, 4, 27, 28, 6, 38, 39, 40, 8]) (kh := [0, 8, 5000, 20368, 5001]) (q := True /\ True /\ True /\ True /\ x6 + 1 <= 65536 /\ True /\ True) (st' := ASt.mk [(1, .ptr 0 []), (2, .ptr 8 []), (4, aWays (openL r true)), (27, iv (↑(r.machines.length) : Int)), (28, iv (x2 : Int)), (6, .ptr 5000 []), (38, .sl 2 r.plates.toNat fun (p : Nat) => cSpan (((openL r true).getD 0 default).whn x2 p)), (39, iv (↑(r.plates.toNat) : Int)), (40, iv (x6 : Int)), (8, .vec 20368)] [(0, .cells 25 (cRun r)), (8, .cells 56 [nilv, nilv]), (5000, .cells 56 [.vec 5001, aInts ((openL r true).getD 0 default).frm]), (20368, .vec 3 1 (x6 + 1) (catF x6 (fun (k : Nat) => [iv ((wRow ((openL r true).getD 0 default) x2 r.plates.toNat).getD k 0)]) fun (j : Nat) => List.getD [[iv (((openL r true).getD 0 default).whn x2 x6).lo]] j (TI.za ti3))), (5001, .vec 30 1 x2 fun (k : Nat) => [aInts (wRow ((openL r true).getD 0 default) k r.plates.toNat)])] 20384) (by kernel_rfl) ⟨tv, tv, tv, tv, (o15 hp h1 x2 hx2 h5 x6 hx6 h9), tv, tv⟩ ?_
    refine sR (kt := [1, 2, 4, 27, 28, 6, 38, 39, 40, 8]) (kh := [0, 8, 5000, 20368, 5001]) (q := inI ((x6 : Int) + 1) /\ True /\ True) (st' := ASt.mk [(1, .ptr 0 []), (2, .ptr 8 []), (4, aWays (openL r true)), (27, iv (↑(r.machines.length) : Int)), (28, iv (x2 : Int)), (6, .ptr 5000 []), (38, .sl 2 r.plates.toNat fun (p : Nat) => cSpan (((openL r true).getD 0 default).whn x2 p)), (39, iv (↑(r.plates.toNat) : Int)), (40, iv ((x6 : Int) + 1)), (8, .vec 20368)] [(0, .cells 25 (cRun r)), (8, .cells 56 [nilv, nilv]), (5000, .cells 56 [.vec 5001, aInts ((openL r true).getD 0 default).frm]), (20368, .vec 3 1 (x6 + 1) (catF x6 (fun (k : Nat) => [iv ((wRow ((openL r true).getD 0 default) x2 r.plates.toNat).getD k 0)]) fun (j : Nat) => List.getD [[iv (((openL r true).getD 0 default).whn x2 x6).lo]] j (TI.za ti3))), (5001, .vec 30 1 x2 fun (k : Nat) => [aInts (wRow ((openL r true).getD 0 default) k r.plates.toNat)])] 20400) (by kernel_rfl) ⟨(o16 hp h1 x2 hx2 h5 x6 hx6 h9), tv, tv⟩ ?_
    exact loop_next (Hint.ann (h41b r x2) [(1, AV.ptr 0 []), (2, AV.ptr 8 []), (4, aWays (openL r true)), (27, iv (↑(r.machines.length) : Int)), (28, iv (x2 : Int)), (6, AV.ptr 5000 []), (38, AV.sl 2 r.plates.toNat fun (p : Nat) => cSpan (((openL r true).getD 0 default).whn x2 p)), (39, iv (↑(r.plates.toNat) : Int))] [(0, OB.cells 25 (cRun r)), (8, OB.cells 56 [nilv, nilv]), (5000, OB.cells 56 [AV.vec 5001, aInts ((openL r true).getD 0 default).frm]), (5001, OB.vec 30 1 x2 fun (k : Nat) => [aInts (wRow ((openL r true).getD 0 default) k r.plates.toNat)])] 20296) x6 (ent_q hE [] [(0, .same 0), (8, .same 8), (5000, .same 5000), (5001, .same 5001), (5002, .same 20368)] [4, 27, 28, 38, 39] [0, 8, 5001] (((some (Src.same 0) = some (Src.same 0) /\ nilP = []) /\ (some (Src.same 8) = some (Src.same 8) /\ nilP = []) /\ (aWays (openL r true) = aWays (openL r true) /\ true = true) /\ (iv (↑(r.machines.length) : Int) = iv (↑(r.machines.length) : Int) /\ true = true) /\ (iv (x2 : Int) = iv (x2 : Int) /\ true = true) /\ (some (Src.same 5000) = some (Src.same 5000) /\ nilP = []) /\ (((AV.sl 2 r.plates.toNat fun (p : Nat) => cSpan (((openL r true).getD 0 default).whn x2 p)) = AV.sl 2 r.plates.toNat fun (p : Nat) => cSpan (((openL r true).getD 0 default).whn x2 p)) /\ true = true) /\ (iv (↑(r.plates.toNat) : Int) = iv (↑(r.plates.toNat) : Int) /\ true = true) /\ (iv ((x6 : Int) + 1) = iv (↑(x6 + 1) : Int) /\ nilN = []) /\ some (Src.same 20368) = some (Src.same 20368) /\ True) /\ ((OB.cells 25 (cRun r) = OB.cells 25 (cRun r) /\ true = true) /\ (OB.cells 56 [nilv, nilv] = OB.cells 56 [nilv, nilv] /\ true = true) /\ (56 = 56 /\ (some (Src.same 5001) = some (Src.same 5001) /\ (1 = 1 /\ ((openL r true).getD 0 default).frm.length = ((openL r true).getD 0 default).frm.length /\ ∀ (i10 : Nat), i10 < ((openL r true).getD 0 default).frm.length -> [iv (((openL r true).getD 0 default).frm.getD i10 0)] = [iv (((openL r true).getD 0 default).frm.getD i10 0)]) /\ True) /\ true = true) /\ (((OB.vec 30 1 x2 fun (k : Nat) => [aInts (wRow ((openL r true).getD 0 default) k r.plates.toNat)]) = OB.vec 30 1 x2 fun (k : Nat) => [aInts (wRow ((openL r true).getD 0 default) k r.plates.toNat)]) /\ true = true) /\ (3 = 3 /\ 1 = 1 /\ x6 + 1 = x6 + 1 /\ ∀ (i12 : Nat), i12 < x6 + 1 -> catF x6 (fun (k : Nat) => [iv ((wRow ((openL r true).getD 0 default) x2 r.plates.toNat).getD k 0)]) (fun (j : Nat) => List.getD [[iv (((openL r true).getD 0 default).whn x2 x6).lo]] j (TI.za ti3)) i12 = [iv ((wRow ((openL r true).getD 0 default) x2 r.plates.toNat).getD i12 0)]) /\ True) /\ T2) (by kernel_rfl) (by kernel_rfl) ⟨⟨⟨rfl, rfl⟩, ⟨rfl, rfl⟩, ⟨rfl, rfl⟩, ⟨rfl, rfl⟩, ⟨rfl, rfl⟩, ⟨rfl, rfl⟩, ⟨rfl, rfl⟩, ⟨rfl, rfl⟩, ⟨(congrArg iv (o17 hp h1 x2 hx2 h5 x6 hx6 h9)), rfl⟩, rfl, tv⟩, ⟨⟨rfl, rfl⟩, ⟨rfl, rfl⟩, ⟨rfl, ⟨rfl, ⟨rfl, rfl, (fun i10 => (fun h11 => rfl))⟩, tv⟩, rfl⟩, ⟨rfl, rfl⟩, ⟨rfl, rfl, rfl, (fun i12 => (fun h13 => (o18 hp h1 x2 hx2 h5 x6 hx6 h9 i12 h13)))⟩, tv⟩, rfl, rfl⟩) (o19 hp h1 x2 hx2 h5 x6 hx6 h9) (o20 hp h1 x2 hx2 h5 x6 hx6 h9)
   ·refine swp_exit ?_
    refine sR (kt := [1, 2, 4, 27, 28, 6]) (kh := [0, 8, 5000, 20336]) (q := True /\ True /\ True /\ True /\ x2 + 1 <= 65536 /\ True /\ True /\ True) (st' := ASt.mk [(1, .ptr 0 []), (2, .ptr 8 []), (4, aWays (openL r true)), (27, iv (↑(r.machines.length) : Int)), (28, iv (x2 : Int)), (6, .ptr 5000 [])] [(0, .cells 25 (cRun r)), (8, .cells 56 [nilv, nilv]), (5000, .cells 56 [.vec 20336, aInts ((openL r true).getD 0 default).frm]), (20336, .vec 30 1 (x2 + 1) (catF x2 (fun (k : Nat) => [aInts (wRow ((openL r true).getD 0 default) k r.plates.toNat)]) fun (j : Nat) => List.getD [[.sl 1 x6 fun (k : Nat) => [iv ((wRow ((openL r true).getD 0 default) x2 r.plates.toNat).getD k 0)]]] j (TI.za ti30)))] 20360) (by kernel_rfl) ⟨tv, tv, tv, tv, (o21 hp h1 x2 hx2 h5 x6 hx6 h9), tv, tv, tv⟩ ?_
    refine sR (kt := [1, 2, 4, 27, 28, 6]) (kh := [0, 8, 5000, 20336]) (q := inI ((x2 : Int) + 1) /\ True /\ True) (st' := ASt.mk [(1, .ptr 0 []), (2, .ptr 8 []), (4, aWays (openL r true)), (27, iv (↑(r.machines.length) : Int)), (28, iv ((x2 : Int) + 1)), (6, .ptr 5000 [])] [(0, .cells 25 (cRun r)), (8, .cells 56 [nilv, nilv]), (5000, .cells 56 [.vec 20336, aInts ((openL r true).getD 0 default).frm]), (20336, .vec 30 1 (x2 + 1) (catF x2 (fun (k : Nat) => [aInts (wRow ((openL r true).getD 0 default) k r.plates.toNat)]) fun (j : Nat) => List.getD [[.sl 1 x6 fun (k : Nat) => [iv ((wRow ((openL r true).getD 0 default) x2 r.plates.toNat).getD k 0)]]] j (TI.za ti30)))] 20376) (by kernel_rfl) ⟨(o22 hp h1 x2 hx2 h5 x6 hx6 h9), tv, tv⟩ ?_
    exact loop_next (Hint.ann (h41a r) [(1, AV.ptr 0 []), (2, AV.ptr 8 []), (4, aWays (openL r true)), (27, iv (↑(r.machines.length) : Int))] [(0, OB.cells 25 (cRun r)), (8, OB.cells 56 [nilv, nilv])] 10184) x2 (ent_q hE [] [(0, .same 0), (8, .same 8), (5000, .same 5000), (5001, .same 20336)] [4, 27] [0, 8] (((some (Src.same 0) = some (Src.same 0) /\ nilP = []) /\ (some (Src.same 8) = some (Src.same 8) /\ nilP = []) /\ (aWays (openL r true) = aWays (openL r true) /\ true = true) /\ (iv (↑(r.machines.length) : Int) = iv (↑(r.machines.length) : Int) /\ true = true) /\ (iv ((x2 : Int) + 1) = iv (↑(x2 + 1) : Int) /\ nilN = []) /\ (some (Src.same 5000) = some (Src.same 5000) /\ nilP = []) /\ True) /\ ((OB.cells 25 (cRun r) = OB.cells 25 (cRun r) /\ true = true) /\ (OB.cells 56 [nilv, nilv] = OB.cells 56 [nilv, nilv] /\ true = true) /\ (56 = 56 /\ (some (Src.same 20336) = some (Src.same 20336) /\ (1 = 1 /\ ((openL r true).getD 0 default).frm.length = ((openL r true).getD 0 default).frm.length /\ ∀ (i14 : Nat), i14 < ((openL r true).getD 0 default).frm.length -> [iv (((openL r true).getD 0 default).frm.getD i14 0)] = [iv (((openL r true).getD 0 default).frm.getD i14 0)]) /\ True) /\ true = true) /\ (30 = 30 /\ 1 = 1 /\ x2 + 1 = x2 + 1 /\ ∀ (i16 : Nat), i16 < x2 + 1 -> catF x2 (fun (k : Nat) => [aInts (wRow ((openL r true).getD 0 default) k r.plates.toNat)]) (fun (j : Nat) => List.getD [[AV.sl 1 x6 fun (k : Nat) => [iv ((wRow ((openL r true).getD 0 default) x2 r.plates.toNat).getD k 0)]]] j (TI.za ti30)) i16 = [aInts (wRow ((openL r true).getD 0 default) i16 r.plates.toNat)]) /\ True) /\ T2) (by kernel_rfl) (by kernel_rfl) ⟨⟨⟨rfl, rfl⟩, ⟨rfl, rfl⟩, ⟨rfl, rfl⟩, ⟨rfl, rfl⟩, ⟨(congrArg iv (o23 hp h1 x2 hx2 h5 x6 hx6 h9)), rfl⟩, ⟨rfl, rfl⟩, tv⟩, ⟨⟨rfl, rfl⟩, ⟨rfl, rfl⟩, ⟨rfl, ⟨rfl, ⟨rfl, rfl, (fun i14 => (fun h15 => rfl))⟩, tv⟩, rfl⟩, ⟨rfl, rfl, rfl, (fun i16 => (fun h17 => (o24 hp h1 x2 hx2 h5 x6 hx6 h9 i16 h17)))⟩, tv⟩, rfl, rfl⟩) (o25 hp h1 x2 hx2 h5 x6 hx6 h9) (o26 hp h1 x2 hx2 h5 x6 hx6 h9)
  ·refine swp_exit (swp_seq ?_)
   refine sR (kt := [2, 3]) (kh := [8, 5001]) (q := True /\ True /\ True /\ True) (st' := ASt.mk [(2, .ptr 8 []), (3, iv 0)] [(8, .cells 56 [.vec 5001, aInts ((openL r true).getD 0 default).frm]), (5001, .vec 30 1 x2 fun (k : Nat) => [aInts (wRow ((openL r true).getD 0 default) k r.plates.toNat)])] 10216) (by kernel_rfl) ⟨tv, tv, tv, tv⟩ ?_
   refine swp_ret ?_
   exact ret_q [5001] ((True /\ True /\ True) /\ (((1 = 1 /\ x2 = (truthP r).minutes.length /\ ∀ (i18 : Nat), i18 < (truthP r).minutes.length -> [aInts (wRow ((openL r true).getD 0 default) i18 r.plates.toNat)] = [aInts ((truthP r).minutes.getD i18 [])]) /\ (1 = 1 /\ ((openL r true).getD 0 default).frm.length = (truthP r).frm.length /\ ∀ (i20 : Nat), i20 < (truthP r).frm.length -> [iv (((openL r true).getD 0 default).frm.getD i20 0)] = [iv ((truthP r).frm.getD i20 0)]) /\ True) /\ (iv 0 = iv (openE r true) /\ nilN = []) /\ True) /\ T3) (by kernel_rfl) ⟨⟨tv, tv, tv⟩, ⟨⟨⟨rfl, (o27 hp h1 x2 hx2 h5), (fun i18 => (fun h19 => (o28 hp h1 x2 hx2 h5 i18 h19)))⟩, ⟨rfl, (o29 hp h1 x2 hx2 h5), (fun i20 => (fun h21 => (o30 hp h1 x2 hx2 h5 i20 h21)))⟩, tv⟩, ⟨(congrArg iv (o31 hp h1 x2 hx2 h5)), rfl⟩, tv⟩, rfl, rfl, rfl⟩
theorem t41 (r : Run) : Triple Try.prog 41 (s41 r) := by
  apply w41
  all_goals (first
    | (intro _ h; rw [truthP, if_neg (openBad h)] <;> rfl)
    | ((repeat intro _) <;> (try simp only [v0, v1, v2, v3, v4, v5, v6, v7, v8, v9, inI, fits, Go.Sh.small] at *) <;> first | (exact rfl) | omega | exact vz | (simp_all; done) | (simp_all; omega))
    | (intro _ h
       have F := openF h
       have h1 := F.pos
       have h3 := F.ok.plates
       have h4 := F.ok.machines
       first
       | omega
       | exact F.zero.symm
       | (intro m hm hl
          simp only [decide_eq_true_eq, decide_eq_false_iff_not] at hl
          first
          | exact F.zero.symm
          | omega
          | (intro p hp hpl
             simp only [decide_eq_true_eq, decide_eq_false_iff_not] at hpl
             first
             | omega
             | (simp only [inI]; omega)
             | (intro i hi; exact catF_idx (fun k => [iv ((wRow ((openL r true).getD 0 default) m r.plates.toNat).getD k 0)]) (by rw [wRow_get _ _ (by omega)]) hi)
             | (intro i hi; exact catF_idx (fun k => [aInts (wRow ((openL r true).getD 0 default) k r.plates.toNat)]) (by rw [aInts, wRow_len, show p = r.plates.toNat by omega]) hi))
          | (rw [truthP, if_pos F.zero, wRows_len]; omega)
          | (rw [truthP, if_pos F.zero, F.eq]; done)
          | (intro i hi; rw [truthP, if_pos F.zero] at hi ⊢; rw [wRows_len] at hi; rw [F.eq, wRows_get _ _ hi])
          | (intro i hi; rw [truthP, if_pos F.zero, F.eq]))))
abbrev q22_1 (r : Run) (C : Prop) : Prop := fits r -> (!decide (openE r true = 0)) = false -> C
abbrev q22_2 (r : Run) (C : Nat -> Prop) : Prop := q22_1 r (∀ (x2 : Nat), x2 <= (openL r true).length -> decide ((x2 : Int) < (↑((openL r true).length) : Int)) = true -> C x2)
abbrev q22_3 (r : Run) (C : Nat -> Nat -> Prop) : Prop := q22_2 r fun x2 => ∀ (x4 : Nat), x4 <= ((openL r true).getD x2 default).frm.length -> decide ((x4 : Int) < (↑(((openL r true).getD x2 default).frm.length) : Int)) = true -> C x2 x4
abbrev q22_4 (r : Run) (C : Nat -> Nat -> Prop) : Prop := q22_2 r fun x2 => ∀ (x4 : Nat), x4 <= ((openL r true).getD x2 default).frm.length -> decide ((x4 : Int) < (↑(((openL r true).getD x2 default).frm.length) : Int)) = false -> C x2 x4
abbrev q22_5 (r : Run) (C : Nat -> Prop) : Prop := q22_1 r (∀ (x2 : Nat), x2 <= (openL r true).length -> decide ((x2 : Int) < (↑((openL r true).length) : Int)) = false -> C x2)
theorem w22 (r : Run)
 (o0 : fits r -> (!decide (openE r true = 0)) -> 0 = fewP r)
 (o1 : q22_1 r (0 = (↑0 : Int)))
 (o2 : q22_1 r ((↑(r.machines.length) : Int) = fewPTo r (openL r true) 0))
 (o3 : q22_1 r (0 <= (openL r true).length))
 (o4 : q22_2 r fun x2 => 0 <= (x2 : Int))
 (o5 : q22_2 r fun x2 => (x2 : Int) < (↑((openL r true).length) : Int))
 (o6 : q22_2 r fun x2 => 0 = (↑0 : Int))
 (o7 : q22_2 r fun x2 => [] = logTo ((openL r true).getD x2 default).frm 0)
 (o8 : q22_2 r fun x2 => 0 <= ((openL r true).getD x2 default).frm.length)
 (o9 : q22_3 r fun x2 x4 => 0 <= (x4 : Int))
 (o10 : q22_3 r fun x2 x4 => (x4 : Int) < (↑(((openL r true).getD x2 default).frm.length) : Int))
 (o11 : q22_3 r fun x2 x4 => inI (((openL r true).getD x2 default).frm.getD x4 0))
 (o12 : q22_3 r fun x2 x4 => inI (mlook (logTo ((openL r true).getD x2 default).frm x4) (((openL r true).getD x2 default).frm.getD x4 0) + 1))
 (o13 : q22_3 r fun x2 x4 => inI (((openL r true).getD x2 default).frm.getD x4 0))
 (o14 : q22_3 r fun x2 x4 => inI (mlook (logTo ((openL r true).getD x2 default).frm x4) (((openL r true).getD x2 default).frm.getD x4 0) + 1))
 (o15 : q22_3 r fun x2 x4 => (logTo ((openL r true).getD x2 default).frm x4).length < 65536)
 (o16 : q22_3 r fun x2 x4 => inI ((x4 : Int) + 1))
 (o17 : q22_3 r fun x2 x4 => (x4 : Int) + 1 = (↑(x4 + 1) : Int))
 (o18 : q22_3 r fun x2 x4 => logTo ((openL r true).getD x2 default).frm x4 ++ [(((openL r true).getD x2 default).frm.getD x4 0, mlook (logTo ((openL r true).getD x2 default).frm x4) (((openL r true).getD x2 default).frm.getD x4 0) + 1)] = logTo ((openL r true).getD x2 default).frm (x4 + 1))
 (o19 : q22_3 r fun x2 x4 => x4 + 1 <= ((openL r true).getD x2 default).frm.length)
 (o20 : q22_3 r fun x2 x4 => ((openL r true).getD x2 default).frm.length - (x4 + 1) < ((openL r true).getD x2 default).frm.length - x4)
 (o21 : q22_4 r fun x2 x4 => inI ((x2 : Int) + 1))
 (o22 : q22_4 r fun x2 x4 => (x2 : Int) + 1 = (↑(x2 + 1) : Int))
 (o23 : q22_4 r fun x2 x4 => min (fewPTo r (openL r true) x2) (↑((mkeys (logTo ((openL r true).getD x2 default).frm x4)).length) : Int) = fewPTo r (openL r true) (x2 + 1))
 (o24 : q22_4 r fun x2 x4 => x2 + 1 <= (openL r true).length)
 (o25 : q22_4 r fun x2 x4 => (openL r true).length - (x2 + 1) < (openL r true).length - x2)
 (o26 : q22_5 r fun x2 => fewPTo r (openL r true) x2 = fewP r)
 (o27 : q22_5 r fun x2 => 0 = openE r true) :
  Triple Try.prog 22 (s22 r) := by
 refine triple_of Try.func22 rfl Try.call22 T0_ok _ rfl rfl rfl rfl (Nat.le_of_ble_eq_true (by kernel_rfl)) (fun _ _ _ _ h => h) ?_
 intro hp C hC _ hE
 obtain ⟨P, w0, E0, av, hA⟩ := C
 subst hC
 refine swp_seq ?_
 refine sR (kt := [1]) (kh := [0]) (q := True /\ True /\ True /\ True) (st' := ASt.mk [(1, .ptr 0 [])] [(0, .cells 25 (cRun r))] 24) (by kernel_rfl) ⟨tv, tv, tv, tv⟩ ?_
 refine swp_seq ?_
 refine swp_region T0_ok mixed (cs := [(1, CallSpec.eq (s78 r true) [true, true])]) (kt := [1, 4, 5]) (kh := [0]) (q := True /\ ((AV.agg (cRun r) = AV.agg (cRun r) /\ bv true = bv true /\ True) /\ Triple Try.prog 78 (s78 r true) /\ fits r /\ True /\ ∀ (i0 : Env), True) /\ True /\ True /\ True /\ True /\ True /\ True) (st' := ASt.mk [(1, .ptr 0 []), (4, aWays (openL r true)), (5, iv (openE r true))] [(0, .cells 25 (cRun r))] 80) (by kernel_rfl) ⟨tv, ⟨⟨rfl, rfl, tv⟩, (t78 (r) (true)), hp, tv, (fun i0 => tv)⟩, tv, tv, tv, tv, tv, tv⟩ ?_
 refine swp_seq (swp_seq ?_)
 refine sR (kt := [1, 4, 5, 18]) (kh := [0]) (q := True /\ True /\ True) (st' := ASt.mk [(1, .ptr 0 []), (4, aWays (openL r true)), (5, iv (openE r true)), (18, bv !decide (openE r true = 0))] [(0, .cells 25 (cRun r))] 96) (by kernel_rfl) ⟨tv, tv, tv⟩ ?_
 refine swp_cond (!decide (openE r true = 0)) (by kernel_rfl) (fun h1 => ?_) (fun h1 => ?_)
 ·refine swp_seq ?_
  refine sR (kt := [2, 3]) (kh := []) (q := True /\ True /\ True /\ True) (st' := ASt.mk [(2, iv 0), (3, iv (openE r true))] [] 120) (by kernel_rfl) ⟨tv, tv, tv, tv⟩ ?_
  refine swp_ret ?_
  exact ret_q [] ((True /\ True /\ True) /\ ((iv 0 = iv (fewP r) /\ nilN = []) /\ (iv (openE r true) = iv (openE r true) /\ nilN = []) /\ True) /\ T3) (by kernel_rfl) ⟨⟨tv, tv, tv⟩, ⟨⟨(congrArg iv (o0 hp h1)), rfl⟩, ⟨rfl, rfl⟩, tv⟩, rfl, rfl, rfl⟩
 ·refine swp_skip (swp_seq ?_)
  refine sR (kt := [4, 6]) (kh := []) (q := True /\ True /\ True /\ True /\ True) (st' := ASt.mk [(4, aWays (openL r true)), (6, iv (↑(r.machines.length) : Int))] [] 128) (by kernel_rfl) ⟨tv, tv, tv, tv, tv⟩ ?_
  refine swp_seq (swp_seq ?_)
  refine sR (kt := [6, 23, 24, 25]) (kh := []) (q := True /\ True /\ True /\ True) (st' := ASt.mk [(6, iv (↑(r.machines.length) : Int)), (23, aWays (openL r true)), (24, iv (↑((openL r true).length) : Int)), (25, iv 0)] [] 152) (by kernel_rfl) ⟨tv, tv, tv, tv⟩ ?_
  refine swp_block ?_
  refine swp_loopA (Hint.ann (h22a r) [(23, aWays (openL r true)), (24, iv (↑((openL r true).length) : Int))] [] 10152) (ent_q hE [] [] [23, 24] [] (((aWays (openL r true) = aWays (openL r true) /\ true = true) /\ (iv (↑((openL r true).length) : Int) = iv (↑((openL r true).length) : Int) /\ true = true) /\ (iv 0 = iv (↑0 : Int) /\ nilN = []) /\ (iv (↑(r.machines.length) : Int) = iv (fewPTo r (openL r true) 0) /\ nilN = []) /\ True) /\ True /\ T2) (by kernel_rfl) (by kernel_rfl) ⟨⟨⟨rfl, rfl⟩, ⟨rfl, rfl⟩, ⟨(congrArg iv (o1 hp h1)), rfl⟩, ⟨(congrArg iv (o2 hp h1)), rfl⟩, tv⟩, tv, rfl, rfl⟩) (o3 hp h1) (fun (x2 : Nat) hx2 => ?_)
  refine swp_seq ?_
  refine sR (kt := [23, 24, 25, 6, 26]) (kh := []) (q := True /\ True) (st' := ASt.mk [(23, aWays (openL r true)), (24, iv (↑((openL r true).length) : Int)), (25, iv (x2 : Int)), (6, iv (fewPTo r (openL r true) x2)), (26, bv (decide ((x2 : Int) < (↑((openL r true).length) : Int))))] [] 10160) (by kernel_rfl) ⟨tv, tv⟩ ?_
  refine swp_seq ?_
  refine swp_cond (decide ((x2 : Int) < (↑((openL r true).length) : Int))) (by kernel_rfl) (fun h3 => ?_) (fun h3 => ?_)
  ·refine swp_skip (swp_seq (swp_block (swp_seq ?_)))
   refine sR (kt := [23, 24, 25, 6, 8]) (kh := [10176]) (q := (0 <= (x2 : Int) /\ (x2 : Int) < (↑((openL r true).length) : Int)) /\ True /\ True /\ True /\ True) (st' := ASt.mk [(23, aWays (openL r true)), (24, iv (↑((openL r true).length) : Int)), (25, iv (x2 : Int)), (6, iv (fewPTo r (openL r true) x2)), (8, .ptr 10176 [])] [(10176, .cells 107 (cWay ((openL r true).getD x2 default)))] 10192) (by kernel_rfl) ⟨⟨(o4 hp h1 x2 hx2 h3), (o5 hp h1 x2 hx2 h3)⟩, tv, tv, tv, tv⟩ ?_
   refine swp_seq ?_
   refine sR (kt := [23, 24, 25, 6, 8, 9]) (kh := [10176, 10192]) (q := True /\ True /\ True) (st' := ASt.mk [(23, aWays (openL r true)), (24, iv (↑((openL r true).length) : Int)), (25, iv (x2 : Int)), (6, iv (fewPTo r (openL r true) x2)), (8, .ptr 10176 []), (9, .vec 10192)] [(10176, .cells 107 (cWay ((openL r true).getD x2 default))), (10192, .mp 108 [])] 10208) (by kernel_rfl) ⟨tv, tv, tv⟩ ?_
   refine swp_seq (swp_seq ?_)
   refine sR (kt := [23, 24, 25, 6, 9, 31, 32, 33]) (kh := [10192]) (q := True /\ True /\ True /\ True /\ True) (st' := ASt.mk [(23, aWays (openL r true)), (24, iv (↑((openL r true).length) : Int)), (25, iv (x2 : Int)), (6, iv (fewPTo r (openL r true) x2)), (9, .vec 10192), (31, aInts ((openL r true).getD x2 default).frm), (32, iv (↑(((openL r true).getD x2 default).frm.length) : Int)), (33, iv 0)] [(10192, .mp 108 [])] 10240) (by kernel_rfl) ⟨tv, tv, tv, tv, tv⟩ ?_
   refine swp_block ?_
   refine swp_loopA (Hint.ann (h22b r x2) [(23, aWays (openL r true)), (24, iv (↑((openL r true).length) : Int)), (25, iv (x2 : Int)), (6, iv (fewPTo r (openL r true) x2)), (31, aInts ((openL r true).getD x2 default).frm), (32, iv (↑(((openL r true).getD x2 default).frm.length) : Int))] [] 20240) (ent_q hE [] [(5000, .same 10192)] [23, 24, 25, 6, 31, 32] [] (((aWays (openL r true) = aWays (openL r true) /\ true = true) /\ (iv (↑((openL r true).length) : Int) = iv (↑((openL r true).length) : Int) /\ true = true) /\ (iv (x2 : Int) = iv (x2 : Int) /\ true = true) /\ (iv (fewPTo r (openL r true) x2) = iv (fewPTo r (openL r true) x2) /\ true = true) /\ (aInts ((openL r true).getD x2 default).frm = aInts ((openL r true).getD x2 default).frm /\ true = true) /\ (iv (↑(((openL r true).getD x2 default).frm.length) : Int) = iv (↑(((openL r true).getD x2 default).frm.length) : Int) /\ true = true) /\ (iv 0 = iv (↑0 : Int) /\ nilN = []) /\ some (Src.same 10192) = some (Src.same 10192) /\ True) /\ ((108 = 108 /\ [] = logTo ((openL r true).getD x2 default).frm 0) /\ True) /\ T2) (by kernel_rfl) (by kernel_rfl) ⟨⟨⟨rfl, rfl⟩, ⟨rfl, rfl⟩, ⟨rfl, rfl⟩, ⟨rfl, rfl⟩, ⟨rfl, rfl⟩, ⟨rfl, rfl⟩, ⟨(congrArg iv (o6 hp h1 x2 hx2 h3)), rfl⟩, rfl, tv⟩, ⟨⟨rfl, (o7 hp h1 x2 hx2 h3)⟩, tv⟩, rfl, rfl⟩) (o8 hp h1 x2 hx2 h3) (fun (x4 : Nat) hx4 => ?_)
   refine swp_seq ?_
   refine sR (kt := [23, 24, 25, 6, 31, 32, 33, 9, 34]) (kh := [5000]) (q := True /\ True) (st' := ASt.mk [(23, aWays (openL r true)), (24, iv (↑((openL r true).length) : Int)), (25, iv (x2 : Int)), (6, iv (fewPTo r (openL r true) x2)), (31, aInts ((openL r true).getD x2 default).frm), (32, iv (↑(((openL r true).getD x2 default).frm.length) : Int)), (33, iv (x4 : Int)), (9, .vec 5000), (34, bv (decide ((x4 : Int) < (↑(((openL r true).getD x2 default).frm.length) : Int))))] [(5000, .mp 108 (logTo ((openL r true).getD x2 default).frm x4))] 20248) (by kernel_rfl) ⟨tv, tv⟩ ?_
   refine swp_seq ?_
   refine swp_cond (decide ((x4 : Int) < (↑(((openL r true).getD x2 default).frm.length) : Int))) (by kernel_rfl) (fun h5 => ?_) (fun h5 => ?_)
   ·refine swp_skip (swp_seq (swp_block (swp_seq ?_)))
    refine sR (kt := [23, 24, 25, 6, 31, 32, 33, 9, 11]) (kh := [5000]) (q := (0 <= (x4 : Int) /\ (x4 : Int) < (↑(((openL r true).getD x2 default).frm.length) : Int)) /\ True /\ True /\ True) (st' := ASt.mk [(23, aWays (openL r true)), (24, iv (↑((openL r true).length) : Int)), (25, iv (x2 : Int)), (6, iv (fewPTo r (openL r true) x2)), (31, aInts ((openL r true).getD x2 default).frm), (32, iv (↑(((openL r true).getD x2 default).frm.length) : Int)), (33, iv (x4 : Int)), (9, .vec 5000), (11, iv (((openL r true).getD x2 default).frm.getD x4 0))] [(5000, .mp 108 (logTo ((openL r true).getD x2 default).frm x4))] 20272) (by kernel_rfl) ⟨⟨(o9 hp h1 x2 hx2 h3 x4 hx4 h5), (o10 hp h1 x2 hx2 h3 x4 hx4 h5)⟩, tv, tv, tv⟩ ?_
    refine sR (kt := [23, 24, 25, 6, 31, 32, 33, 9]) (kh := [5000]) (q := True /\ True /\ inI (((openL r true).getD x2 default).frm.getD x4 0) /\ inI (mlook (logTo ((openL r true).getD x2 default).frm x4) (((openL r true).getD x2 default).frm.getD x4 0) + 1) /\ (inI (((openL r true).getD x2 default).frm.getD x4 0) /\ inI (mlook (logTo ((openL r true).getD x2 default).frm x4) (((openL r true).getD x2 default).frm.getD x4 0) + 1) /\ (logTo ((openL r true).getD x2 default).frm x4).length < 65536) /\ True) (st' := ASt.mk [(23, aWays (openL r true)), (24, iv (↑((openL r true).length) : Int)), (25, iv (x2 : Int)), (6, iv (fewPTo r (openL r true) x2)), (31, aInts ((openL r true).getD x2 default).frm), (32, iv (↑(((openL r true).getD x2 default).frm.length) : Int)), (33, iv (x4 : Int)), (9, .vec 5000)] [(5000, .mp 108 (logTo ((openL r true).getD x2 default).frm x4 ++ [(((openL r true).getD x2 default).frm.getD x4 0, mlook (logTo ((openL r true).getD x2 default).frm x4) (((openL r true).getD x2 default).frm.getD x4 0) + 1)]))] 20312) (by kernel_rfl) ⟨tv, tv, (o11 hp h1 x2 hx2 h3 x4 hx4 h5), (o12 hp h1 x2 hx2 h3 x4 hx4 h5), ⟨(o13 hp h1 x2 hx2 h3 x4 hx4 h5), (o14 hp h1 x2 hx2 h3 x4 hx4 h5), (o15 hp h1 x2 hx2 h3 x4 hx4 h5)⟩, tv⟩ ?_
    refine sR (kt := [23, 24, 25, 6, 31, 32, 33, 9]) (kh := [5000]) (q := inI ((x4 : Int) + 1) /\ True /\ True) (st' := ASt.mk [(23, aWays (openL r true)), (24, iv (↑((openL r true).length) : Int)), (25, iv (x2 : Int)), (6, iv (fewPTo r (openL r true) x2)), (31, aInts ((openL r true).getD x2 default).frm), (32, iv (↑(((openL r true).getD x2 default).frm.length) : Int)), (33, iv ((x4 : Int) + 1)), (9, .vec 5000)] [(5000, .mp 108 (logTo ((openL r true).getD x2 default).frm x4 ++ [(((openL r true).getD x2 default).frm.getD x4 0, mlook (logTo ((openL r true).getD x2 default).frm x4) (((openL r true).getD x2 default).frm.getD x4 0) + 1)]))] 20328) (by kernel_rfl) ⟨(o16 hp h1 x2 hx2 h3 x4 hx4 h5), tv, tv⟩ ?_
    exact loop_next (Hint.ann (h22b r x2) [(23, aWays (openL r true)), (24, iv (↑((openL r true).length) : Int)), (25, iv (x2 : Int)), (6, iv (fewPTo r (openL r true) x2)), (31, aInts ((openL r true).getD x2 default).frm), (32, iv (↑(((openL r true).getD x2 default).frm.length) : Int))] [] 20240) x4 (ent_q hE [] [(5000, .same 5000)] [23, 24, 25, 6, 31, 32] [] (((aWays (openL r true) = aWays (openL r true) /\ true = true) /\ (iv (↑((openL r true).length) : Int) = iv (↑((openL r true).length) : Int) /\ true = true) /\ (iv (x2 : Int) = iv (x2 : Int) /\ true = true) /\ (iv (fewPTo r (openL r true) x2) = iv (fewPTo r (openL r true) x2) /\ true = true) /\ (aInts ((openL r true).getD x2 default).frm = aInts ((openL r true).getD x2 default).frm /\ true = true) /\ (iv (↑(((openL r true).getD x2 default).frm.length) : Int) = iv (↑(((openL r true).getD x2 default).frm.length) : Int) /\ true = true) /\ (iv ((x4 : Int) + 1) = iv (↑(x4 + 1) : Int) /\ nilN = []) /\ some (Src.same 5000) = some (Src.same 5000) /\ True) /\ ((108 = 108 /\ logTo ((openL r true).getD x2 default).frm x4 ++ [(((openL r true).getD x2 default).frm.getD x4 0, mlook (logTo ((openL r true).getD x2 default).frm x4) (((openL r true).getD x2 default).frm.getD x4 0) + 1)] = logTo ((openL r true).getD x2 default).frm (x4 + 1)) /\ True) /\ T2) (by kernel_rfl) (by kernel_rfl) ⟨⟨⟨rfl, rfl⟩, ⟨rfl, rfl⟩, ⟨rfl, rfl⟩, ⟨rfl, rfl⟩, ⟨rfl, rfl⟩, ⟨rfl, rfl⟩, ⟨(congrArg iv (o17 hp h1 x2 hx2 h3 x4 hx4 h5)), rfl⟩, rfl, tv⟩, ⟨⟨rfl, (o18 hp h1 x2 hx2 h3 x4 hx4 h5)⟩, tv⟩, rfl, rfl⟩) (o19 hp h1 x2 hx2 h3 x4 hx4 h5) (o20 hp h1 x2 hx2 h3 x4 hx4 h5)
   ·refine swp_exit ?_
    refine sR (kt := [23, 24, 25, 6]) (kh := []) (q := True /\ True /\ True /\ True /\ True /\ True) (st' := ASt.mk [(23, aWays (openL r true)), (24, iv (↑((openL r true).length) : Int)), (25, iv (x2 : Int)), (6, iv (min (fewPTo r (openL r true) x2) (↑((mkeys (logTo ((openL r true).getD x2 default).frm x4)).length) : Int)))] [] 20288) (by kernel_rfl) ⟨tv, tv, tv, tv, tv, tv⟩ ?_
    refine sR (kt := [23, 24, 25, 6]) (kh := []) (q := inI ((x2 : Int) + 1) /\ True /\ True) (st' := ASt.mk [(23, aWays (openL r true)), (24, iv (↑((openL r true).length) : Int)), (25, iv ((x2 : Int) + 1)), (6, iv (min (fewPTo r (openL r true) x2) (↑((mkeys (logTo ((openL r true).getD x2 default).frm x4)).length) : Int)))] [] 20304) (by kernel_rfl) ⟨(o21 hp h1 x2 hx2 h3 x4 hx4 h5), tv, tv⟩ ?_
    exact loop_next (Hint.ann (h22a r) [(23, aWays (openL r true)), (24, iv (↑((openL r true).length) : Int))] [] 10152) x2 (ent_q hE [] [] [23, 24] [] (((aWays (openL r true) = aWays (openL r true) /\ true = true) /\ (iv (↑((openL r true).length) : Int) = iv (↑((openL r true).length) : Int) /\ true = true) /\ (iv ((x2 : Int) + 1) = iv (↑(x2 + 1) : Int) /\ nilN = []) /\ (iv (min (fewPTo r (openL r true) x2) (↑((mkeys (logTo ((openL r true).getD x2 default).frm x4)).length) : Int)) = iv (fewPTo r (openL r true) (x2 + 1)) /\ nilN = []) /\ True) /\ True /\ T2) (by kernel_rfl) (by kernel_rfl) ⟨⟨⟨rfl, rfl⟩, ⟨rfl, rfl⟩, ⟨(congrArg iv (o22 hp h1 x2 hx2 h3 x4 hx4 h5)), rfl⟩, ⟨(congrArg iv (o23 hp h1 x2 hx2 h3 x4 hx4 h5)), rfl⟩, tv⟩, tv, rfl, rfl⟩) (o24 hp h1 x2 hx2 h3 x4 hx4 h5) (o25 hp h1 x2 hx2 h3 x4 hx4 h5)
  ·refine swp_exit (swp_seq ?_)
   refine sR (kt := [2, 3]) (kh := []) (q := True /\ True /\ True /\ True) (st' := ASt.mk [(2, iv (fewPTo r (openL r true) x2)), (3, iv 0)] [] 10184) (by kernel_rfl) ⟨tv, tv, tv, tv⟩ ?_
   refine swp_ret ?_
   exact ret_q [] ((True /\ True /\ True) /\ ((iv (fewPTo r (openL r true) x2) = iv (fewP r) /\ nilN = []) /\ (iv 0 = iv (openE r true) /\ nilN = []) /\ True) /\ T3) (by kernel_rfl) ⟨⟨tv, tv, tv⟩, ⟨⟨(congrArg iv (o26 hp h1 x2 hx2 h3)), rfl⟩, ⟨(congrArg iv (o27 hp h1 x2 hx2 h3)), rfl⟩, tv⟩, rfl, rfl, rfl⟩
theorem t22 (r : Run) : Triple Try.prog 22 (s22 r) := by
  apply w22
  all_goals (first
    | (intro _ h; rw [fewP, if_neg (openBad h)]; done)
    | ((repeat intro _) <;> (try simp only [v0, v1, v2, v3, v4, v5, v6, v7, v8, v9, inI, fits, Go.Sh.small] at *) <;> first | (exact rfl) | omega | exact vz | (simp_all; done) | (simp_all; omega))
    | (intro _ h
       have F := openF h
       have h2 := F.len
       have h3 := F.ok.machines
       have h4 := F.ok.found
       first
       | exact F.zero.symm
       | (intro x hx hl
          simp only [decide_eq_true_eq, decide_eq_false_iff_not] at hl
          first
          | exact F.zero.symm
          | omega
          | (simp only [inI]; omega)
          | (rw [fewP, if_pos F.zero, ← F.eq, show x = (openL r true).length by omega]; done)
          | (intro j hj hjl
             have h5 := F.frm x (by omega)
             simp only [decide_eq_true_eq, decide_eq_false_iff_not] at hjl
             have h6 := logTo_look ((openL r true).getD x default).frm (((openL r true).getD x default).frm.getD j 0) j
             have h7 := logTo_len ((openL r true).getD x default).frm j
             first
             | omega
             | (simp only [inI]; omega)
             | (simp only [inI]; have h8 := F.mach x (by omega) j (by omega); omega)
             | (rw [logTo_succ]; done)
             | (rw [fewPTo_succ, usedW, show ((openL r true).getD x default).frm.length = j by omega]; done))))
    | skip)
end Go.Ab
namespace Go.Proofs
open Go.Shelf
def Try.lays189_ren : Go.Shelf.Ren := ⟨fun | 189 => 119 | 125 => 141 | 257 => 140 | 128 => 155 | 129 => 156 | 294 => 146 | 295 => 147 | 296 => 148 | 297 => 149 | 298 => 150 | 299 => 151 | 216 => 152 | 300 => 153 | 301 => 154 | 328 => 158 | 329 => 159 | 330 => 160 | 331 => 161 | 332 => 162 | 215 => 163 | 343 => 164 | n => n, fun | 28 => 30 | 3 => 3 | 46 => 157 | 0 => 0 | 51 => 171 | 53 => 173 | 4 => 4 | 183 => 166 | 182 => 165 | 131 => 75 | 5 => 5 | 9 => 9 | 218 => 175 | 222 => 179 | 228 => 181 | 229 => 182 | n => n, fun | n => n⟩
theorem Try.lays189 : Go.Proofs.Lays.n189 Try.prog Try.lays189_ren := {
 mixed := by kernel_rfl
 f125 := Try.func141.trans (congrArg some (by kernel_rfl))
 f128 := Try.func155.trans (congrArg some (by kernel_rfl))
 f129 := Try.func156.trans (congrArg some (by kernel_rfl))
 f189 := Try.func119.trans (congrArg some (by kernel_rfl))
 f215 := Try.func163.trans (congrArg some (by kernel_rfl))
 f216 := Try.func152.trans (congrArg some (by kernel_rfl))
 f257 := Try.func140.trans (congrArg some (by kernel_rfl))
 f294 := Try.func146.trans (congrArg some (by kernel_rfl))
 f295 := Try.func147.trans (congrArg some (by kernel_rfl))
 f296 := Try.func148.trans (congrArg some (by kernel_rfl))
 f297 := Try.func149.trans (congrArg some (by kernel_rfl))
 f298 := Try.func150.trans (congrArg some (by kernel_rfl))
 f299 := Try.func151.trans (congrArg some (by kernel_rfl))
 f300 := Try.func153.trans (congrArg some (by kernel_rfl))
 f301 := Try.func154.trans (congrArg some (by kernel_rfl))
 f328 := Try.func158.trans (congrArg some (by kernel_rfl))
 f329 := Try.func159.trans (congrArg some (by kernel_rfl))
 f330 := Try.func160.trans (congrArg some (by kernel_rfl))
 f331 := Try.func161.trans (congrArg some (by kernel_rfl))
 f332 := Try.func162.trans (congrArg some (by kernel_rfl))
 f343 := Try.func164.trans (congrArg some (by kernel_rfl))
 t0 := Try.underlying0
 a0 := Try.isAgg0
 z0 := Try.sizeOf0
 v0 := Try.zeroValue0
 t3 := Try.underlying3
 a3 := Try.isAgg3
 z3 := Try.sizeOf3
 v3 := Try.zeroValue3
 t4 := Try.underlying4
 a4 := Try.isAgg4
 z4 := Try.sizeOf4
 v4 := Try.zeroValue4
 t5 := Try.underlying5
 a5 := Try.isAgg5
 z5 := Try.sizeOf5
 v5 := Try.zeroValue5
 t9 := Try.underlying9
 a9 := Try.isAgg9
 z9 := Try.sizeOf9
 v9 := Try.zeroValue9
 t28 := Try.underlying30
 a28 := Try.isAgg30
 z28 := Try.sizeOf30
 v28 := Try.zeroValue30
 t46 := Try.underlying157
 a46 := Try.isAgg157
 z46 := Try.sizeOf157
 v46 := Try.zeroValue157
 t51 := Try.underlying171
 a51 := Try.isAgg171
 z51 := Try.sizeOf171
 v51 := Try.zeroValue171
 t53 := Try.underlying173
 a53 := Try.isAgg173
 z53 := Try.sizeOf173
 v53 := Try.zeroValue173
 t131 := Try.underlying75
 a131 := Try.isAgg75
 z131 := Try.sizeOf75
 v131 := Try.zeroValue75
 t182 := Try.underlying165
 a182 := Try.isAgg165
 z182 := Try.sizeOf165
 v182 := Try.zeroValue165
 t183 := Try.underlying166
 a183 := Try.isAgg166
 z183 := Try.sizeOf166
 v183 := Try.zeroValue166
 t218 := Try.underlying175
 a218 := Try.isAgg175
 z218 := Try.sizeOf175
 v218 := Try.zeroValue175
 t222 := Try.underlying179
 a222 := Try.isAgg179
 z222 := Try.sizeOf179
 v222 := Try.zeroValue179
 t228 := Try.underlying181
 a228 := Try.isAgg181
 z228 := Try.sizeOf181
 v228 := Try.zeroValue181
 t229 := Try.underlying182
 a229 := Try.isAgg182
 z229 := Try.sizeOf182
 v229 := Try.zeroValue182 }
open Go.Sort Go.RowKit in
theorem Try.slices_Sort_int (blk off cap : Nat) (zs : List Int) (w : World) (hH : Holds (Value.int .i64) w blk off zs.toArray) (hblk : blk < w.heap.size) (hsz : zs.length < 4611686018427387904) :
  Calls Try.prog 119 #[.slice (some ⟨blk, off, none⟩) zs.length cap] w fun e w' =>
   e = .returned (.tuple #[]) /\ ∃ n os, w' = grow (putRow (Value.int .i64) (Sort.ahead w n) blk off (zs.mergeSort fun x y => decide (x <= y)).toArray) os := Any.slices_Sort_int Try.lays189 blk off cap zs w hH hblk hsz
def Try.laysNm220_ren : Go.Shelf.Ren := ⟨fun | 20 => 120 | n => n, fun | 22 => 30 | 3 => 3 | 4 => 4 | 0 => 0 | n => n, fun | n => n⟩
theorem Try.laysNm220 : Go.Proofs.Lays2.n20 Try.prog Try.laysNm220_ren := {
 mixed := by kernel_rfl
 f20 := Try.func120.trans (congrArg some (by kernel_rfl))
 t0 := Try.underlying0
 a0 := Try.isAgg0
 z0 := Try.sizeOf0
 v0 := Try.zeroValue0
 t3 := Try.underlying3
 a3 := Try.isAgg3
 z3 := Try.sizeOf3
 v3 := Try.zeroValue3
 t4 := Try.underlying4
 a4 := Try.isAgg4
 z4 := Try.sizeOf4
 v4 := Try.zeroValue4
 t22 := Try.underlying30
 a22 := Try.isAgg30
 z22 := Try.sizeOf30
 v22 := Try.zeroValue30
 i3 := by kernel_rfl }
open Go.RowKit Go.Lib Go.Sort in
theorem Try.slices_Compact_int (blk off cap : Nat) (zs : List Int) (w : World) (hH : Holds (Value.int .i64) w blk off zs.toArray) (hsz : zs.length <= 9223372036854775807) (hcap : zs.length <= cap) :
  Calls Try.prog 120 #[.slice (some ⟨blk, off, none⟩) zs.length cap] w fun e w' => e = .returned (.slice (some ⟨blk, off, none⟩) (Lib.compact zs).length cap) /\ ∃ q, w' = putRow (Value.int .i64) (Sort.ahead w q) blk off (Lib.compact zs ++ List.replicate (zs.length - (Lib.compact zs).length) 0).toArray := Any.slices_Compact_int Try.laysNm220 blk off cap zs w hH hsz hcap
end Go.Proofs
namespace Go.Sh
def sortI (l : List Int) : List Int := l.mergeSort (fun x y => decide (x <= y))
theorem sortI_len (l : List Int) : (sortI l).length = l.length := List.length_mergeSort _
def compactI (l : List Int) : List Int := Go.Lib.compact l
theorem compact_le (l : List Int) : (compactI l).length <= l.length := by
 unfold compactI Go.Lib.compact Go.Lib.compactUpTo
 rw [List.length_map]
 exact Nat.le_trans (List.length_filter_le _ _) (by simp)
end Go.Sh
namespace Go.Ab
open Go Go.RowKit Go.Sort Go.Sh
theorem putRow_heap {α : Type} [Inhabited α] (enc : α -> Value) (w : World) (q k : Nat) (ys : List α) (os : Array Obj) (us : List Value) (e : TypeId) (hw : w.heap[k]? = some (.cells us.toArray e (0, 0))) (hl : ys.length <= us.length) :
  (grow (putRow enc (Sort.ahead w q) k 0 ys.toArray) os).heap[k]? = some (.cells (ys.map enc ++ us.drop ys.length).toArray e (0, 0)) /\ w.grownBy (grow (putRow enc (Sort.ahead w q) k 0 ys.toArray) os) (some k) := by
 have hlt : k < w.heap.size := (Array.getElem?_eq_some_iff.1 hw).1
 have hsz : (putRow enc (Sort.ahead w q) k 0 ys.toArray).heap.size = w.heap.size := by simp [putRow, mapBlock, Sort.ahead]
 refine ⟨?_, ⟨rfl, rfl, rfl, by rw [size_grow, hsz]; omega, fun j hj hne => ?_⟩⟩
 ·rw [heap_grow_old _ _ (by rw [hsz]; exact hlt)]
  show ((Sort.ahead w q).heap.modify k _)[k]? = _
  have hw' : (Sort.ahead w q).heap[k]? = some (.cells us.toArray e (0, 0)) := hw
  rw [Array.getElem?_modify, if_pos rfl, hw']
  simp only [Option.map_some, onCells, Option.some.injEq, Obj.cells.injEq, and_true]
  apply Array.ext_getElem?
  intro i
  simp only [putCells, Array.getElem?_mapIdx, List.getElem?_toArray, List.size_toArray, Nat.zero_le, true_and, Nat.zero_add, Nat.sub_zero]
  by_cases h1 : i < ys.length
  ·rw [List.getElem?_append_left (by simpa using h1), List.getElem?_map, List.getElem?_eq_getElem h1, List.getElem?_eq_getElem (show i < us.length by omega)]
   simp only [Option.map_some, if_pos h1]
   rw [getElem!_pos _ i (by simpa using h1)]
   simp
  ·rw [List.getElem?_append_right (by simpa using h1), List.getElem?_drop]
   have : ys.length + (i - (List.map enc ys).length) = i := by simp; omega
   rw [this]
   cases us[i]? with
   | none => rfl
   | some u => simp only [Option.map_some, if_neg h1]
 ·rw [heap_grow_old _ _ (by rw [hsz]; exact hj)]
  show ((Sort.ahead w q).heap.modify k _)[j]? = _
  rw [Array.getElem?_modify, if_neg (fun e => hne (by rw [e]))]
  rfl
def rowI (t : TypeId) (l : List Int) : OB := .vec t 1 l.length (fun i => [iv (l.getD i 0)])
theorem rowI_flat {E : Env} {l : List Int} {g : Nat -> List Value} (hr : ∀ i, i < l.length -> RelL E false [iv (l.getD i 0)] (g i)) : (List.range l.length).flatMap g = l.map (Value.int .i64) := by
 have h1 : ∀ i, i < l.length -> g i = [Value.int .i64 (l.getD i 0)] := by
  intro i hi
  have := hr i hi
  generalize g i = x at this
  cases this with
  | cons h _ hs => cases hs; cases h; rfl
 refine List.ext_getElem? fun i => ?_
 have hlen := flat_length g 1 l.length (fun i hi => by rw [h1 i hi]; rfl)
 by_cases hi : i < l.length
 ·have := flat_get g 1 l.length (fun i hi => by rw [h1 i hi]; rfl) i 0 hi (by omega)
  simp only [Nat.mul_one, Nat.add_zero] at this
  rw [this, h1 i hi, List.getElem?_map, List.getElem?_eq_getElem hi]
  simp [List.getD, List.getElem?_eq_getElem hi]
 ·rw [List.getElem?_eq_none (by omega), List.getElem?_eq_none (by simpa using hi)]
theorem rowI_rel (E : Env) (l : List Int) : ∀ i, i < l.length -> RelL E false [iv (l.getD i 0)] [Value.int .i64 (l.getD i 0)] := fun i _ => .cons (.lit _) rfl .nil
theorem rowI_flat' (l : List Int) : (List.range l.length).flatMap (fun i => [Value.int .i64 (l.getD i 0)]) = l.map (Value.int .i64) := by
 let E0 : Env := ⟨fun _ => none, fun _ => none, fun _ => none, fun _ _ => False⟩
 exact rowI_flat (E := E0) (rowI_rel E0 l)
theorem holdsI {w : World} {k : Nat} {l : List Int} {us : List Value} {e : TypeId} (hw : w.heap[k]? = some (.cells us.toArray e (0, 0))) (ht : us.take l.length = l.map (Value.int .i64)) : Holds (Value.int .i64) w k 0 l.toArray := by
 intro j hj
 have hj' : j < l.length := by simpa using hj
 have h1 : us[j]? = some (.int .i64 l[j]) := by
  have := congrArg (fun x => x[j]?) ht
  simp only [List.getElem?_take, if_pos hj', List.getElem?_map, List.getElem?_eq_getElem hj', Option.map_some] at this
  exact this
 refine ⟨?_, ?_⟩
 ·rw [Nat.zero_add, getElem!_pos _ j hj]
  simp only [World.cell?, hw]
  simpa using h1
 ·simp only [World.frozen?, hw]
  rfl
theorem own_rowI {C : Ctx} {E : Env} {w : World} {b : Nat} {t : TypeId} {l : List Int} (h : OwnOB C E w b (rowI t l)) (hn : 0 < l.length) :
  ∃ k cap us, E.hdr b = some (.slice (some ⟨k, 0, none⟩) l.length cap) /\ l.length <= cap /\ cap <= maxLen /\ w.heap[k]? = some (.cells (List.toArray us) t (0, 0)) /\ us.length = cap /\ us.take l.length = l.map (Value.int .i64) /\ E.blk b = some k /\ C.avail k /\ E.M k = none := by
 obtain ⟨hd, g, hh, ho, hl, hr, hbk, hav⟩ := h
 rcases ownsRow_form ho with ⟨_, h0⟩ | ⟨k, cap, rfl, hnc, hcm, us, hw, hul, hut⟩
 ·omega
 ·rw [Nat.mul_one] at hul hut
  rw [rowI_flat hr] at hut
  exact ⟨k, cap, us, hh, hnc, hcm, hw, hul, hut, hbk, (hav k rfl).1, (hav k rfl).2⟩
theorem ownsRow_of {w : World} {k cap : Nat} {us : List Value} {t : TypeId} {l : List Int} (hw : w.heap[k]? = some (.cells us.toArray t (0, 0))) (hnc : l.length <= cap) (hcm : cap <= maxLen) (hul : us.length = cap) (hut : us.take l.length = l.map (Value.int .i64)) :
  w.ownsRow 0 t 1 (.slice (some ⟨k, 0, none⟩) l.length cap) l.length ((List.range l.length).flatMap (fun i => [Value.int .i64 (l.getD i 0)])) := by
 rw [rowI_flat']
 refine ⟨by simp, .inr ⟨k, cap, us.toArray, rfl, Nat.zero_le _, hw, hnc, hcm, by simpa using hul, by simpa using hut⟩⟩
theorem triple_sort {P : Program} {f : FuncId} (hcall : Callable P f) (t : TypeId) (b : Nat) (l : List Int)
  (h : ∀ k cap w, Holds (Value.int .i64) w k 0 l.toArray -> k < w.heap.size -> l.length < 4611686018427387904 -> Calls P f #[.slice (some ⟨k, 0, none⟩) l.length cap] w fun e w' => e = .returned (.tuple #[]) /\ ∃ n os, w' = grow (putRow (Value.int .i64) (Sort.ahead w n) k 0 (sortI l).toArray) os) :
  Triple P f { args := [.vec b], pre := 0 < l.length /\ l.length <= 65536, hin := [(b, rowI t l)], res := .tup [], hout := [(b, rowI t (sortI l))] } := by
 refine ⟨hcall, fun hpre E w vs _ hok hlen hrel _ => ?_⟩
 obtain ⟨v, rfl⟩ : ∃ v, vs = [v] := by
  match vs, hlen with
  | [v], _ => exact ⟨v, rfl⟩
 have hv := hrel 0
 simp only [List.getD_cons_zero] at hv
 have hob : Heap.of [(b, rowI t l)] b = some (rowI t l) := by rw [Heap.of_cons, if_pos rfl]
 obtain ⟨k, cap, us, hh, hnc, hcm, hw, hul, hut, hbk, hav, hM⟩ := own_rowI (hok.own b _ hob) hpre.1
 cases hv with
 | vec _ hh' _ =>
 rw [hh] at hh'
 cases hh'
 have hlt : k < w.heap.size := (Array.getElem?_eq_some_iff.1 hw).1
 refine (h k cap w (holdsI hw hut) hlt (by omega)).mono ?_
 rintro e w' ⟨rfl, n, os, rfl⟩
 obtain ⟨h1, hg⟩ := putRow_heap (Value.int .i64) w n k (sortI l) os us t hw (by rw [sortI_len]; omega)
 refine ⟨_, E, rfl, ?_, .tup rfl (fun k => by simp; exact .any _), fun _ _ => ⟨rfl, rfl⟩⟩
 have := hok.setVec b k (by rw [hob]; simp) hbk hav hM hg (rowI t (sortI l)) ?_
 ·refine this.drop fun i ob hi => ?_
  rw [Heap.of_cons] at hi
  split at hi
  ·rename_i e; cases hi; unfold Heap.put; rw [if_pos e.symm]
  ·cases hi
 ·refine ⟨_, fun i => [Value.int .i64 ((sortI l).getD i 0)], hh, ?_, fun _ _ => rfl, rowI_rel E _, hbk, fun k' hk' => ?_⟩
  ·have := ownsRow_of (l := sortI l) (cap := cap) h1 (by rw [sortI_len]; exact hnc) hcm (by simp [sortI_len, hul]; omega) (by rw [List.take_append_of_le_length (by rw [List.length_map]; exact Nat.le_refl _)]; exact List.take_of_length_le (by rw [List.length_map]; exact Nat.le_refl _))
   rw [sortI_len] at this ⊢
   exact this
  ·cases hk'; exact ⟨hav, hM⟩
theorem triple_compact {P : Program} {f : FuncId} (hcall : Callable P f) (t : TypeId) (b : Nat) (l : List Int)
  (h : ∀ k cap w, Holds (Value.int .i64) w k 0 l.toArray -> l.length <= 9223372036854775807 -> l.length <= cap -> Calls P f #[.slice (some ⟨k, 0, none⟩) l.length cap] w fun e w' => e = .returned (.slice (some ⟨k, 0, none⟩) (Lib.compact l).length cap) /\ ∃ q, w' = putRow (Value.int .i64) (Sort.ahead w q) k 0 (Lib.compact l ++ List.replicate (l.length - (Lib.compact l).length) 0).toArray)
  (hc : (compactI l).length <= l.length) :
  Triple P f { args := [.vec b], pre := 0 < l.length /\ l.length <= 65536, hin := [(b, rowI t l)], res := .sl 1 (compactI l).length (fun i => [iv ((compactI l).getD i 0)]), hout := [] } := by
 replace hc : (Lib.compact l).length <= l.length := hc
 show Triple P f { args := [.vec b], pre := 0 < l.length /\ l.length <= 65536, hin := [(b, rowI t l)], res := .sl 1 (Lib.compact l).length (fun i => [iv ((Lib.compact l).getD i 0)]), hout := [] }
 refine ⟨hcall, fun hpre E w vs _ hok hlen hrel _ => ?_⟩
 obtain ⟨v, rfl⟩ : ∃ v, vs = [v] := by
  match vs, hlen with
  | [v], _ => exact ⟨v, rfl⟩
 have hv := hrel 0
 simp only [List.getD_cons_zero] at hv
 have hob : Heap.of [(b, rowI t l)] b = some (rowI t l) := by rw [Heap.of_cons, if_pos rfl]
 obtain ⟨k, cap, us, hh, hnc, hcm, hw, hul, hut, hbk, hav, hM⟩ := own_rowI (hok.own b _ hob) hpre.1
 cases hv with
 | vec _ hh' _ =>
 rw [hh] at hh'
 cases hh'
 refine (h k cap w (holdsI hw hut) (by omega) hnc).mono ?_
 rintro e w' ⟨rfl, q, rfl⟩
 let ys := Lib.compact l ++ List.replicate (l.length - (Lib.compact l).length) 0
 have hys : ys.length = l.length := by simp [ys]; omega
 obtain ⟨h1, hg⟩ := putRow_heap (Value.int .i64) w q k ys #[] us t hw (by omega)
 rw [grow_empty] at h1 hg
 have hown := hok.setVec b k (by rw [hob]; simp) hbk hav hM hg (rowI t ys) ⟨_, fun i => [Value.int .i64 (ys.getD i 0)], by rw [hh, ← hys], ownsRow_of (l := ys) (cap := cap) h1 (by omega) hcm (by simp [hul]; omega) (by rw [List.take_append_of_le_length (by rw [List.length_map]; exact Nat.le_refl _)]; exact List.take_of_length_le (by rw [List.length_map]; exact Nat.le_refl _)), fun _ _ => rfl, rowI_rel E _, hbk, fun k' hk' => by cases hk'; exact ⟨hav, hM⟩⟩
 have hfz := hown.freeze b k _ (by unfold Heap.put; rw [if_pos rfl]; simp) hbk hav hM h1
 refine ⟨_, E.freeze k (.cells (ys.map (Value.int .i64) ++ us.drop ys.length).toArray t (0, 0)), rfl, ?_, ?_, fun _ _ => ⟨rfl, rfl⟩⟩
 ·refine hfz.drop fun i ob hi => ?_
  cases hi
 ·refine .slA 1 _ _ k 0 cap (fun i => [Value.int .i64 ((Lib.compact l).getD i 0)]) (by omega) hcm (fun _ _ => rfl) (fun i j hi hj => ?_) (fun i hi => .cons (.lit _) rfl .nil)
  have hj0 : j = 0 := by omega
  subst hj0
  simp only [mcell, frozen_self, Nat.zero_add, Nat.mul_one, Nat.add_zero, List.getElem?_toArray, List.getElem?_cons_zero]
  have hlt : i < (ys.map (Value.int .i64)).length := by rw [List.length_map, hys]; omega
  rw [List.getElem?_append_left hlt, List.getElem?_map]
  simp only [ys, List.getElem?_append_left hi, List.getElem?_eq_getElem hi, Option.map_some]
  simp [List.getD, List.getElem?_eq_getElem hi]
end Go.Ab
namespace Go.Sh
def wfTo (l : List WayS) (f n : Nat) : List Int := (l.take n).map (fun w => w.frm.getD f 0)
def wf (l : List WayS) (f : Nat) : List Int := l.map (fun w => w.frm.getD f 0)
theorem wfTo_succ {l : List WayS} {f n : Nat} (h : n < l.length) : wfTo l f (n + 1) = wfTo l f n ++ [(l.getD n default).frm.getD f 0] := by
 unfold wfTo; rw [Go.Ab.take_succ _ default h, List.map_append]; rfl
theorem wfTo_len {l : List WayS} {f n : Nat} (h : n <= l.length) : (wfTo l f n).length = n := by
 unfold wfTo; rw [List.length_map, List.length_take]; omega
theorem wfTo_full {l : List WayS} {f n : Nat} (h : l.length <= n) : wfTo l f n = wf l f := by
 unfold wfTo wf; rw [List.take_of_length_le h]
theorem wf_len (l : List WayS) (f : Nat) : (wf l f).length = l.length := by simp [wf]
def whereP (l : List WayS) (f : Nat) : List Int := compactI (sortI (wf l f))
def whereS (r : Run) (f : Int) : List Int := if openE r (isFound r f) = 0 then whereP (waysOf r) f.toNat else []
end Go.Sh
namespace Go.Ab
open Go Go.RowKit Go.Proofs Go.Sh Go.En
def s119 (b : Nat) (l : List Int) : CallSpec := { args := [.vec b], pre := 0 < l.length /\ l.length <= 65536, hin := [(b, rowI 3 l)], res := .tup [], hout := [(b, rowI 3 (sortI l))] }
theorem t119 (b : Nat) (l : List Int) : Triple Try.prog 119 (s119 b l) := triple_sort Try.call119 3 b l (fun k cap w h1 h2 h3 => Try.slices_Sort_int k 0 cap l w h1 h2 h3)
def s120 (b : Nat) (l : List Int) : CallSpec := { args := [.vec b], pre := 0 < l.length /\ l.length <= 65536, hin := [(b, rowI 3 l)], res := aInts (compactI l), hout := [] }
theorem t120 (b : Nat) (l : List Int) : Triple Try.prog 120 (s120 b l) := triple_compact Try.call120 3 b l (fun k cap w h1 h2 h3 => Try.slices_Compact_int k 0 cap l w h1 h2 h3) (compact_le l)
def s90 (l : List WayS) (f : Nat) : CallSpec := { args := [aWays l, iv f], res := aInts (whereP l f), pre := 0 < l.length /\ l.length <= 729 /\ ∀ x, x < l.length -> f < (l.getD x default).frm.length }
def h90 (l : List WayS) (f : Nat) : Hint := { X := Nat, M := fun i => [(10, iv i), (5, .vec 5000)], H := fun i => [(5000, rowI 3 (wfTo l f i))], I := fun i => i <= l.length, mu := fun i => l.length - i, x0 := (0 : Nat), nx := fun i => i + 1 }
def c90a (l : List WayS) (f : Nat) : CallSpec := s119 5000 (wf l f)
def c90b (l : List WayS) (f : Nat) : CallSpec := s120 5000 (sortI (wf l f))
def s35 (r : Run) (f : Int) : CallSpec := { args := [vRun r, iv f], res := .tup [aInts (whereS r f), iv (openE r (isFound r f))], pre := fits r }
def c35o (r : Run) (f : Int) : CallSpec := s78 r (isFound r f)
def c35 (r : Run) (f : Int) : CallSpec := s90 (openL r (isFound r f)) f.toNat
end Go.Ab
namespace Go.Ab
open Go Go.RowKit Go.Proofs Go.Sh Go.En
abbrev q90_1 (l : List WayS) (f : Nat) (C : Prop) : Prop := (0 < l.length /\ l.length <= 729 /\ ∀ (x : Nat), x < l.length -> f < (l.getD x default).frm.length) -> C
abbrev q90_2 (l : List WayS) (f : Nat) (C : Nat -> Prop) : Prop := q90_1 l f (∀ (x0 : Nat), x0 <= l.length -> decide ((x0 : Int) < (↑(l.length) : Int)) = true -> C x0)
abbrev q90_3 (l : List WayS) (f : Nat) (C : Nat -> Prop) : Prop := q90_1 l f (∀ (x0 : Nat), x0 <= l.length -> decide ((x0 : Int) < (↑(l.length) : Int)) = false -> C x0)
theorem w90 (l : List WayS) (f : Nat)
 (o0 : q90_1 l f (0 = (↑0 : Int)))
 (o1 : q90_1 l f ((wfTo l f 0).length = 0))
 (o2 : q90_1 l f (0 <= l.length))
 (o3 : q90_2 l f fun x0 => 0 <= (x0 : Int))
 (o4 : q90_2 l f fun x0 => (x0 : Int) < (↑(l.length) : Int))
 (o5 : q90_2 l f fun x0 => 0 <= (f : Int))
 (o6 : q90_2 l f fun x0 => (f : Int) < (↑((l.getD x0 default).frm.length) : Int))
 (o7 : q90_2 l f fun x0 => (wfTo l f x0).length + 1 <= 65536)
 (o8 : q90_2 l f fun x0 => inI ((x0 : Int) + 1))
 (o9 : q90_2 l f fun x0 => (x0 : Int) + 1 = (↑(x0 + 1) : Int))
 (o10 : q90_2 l f fun x0 => (wfTo l f x0).length + 1 = (wfTo l f (x0 + 1)).length)
 (o11 : q90_2 l f fun x0 => ∀ (i2 : Nat), i2 < (wfTo l f x0).length + 1 -> catF (wfTo l f x0).length (fun (i : Nat) => [iv ((wfTo l f x0).getD i 0)]) (fun (j : Nat) => List.getD [[iv ((l.getD x0 default).frm.getD f 0)]] j (TI.za ti3)) i2 = [iv ((wfTo l f (x0 + 1)).getD i2 0)])
 (o12 : q90_2 l f fun x0 => x0 + 1 <= l.length)
 (o13 : q90_2 l f fun x0 => l.length - (x0 + 1) < l.length - x0)
 (o14 : q90_3 l f fun x0 => (wfTo l f x0).length = (wf l f).length)
 (o15 : q90_3 l f fun x0 => ∀ (i4 : Nat), i4 < (wfTo l f x0).length -> [iv ((wfTo l f x0).getD i4 0)] = [iv ((wf l f).getD i4 0)])
 (o16 : q90_3 l f fun x0 => 0 < (wf l f).length)
 (o17 : q90_3 l f fun x0 => (wf l f).length <= 65536)
 (o18 : q90_3 l f fun x0 => 0 < (sortI (wf l f)).length)
 (o19 : q90_3 l f fun x0 => (sortI (wf l f)).length <= 65536)
 (o20 : q90_3 l f fun x0 => (compactI (sortI (wf l f))).length = (whereP l f).length)
 (o21 : q90_3 l f fun x0 => ∀ (i8 : Nat), i8 < (whereP l f).length -> [iv ((compactI (sortI (wf l f))).getD i8 0)] = [iv ((whereP l f).getD i8 0)]) :
  Triple Try.prog 90 (s90 l f) := by
 refine triple_of Try.func90 rfl Try.call90 T0_ok _ rfl rfl rfl rfl (Nat.le_of_ble_eq_true (by kernel_rfl)) (fun _ _ _ _ h => h) ?_
 intro hp C hC _ hE
 obtain ⟨P, w0, E0, av, hA⟩ := C
 subst hC
 refine swp_seq ?_
 refine sR (kt := [0, 1]) (kh := []) (q := True /\ True) (st' := ASt.mk [(0, aWays l), (1, iv (f : Int))] [] 8) (by kernel_rfl) ⟨tv, tv⟩ ?_
 refine swp_seq ?_
 refine sR (kt := [0, 1, 5]) (kh := []) (q := True /\ True) (st' := ASt.mk [(0, aWays l), (1, iv (f : Int)), (5, nilv)] [] 16) (by kernel_rfl) ⟨tv, tv⟩ ?_
 refine swp_seq (swp_seq ?_)
 refine sR (kt := [1, 5, 8, 9, 10]) (kh := []) (q := True /\ True /\ True /\ True) (st' := ASt.mk [(1, iv (f : Int)), (5, nilv), (8, aWays l), (9, iv (↑(l.length) : Int)), (10, iv 0)] [] 40) (by kernel_rfl) ⟨tv, tv, tv, tv⟩ ?_
 refine swp_block ?_
 refine swp_loopA (Hint.ann (h90 l f) [(1, iv (f : Int)), (8, aWays l), (9, iv (↑(l.length) : Int))] [] 10040) (ent_q hE [] [(5000, .nil)] [1, 8, 9] [] (((iv (f : Int) = iv (f : Int) /\ true = true) /\ (aWays l = aWays l /\ true = true) /\ (iv (↑(l.length) : Int) = iv (↑(l.length) : Int) /\ true = true) /\ (iv 0 = iv (↑0 : Int) /\ nilN = []) /\ some Src.nil = some Src.nil /\ True) /\ ((wfTo l f 0).length = 0 /\ True) /\ T2) (by kernel_rfl) (by kernel_rfl) ⟨⟨⟨rfl, rfl⟩, ⟨rfl, rfl⟩, ⟨rfl, rfl⟩, ⟨(congrArg iv (o0 hp)), rfl⟩, rfl, tv⟩, ⟨(o1 hp), tv⟩, rfl, rfl⟩) (o2 hp) (fun (x0 : Nat) hx0 => ?_)
 refine swp_seq ?_
 refine sR (kt := [1, 8, 9, 10, 5, 11]) (kh := [5000]) (q := True /\ True) (st' := ASt.mk [(1, iv (f : Int)), (8, aWays l), (9, iv (↑(l.length) : Int)), (10, iv (x0 : Int)), (5, .vec 5000), (11, bv (decide ((x0 : Int) < (↑(l.length) : Int))))] [(5000, .vec 3 1 (wfTo l f x0).length fun (i : Nat) => [iv ((wfTo l f x0).getD i 0)])] 10048) (by kernel_rfl) ⟨tv, tv⟩ ?_
 refine swp_seq ?_
 refine swp_cond (decide ((x0 : Int) < (↑(l.length) : Int))) (by kernel_rfl) (fun h1 => ?_) (fun h1 => ?_)
 ·refine swp_skip (swp_seq (swp_block (swp_seq ?_)))
  refine sR (kt := [1, 8, 9, 10, 5, 7]) (kh := [5000, 10064]) (q := (0 <= (x0 : Int) /\ (x0 : Int) < (↑(l.length) : Int)) /\ True /\ True /\ True /\ True) (st' := ASt.mk [(1, iv (f : Int)), (8, aWays l), (9, iv (↑(l.length) : Int)), (10, iv (x0 : Int)), (5, .vec 5000), (7, .ptr 10064 [])] [(5000, .vec 3 1 (wfTo l f x0).length fun (i : Nat) => [iv ((wfTo l f x0).getD i 0)]), (10064, .cells 107 (cWay (l.getD x0 default)))] 10080) (by kernel_rfl) ⟨⟨(o3 hp x0 hx0 h1), (o4 hp x0 hx0 h1)⟩, tv, tv, tv, tv⟩ ?_
  refine sR (kt := [1, 8, 9, 10, 5]) (kh := [10136]) (q := True /\ True /\ True /\ True /\ (0 <= (f : Int) /\ (f : Int) < (↑((l.getD x0 default).frm.length) : Int)) /\ True /\ True /\ (wfTo l f x0).length + 1 <= 65536 /\ True /\ True) (st' := ASt.mk [(1, iv (f : Int)), (8, aWays l), (9, iv (↑(l.length) : Int)), (10, iv (x0 : Int)), (5, .vec 10136)] [(10136, .vec 3 1 ((wfTo l f x0).length + 1) (catF (wfTo l f x0).length (fun (i : Nat) => [iv ((wfTo l f x0).getD i 0)]) fun (j : Nat) => List.getD [[iv ((l.getD x0 default).frm.getD f 0)]] j (TI.za ti3)))] 10152) (by kernel_rfl) ⟨tv, tv, tv, tv, ⟨(o5 hp x0 hx0 h1), (o6 hp x0 hx0 h1)⟩, tv, tv, (o7 hp x0 hx0 h1), tv, tv⟩ ?_
  refine sR (kt := [1, 8, 9, 10, 5]) (kh := [10136]) (q := inI ((x0 : Int) + 1) /\ True /\ True) (st' := ASt.mk [(1, iv (f : Int)), (8, aWays l), (9, iv (↑(l.length) : Int)), (10, iv ((x0 : Int) + 1)), (5, .vec 10136)] [(10136, .vec 3 1 ((wfTo l f x0).length + 1) (catF (wfTo l f x0).length (fun (i : Nat) => [iv ((wfTo l f x0).getD i 0)]) fun (j : Nat) => List.getD [[iv ((l.getD x0 default).frm.getD f 0)]] j (TI.za ti3)))] 10168) (by kernel_rfl) ⟨(o8 hp x0 hx0 h1), tv, tv⟩ ?_
  exact loop_next (Hint.ann (h90 l f) [(1, iv (f : Int)), (8, aWays l), (9, iv (↑(l.length) : Int))] [] 10040) x0 (ent_q hE [] [(5000, .same 10136)] [1, 8, 9] [] (((iv (f : Int) = iv (f : Int) /\ true = true) /\ (aWays l = aWays l /\ true = true) /\ (iv (↑(l.length) : Int) = iv (↑(l.length) : Int) /\ true = true) /\ (iv ((x0 : Int) + 1) = iv (↑(x0 + 1) : Int) /\ nilN = []) /\ some (Src.same 10136) = some (Src.same 10136) /\ True) /\ ((3 = 3 /\ 1 = 1 /\ (wfTo l f x0).length + 1 = (wfTo l f (x0 + 1)).length /\ ∀ (i2 : Nat), i2 < (wfTo l f x0).length + 1 -> catF (wfTo l f x0).length (fun (i : Nat) => [iv ((wfTo l f x0).getD i 0)]) (fun (j : Nat) => List.getD [[iv ((l.getD x0 default).frm.getD f 0)]] j (TI.za ti3)) i2 = [iv ((wfTo l f (x0 + 1)).getD i2 0)]) /\ True) /\ T2) (by kernel_rfl) (by kernel_rfl) ⟨⟨⟨rfl, rfl⟩, ⟨rfl, rfl⟩, ⟨rfl, rfl⟩, ⟨(congrArg iv (o9 hp x0 hx0 h1)), rfl⟩, rfl, tv⟩, ⟨⟨rfl, rfl, (o10 hp x0 hx0 h1), (fun i2 => (fun h3 => (o11 hp x0 hx0 h1 i2 h3)))⟩, tv⟩, rfl, rfl⟩) (o12 hp x0 hx0 h1) (o13 hp x0 hx0 h1)
 ·refine swp_exit (swp_seq ?_)
  refine swp_ent (ent_q (st2 := ASt.mk [(1, iv (f : Int)), (8, aWays l), (9, iv (↑(l.length) : Int)), (10, iv (x0 : Int)), (5, AV.vec 5000), (11, bv (decide ((x0 : Int) < (↑(l.length) : Int))))] [(5000, OB.vec 3 1 (wf l f).length fun (i : Nat) => [iv ((wf l f).getD i 0)])] 10048) hE [] [(5000, .same 5000)] [1, 8, 9, 10, 11] [] (((iv (f : Int) = iv (f : Int) /\ true = true) /\ (aWays l = aWays l /\ true = true) /\ (iv (↑(l.length) : Int) = iv (↑(l.length) : Int) /\ true = true) /\ (iv (x0 : Int) = iv (x0 : Int) /\ true = true) /\ some (Src.same 5000) = some (Src.same 5000) /\ (bv (decide ((x0 : Int) < (↑(l.length) : Int))) = bv (decide ((x0 : Int) < (↑(l.length) : Int))) /\ true = true) /\ True) /\ ((3 = 3 /\ 1 = 1 /\ (wfTo l f x0).length = (wf l f).length /\ ∀ (i4 : Nat), i4 < (wfTo l f x0).length -> [iv ((wfTo l f x0).getD i4 0)] = [iv ((wf l f).getD i4 0)]) /\ True) /\ T2) (by kernel_rfl) (by kernel_rfl) ⟨⟨⟨rfl, rfl⟩, ⟨rfl, rfl⟩, ⟨rfl, rfl⟩, ⟨rfl, rfl⟩, rfl, ⟨rfl, rfl⟩, tv⟩, ⟨⟨rfl, rfl, (o14 hp x0 hx0 h1), (fun i4 => (fun h5 => (o15 hp x0 hx0 h1 i4 h5)))⟩, tv⟩, rfl, rfl⟩) ?_
  refine swp_region T0_ok mixed (cs := [(1, CallSpec.eq (c90a l f) [true])]) (kt := [5]) (kh := [5000]) (q := True /\ ((AV.vec 5000 = AV.vec 5000 /\ True) /\ Triple Try.prog 119 (c90a l f) /\ (0 < (wf l f).length /\ (wf l f).length <= 65536) /\ (some (OB.vec 3 1 (wf l f).length fun (i : Nat) => [iv ((wf l f).getD i 0)]) = some (OB.vec 3 1 (wf l f).length fun (i : Nat) => [iv ((wf l f).getD i 0)]) /\ True) /\ ∀ (i6 : Env), True) /\ True) (st' := ASt.mk [(5, .vec 5000)] [(5000, .vec 3 1 (sortI (wf l f)).length fun (i : Nat) => [iv ((sortI (wf l f)).getD i 0)])] 10064) (by kernel_rfl) ⟨tv, ⟨⟨rfl, tv⟩, (t119 _ _), ⟨(o16 hp x0 hx0 h1), (o17 hp x0 hx0 h1)⟩, ⟨rfl, tv⟩, (fun i6 => tv)⟩, tv⟩ ?_
  refine swp_seq ?_
  refine swp_region T0_ok mixed (cs := [(1, CallSpec.eq (c90b l f) [true])]) (kt := [4]) (kh := []) (q := True /\ ((AV.vec 5000 = AV.vec 5000 /\ True) /\ Triple Try.prog 120 (c90b l f) /\ (0 < (sortI (wf l f)).length /\ (sortI (wf l f)).length <= 65536) /\ (some (OB.vec 3 1 (sortI (wf l f)).length fun (i : Nat) => [iv ((sortI (wf l f)).getD i 0)]) = some (OB.vec 3 1 (sortI (wf l f)).length fun (i : Nat) => [iv ((sortI (wf l f)).getD i 0)]) /\ True) /\ ∀ (i7 : Env), True) /\ True /\ True) (st' := ASt.mk [(4, aInts (compactI (sortI (wf l f))))] [] 10088) (by kernel_rfl) ⟨tv, ⟨⟨rfl, tv⟩, (t120 _ _), ⟨(o18 hp x0 hx0 h1), (o19 hp x0 hx0 h1)⟩, ⟨rfl, tv⟩, (fun i7 => tv)⟩, tv, tv⟩ ?_
  refine swp_ret ?_
  exact ret_q [] ((True /\ True) /\ (1 = 1 /\ (compactI (sortI (wf l f))).length = (whereP l f).length /\ ∀ (i8 : Nat), i8 < (whereP l f).length -> [iv ((compactI (sortI (wf l f))).getD i8 0)] = [iv ((whereP l f).getD i8 0)]) /\ T3) (by kernel_rfl) ⟨⟨tv, tv⟩, ⟨rfl, (o20 hp x0 hx0 h1), (fun i8 => (fun h9 => (o21 hp x0 hx0 h1 i8 h9)))⟩, rfl, rfl, rfl⟩
theorem t90 (l : List WayS) (f : Nat) : Triple Try.prog 90 (s90 l f) := by
  have hs : (sortI (wf l f)).length = l.length := by rw [sortI_len, wf_len]
  have hw := wf_len l f
  apply w90
  all_goals (first
    | ((repeat intro _) <;> (try simp only [v0, v1, v2, v3, v4, v5, v6, v7, v8, v9, inI, fits, Go.Sh.small] at *) <;> first | (exact rfl) | omega | exact vz | (simp_all; done) | (simp_all; omega))
    | (intro hp x hx hl
       simp only [decide_eq_true_eq, decide_eq_false_iff_not] at hl
       have h1 := wfTo_len (l := l) (f := f) hx
       have h2 := hp.2.2 x
       first
       | omega
       | (rw [wfTo_succ (by omega), List.length_append]; rfl)
       | (intro i hi; rw [wfTo_succ (by omega)]; exact catF_one _ _ 0 (fun z => [iv z]) rfl (fun _ _ => rfl) rfl hi)
       | (rw [wfTo_full (by omega)]; done)
       | (intro i hi; rw [wfTo_full (by omega)])))
abbrev q35_1 (r : Run) (f : Int) (C : Prop) : Prop := fits r -> (!decide (openE r (isFound r f) = 0)) = false -> C
theorem w35 (r : Run) (f : Int)
 (o0 : fits r -> (!decide (openE r (isFound r f) = 0)) -> (whereS r f).length = 0)
 (o1 : q35_1 r f (f = (↑(f.toNat) : Int)))
 (o2 : q35_1 r f (0 < (openL r (isFound r f)).length))
 (o3 : q35_1 r f ((openL r (isFound r f)).length <= 729))
 (o4 : q35_1 r f (∀ (i3 : Nat), i3 < (openL r (isFound r f)).length -> f.toNat < ((openL r (isFound r f)).getD i3 default).frm.length))
 (o5 : q35_1 r f ((whereP (openL r (isFound r f)) f.toNat).length = (whereS r f).length))
 (o6 : q35_1 r f (∀ (i6 : Nat), i6 < (whereS r f).length -> [iv ((whereP (openL r (isFound r f)) f.toNat).getD i6 0)] = [iv ((whereS r f).getD i6 0)]))
 (o7 : q35_1 r f (0 = openE r (isFound r f))) :
  Triple Try.prog 35 (s35 r f) := by
 refine triple_of Try.func35 rfl Try.call35 T0_ok _ rfl rfl rfl rfl (Nat.le_of_ble_eq_true (by kernel_rfl)) (fun _ _ _ _ h => h) ?_
 intro hp C hC _ hE
 obtain ⟨P, w0, E0, av, hA⟩ := C
 subst hC
 refine swp_seq ?_
 refine sR (kt := [1, 2]) (kh := [0]) (q := True /\ True /\ True /\ True) (st' := ASt.mk [(1, iv f), (2, .ptr 0 [])] [(0, .cells 25 (cRun r))] 24) (by kernel_rfl) ⟨tv, tv, tv, tv⟩ ?_
 refine swp_seq ?_
 refine swp_region T0_ok mixed (cs := [(3, CallSpec.eq (s85 r f) [true, true]), (4, CallSpec.eq (c35o r f) [true, true])]) (kt := [1, 6, 7]) (kh := []) (q := True /\ True /\ True /\ ((AV.agg (cRun r) = AV.agg (cRun r) /\ iv f = iv f /\ True) /\ Triple Try.prog 85 (s85 r f) /\ fits r /\ True /\ ∀ (i0 : Env), True) /\ ((AV.agg (cRun r) = AV.agg (cRun r) /\ bv (isFound r f) = bv (isFound r f) /\ True) /\ Triple Try.prog 78 (c35o r f) /\ fits r /\ True /\ ∀ (i1 : Env), True) /\ True /\ True /\ True /\ True /\ True /\ True) (st' := ASt.mk [(1, iv f), (6, aWays (openL r (isFound r f))), (7, iv (openE r (isFound r f)))] [] 104) (by kernel_rfl) ⟨tv, tv, tv, ⟨⟨rfl, rfl, tv⟩, (t85 (r) (f)), hp, tv, (fun i0 => tv)⟩, ⟨⟨rfl, rfl, tv⟩, (t78 _ _), hp, tv, (fun i1 => tv)⟩, tv, tv, tv, tv, tv, tv⟩ ?_
 refine swp_seq (swp_seq ?_)
 refine sR (kt := [1, 6, 7, 17]) (kh := []) (q := True /\ True /\ True) (st' := ASt.mk [(1, iv f), (6, aWays (openL r (isFound r f))), (7, iv (openE r (isFound r f))), (17, bv !decide (openE r (isFound r f) = 0))] [] 120) (by kernel_rfl) ⟨tv, tv, tv⟩ ?_
 refine swp_cond (!decide (openE r (isFound r f) = 0)) (by kernel_rfl) (fun h2 => ?_) (fun h2 => ?_)
 ·refine swp_seq ?_
  refine sR (kt := [4, 5]) (kh := []) (q := True /\ True /\ True /\ True) (st' := ASt.mk [(4, nilv), (5, iv (openE r (isFound r f)))] [] 144) (by kernel_rfl) ⟨tv, tv, tv, tv⟩ ?_
  refine swp_ret ?_
  exact ret_q [] ((True /\ True /\ True) /\ ((whereS r f).length = 0 /\ (iv (openE r (isFound r f)) = iv (openE r (isFound r f)) /\ nilN = []) /\ True) /\ T3) (by kernel_rfl) ⟨⟨tv, tv, tv⟩, ⟨(o0 hp h2), ⟨rfl, rfl⟩, tv⟩, rfl, rfl, rfl⟩
 ·refine swp_skip (swp_seq ?_)
  refine swp_region T0_ok mixed (cs := [(2, CallSpec.eq (c35 r f) [true, false])]) (kt := [4, 5]) (kh := []) (q := True /\ True /\ ((aWays (openL r (isFound r f)) = aWays (openL r (isFound r f)) /\ iv f = iv (↑(f.toNat) : Int) /\ True) /\ Triple Try.prog 90 (c35 r f) /\ (0 < (openL r (isFound r f)).length /\ (openL r (isFound r f)).length <= 729 /\ ∀ (i3 : Nat), i3 < (openL r (isFound r f)).length -> f.toNat < ((openL r (isFound r f)).getD i3 default).frm.length) /\ True /\ ∀ (i5 : Env), True) /\ True /\ True /\ True) (st' := ASt.mk [(4, aInts (whereP (openL r (isFound r f)) f.toNat)), (5, iv 0)] [] 160) (by kernel_rfl) ⟨tv, tv, ⟨⟨rfl, (congrArg iv (o1 hp h2)), tv⟩, (t90 _ _), ⟨(o2 hp h2), (o3 hp h2), (fun i3 => (fun h4 => (o4 hp h2 i3 h4)))⟩, tv, (fun i5 => tv)⟩, tv, tv, tv⟩ ?_
  refine swp_ret ?_
  exact ret_q [] ((True /\ True /\ True) /\ ((1 = 1 /\ (whereP (openL r (isFound r f)) f.toNat).length = (whereS r f).length /\ ∀ (i6 : Nat), i6 < (whereS r f).length -> [iv ((whereP (openL r (isFound r f)) f.toNat).getD i6 0)] = [iv ((whereS r f).getD i6 0)]) /\ (iv 0 = iv (openE r (isFound r f)) /\ nilN = []) /\ True) /\ T3) (by kernel_rfl) ⟨⟨tv, tv, tv⟩, ⟨⟨rfl, (o5 hp h2), (fun i6 => (fun h7 => (o6 hp h2 i6 h7)))⟩, ⟨(congrArg iv (o7 hp h2)), rfl⟩, tv⟩, rfl, rfl, rfl⟩
theorem t35 (r : Run) (f : Int) : Triple Try.prog 35 (s35 r f) := by
  apply w35
  all_goals (first
    | ((repeat intro _) <;> (try simp only [v0, v1, v2, v3, v4, v5, v6, v7, v8, v9, inI, fits, Go.Sh.small] at *) <;> first | (exact rfl) | omega | exact vz | (simp_all; done) | (simp_all; omega))
    | (intro _ h; rw [whereS, if_neg (openBad h)] <;> rfl)
    | (intro _ h
       have F := openF h
       have h1 : 0 <= f /\ f < r.found.length := by have := F.isT; simp only [isFound, Go.Sh.within_iff] at this; omega
       have h2 := F.len
       have h3 := F.pos
       first
       | exact F.zero.symm
       | omega
       | (intro x hx; rw [F.frm x hx]; omega)
       | (rw [whereS, if_pos F.zero, F.eq]; done)
       | (intro x hx; rw [whereS, if_pos F.zero, F.eq])))
end Go.Ab
namespace Go.Ab
open Go Go.RowKit
theorem swp_cases {C : Ctx} {nt : Nat} {K : AX -> ASt -> Prop} {st : ASt} {c : Code} (b : Bool) (h1 : b = true -> SWP C nt c K st) (h2 : b = false -> SWP C nt c K st) : SWP C nt c K st := by
 cases b with
 | true => exact h1 rfl
 | false => exact h2 rfl
def hoIn (L : List (Nat × OB)) : List (Nat × OB) -> Prop
 | [] => True
 | p :: r => Heap.of L p.1 = some p.2 /\ hoIn L r
theorem hoIn_mem {L : List (Nat × OB)} : ∀ {l : List (Nat × OB)}, hoIn L l -> ∀ p ∈ l, Heap.of L p.1 = some p.2 := by
 intro l
 induction l with
 | nil => intro _ p hp; cases hp
 | cons q r ih =>
  intro h p hp
  cases hp with
  | head => exact h.1
  | tail _ hp => exact ih h.2 p hp
def retO (T : Tab) (rs : List ResultVar) (st : ASt) (res : AV) (hout : List (Nat × OB)) : Prop :=
 match resVals T st rs with
 | some (q, rvs) => q /\ retAV rvs = res /\ hoIn st.hp hout
 | none => False
def RetO (C : Ctx) (nt : Nat) (T : Tab) (rs : List ResultVar) (res : AV) (hout : List (Nat × OB)) : AX -> ASt -> Prop
 | .exit _, _ => False
 | _, st => ∃ st2, Ent C nt st st2 /\ retO T rs st2 res hout
def renI : List (Nat × Nat) -> Nat -> Nat
 | [], j => j
 | p :: r, j => if p.1 = j then p.2 else renI r j
def renC (l : List (Nat × Nat)) : AV -> AV
 | .vec b => .vec (renI l b)
 | v => v
def renV1 (l : List (Nat × Nat)) : AV -> AV
 | .agg cs => .agg (cs.map (renC l))
 | v => renC l v
def renV (l : List (Nat × Nat)) : AV -> AV
 | .tup vs => .tup (vs.map (renV1 l))
 | v => renV1 l v
def renB (l : List (Nat × Nat)) : OB -> OB
 | .vecx t sz n f j fj => .vecx t sz n f j (fj.map (renC l))
 | ob => ob
def okC (ks : List Nat) : AV -> Bool
 | .vec b => ks.contains b
 | v => (ids v).isEmpty
def okV1 (ks : List Nat) : AV -> Bool
 | .agg cs => cs.all (okC ks)
 | v => okC ks v
def okV (ks : List Nat) : AV -> Bool
 | .tup vs => vs.all (okV1 ks)
 | v => okV1 ks v
def okB (ks : List Nat) : OB -> Bool
 | .vec _ _ _ _ => true
 | .vecx _ _ _ _ _ fj => fj.all (okC ks) && noFnL fj
 | _ => false
structure OutSpec where
 args : List AV
 pre : Prop := True
 res : AV
 hout : List (Nat × OB)
def OutSpec.at (s : OutSpec) (l : List (Nat × Nat)) : CallSpec := { args := s.args, pre := s.pre, res := renV l s.res, hout := s.hout.map (fun p => (renI l p.1, renB l p.2)) }
theorem noDup_nodup : ∀ {l : List Nat}, noDup l = true -> l.Nodup := by
 intro l
 induction l with
 | nil => intro _; exact List.nodup_nil
 | cons c l ih =>
  intro h
  obtain ⟨h1, h2⟩ := noDup_cons h
  exact List.nodup_cons.2 ⟨h1, ih h2⟩
structure Ren (l : List (Nat × Nat)) (E F : Env) : Prop where
 M : ∀ b o, E.M b = some o -> F.M b = some o
 fns : F.fns = E.fns
 same : ∀ c, c ∈ l.map (·.1) -> F.blk (renI l c) = E.blk c /\ F.hdr (renI l c) = E.hdr c
theorem renC_rel {l : List (Nat × Nat)} {E F : Env} (hr : Ren l E F) {v : AV} {u : Value} (ho : okC (l.map (·.1)) v = true) (h : Rel E true v u) : Rel F true (renC l v) u := by
 cases v with
 | vec b =>
  have hm : b ∈ l.map (·.1) := by simpa [okC] using ho
  cases h with
  | vec _ hh h1 => exact .vec _ (by rw [(hr.same b hm).2]; exact hh) h1
 | _ =>
  simp only [renC]
  simp only [okC, List.isEmpty_iff] at ho
  exact Rel.trim hr.M hr.fns h (fun _ => ho)
theorem renL_rel {l : List (Nat × Nat)} {E F : Env} (hr : Ren l E F) : ∀ {cs : List AV} {us : List Value}, cs.all (okC (l.map (·.1))) = true -> RelL E true cs us -> RelL F true (cs.map (renC l)) us := by
 intro cs
 induction cs with
 | nil => intro us _ h; cases h; exact .nil
 | cons c cs ih =>
  intro us ho h
  simp only [List.all_cons, Bool.and_eq_true] at ho
  cases h with
  | cons h h1 hs => exact .cons (renC_rel hr ho.1 h) h1 (ih ho.2 hs)
  | arr g hg h hs => exact .arr g hg (fun i hi => (h i hi).trim hr.M hr.fns) (ih ho.2 hs)
theorem renV1_rel {l : List (Nat × Nat)} {E F : Env} (hr : Ren l E F) {v : AV} {u : Value} (ho : okV1 (l.map (·.1)) v = true) (h : Rel E true v u) : Rel F true (renV1 l v) u := by
 cases v with
 | agg cs =>
  cases h with
  | agg hl => exact .agg (renL_rel hr ho hl)
 | _ =>
  simp only [renV1]
  simp only [okV1] at ho
  exact renC_rel hr ho h
theorem renV_rel {l : List (Nat × Nat)} {E F : Env} (hr : Ren l E F) {v : AV} {u : Value} (ho : okV (l.map (·.1)) v = true) (h : Rel E true v u) : Rel F true (renV l v) u := by
 cases v with
 | tup vs =>
  cases h with
  | tup hl hk =>
   rename_i us
   refine .tup (by rw [List.length_map]; exact hl) fun k => ?_
   have h0 := hk k
   simp only [okV, List.all_eq_true] at ho
   by_cases hlt : k < vs.length
   ·have e1 : (vs.map (renV1 l)).getD k .any = renV1 l (vs.getD k .any) := by
     simp [List.getD, List.getElem?_eq_getElem hlt]
    rw [e1]
    refine renV1_rel hr (ho _ ?_) h0
    simp [List.getD, List.getElem?_eq_getElem hlt]
   ·rw [List.getD_eq_getElem?_getD, List.getElem?_eq_none (by simpa using hlt)]
    exact .any _
 | _ =>
  simp only [renV]
  simp only [okV] at ho
  exact renV1_rel hr ho h
theorem renI_mem : ∀ {l : List (Nat × Nat)} {c : Nat}, c ∈ l.map (·.1) -> (c, renI l c) ∈ l := by
 intro l
 induction l with
 | nil => intro c h; cases h
 | cons p r ih =>
  intro c h
  unfold renI
  split
  ·rename_i e; rw [← e]; exact List.mem_cons_self
  ·rename_i e
   refine List.mem_cons_of_mem _ (ih ?_)
   simp only [List.map_cons, List.mem_cons] at h
   rcases h with h | h
   ·exact absurd h.symm e
   ·exact h
def unI : List (Nat × Nat) -> Nat -> Option Nat
 | [], _ => none
 | p :: r, j => if p.2 = j then some p.1 else unI r j
theorem unI_of : ∀ {l : List (Nat × Nat)}, (l.map (·.2)).Nodup -> ∀ {c b : Nat}, (c, b) ∈ l -> unI l b = some c := by
 intro l
 induction l with
 | nil => intro _ c b h; cases h
 | cons p r ih =>
  intro hn c b h
  rw [List.map_cons, List.nodup_cons] at hn
  unfold unI
  cases h with
  | head => rw [if_pos rfl]
  | tail _ h =>
   have : ¬ p.2 = b := fun e => hn.1 (by rw [e]; exact List.mem_map_of_mem (f := fun x : Nat × Nat => x.2) h)
   rw [if_neg this]
   exact ih hn.2 h
theorem unI_mem : ∀ {l : List (Nat × Nat)} {c b : Nat}, unI l b = some c -> (c, b) ∈ l := by
 intro l
 induction l with
 | nil => intro c b h; cases h
 | cons p r ih =>
  intro c b h
  unfold unI at h
  split at h
  ·rename_i e; cases h; rw [← e]; exact List.mem_cons_self
  ·exact List.mem_cons_of_mem _ (ih h)
theorem triple_out {P : Program} {f : FuncId} {fn : Func} {c : Code} {T : Tab} (hf : P.funcs[f]? = some fn) (hb : fn.body = some c) (hcall : Callable P f) (hT : Tab.ok P T) (args : List AV) (pre : Prop) (res : AV) (hout : List (Nat × OB)) (l : List (Nat × Nat))
  (hargs : idsL args = []) (hn : args.length <= fn.ntmps) (hl1 : l.map (·.1) = hout.map (·.1)) (hnd : (l.map (·.2)).Nodup) (hres : okV (hout.map (·.1)) res = true) (hob : hout.all (fun p => okB (hout.map (·.1)) p.2) = true) (hnd1 : noDup (hout.map (·.1)) = true)
  (body : pre -> ∀ C : Ctx, C.P = P -> (∀ j, C.E0.blk j = none /\ C.E0.hdr j = none) -> SWP C fn.ntmps c (RetO C fn.ntmps T fn.results.toList res hout) ⟨argsTm args 0, [], 0⟩) :
  Triple P f ((⟨args, pre, res, hout⟩ : OutSpec).at l) := by
 have hk : ∀ p ∈ l, ∃ ob, (p.1, ob) ∈ hout := by
  intro p hp
  have : p.1 ∈ hout.map (·.1) := by rw [← hl1]; exact List.mem_map_of_mem (f := fun x : Nat × Nat => x.1) hp
  obtain ⟨q, hq, he⟩ := List.mem_map.1 this
  exact ⟨q.2, by rw [← he]; exact hq⟩
 replace hnd1 : (l.map (·.1)).Nodup := by rw [hl1]; exact noDup_nodup hnd1
 rw [← hl1] at hres
 replace hob : hout.all (fun p => okB (l.map (·.1)) p.2 && (l.map (·.1)).contains p.1) = true := by
  rw [List.all_eq_true] at hob ⊢
  intro p hp
  rw [hl1, hob p hp, Bool.true_and, List.contains_eq_mem]
  exact decide_eq_true (List.mem_map_of_mem (f := fun x : Nat × OB => x.1) hp)
 show Triple P f { args := args, pre := pre, res := renV l res, hout := hout.map (fun p => (renI l p.1, renB l p.2)) }
 refine ⟨hcall, fun hpre E w vs _ hok hlen hrel hfresh => ?_⟩
 let E0 : Env := { E with blk := fun _ => none, hdr := fun _ => none }
 let C : Ctx := calleeCtx P E0 w []
 have hok0 : HeapOK C E0 (Heap.of []) w := ⟨rfl, rfl, rfl, Nat.le_refl _, fun _ _ => rfl, fun b o h => hok.mem b o h, Env.le.refl _, fun b o h => .inl h, (fun i ob h => by cases h), (fun i j k _ h => absurd rfl h)⟩
 have htm : ∀ t, Rel E0 true (look (argsTm args 0) t) ((vs.toArray ++ Array.replicate (fn.ntmps - vs.toArray.size) undef).getD t undef) := by
  intro t
  rw [look_args, if_pos (Nat.zero_le _), Nat.sub_zero]
  rcases Nat.lt_or_ge t vs.length with ht | ht
  ·have h1 : (vs.toArray ++ Array.replicate (fn.ntmps - vs.toArray.size) undef).getD t undef = vs.getD t undef := by
    simp only [Array.getD_eq_getD_getElem?, List.getD_eq_getElem?_getD]
    rw [Array.getElem?_append_left (by simpa using ht)]
    simp
   rw [h1]
   exact Rel.trim (E := E) (F := E0) (fun _ _ h => h) rfl (hrel t) (fun _ => idsL_get hargs t)
  ·have hl' : vs.length = args.length := hlen
   rw [List.getD_eq_getElem?_getD, List.getElem?_eq_none (by omega)]
   exact .any _
 have hl' : vs.length = args.length := hlen
 have hsat : Sat C E0 fn.ntmps ⟨argsTm args 0, [], 0⟩ w { tmps := vs.toArray ++ Array.replicate (fn.ntmps - vs.toArray.size) undef, defers := [] } :=
  ⟨⟨hok0, htm, rfl, by simp; omega⟩, fun j _ => ⟨rfl, rfl⟩⟩
 have hsw := body hpre C rfl (fun j => ⟨rfl, rfl⟩) E0 w _ hsat
 refine calls_of_wp hf hb (wp_mono hsw ?_)
 rintro e a' w' ⟨x, E1, st1, rfl, hs1, hk1⟩
 have fin : (∃ st2, Ent C fn.ntmps st1 st2 /\ retO T fn.results.toList st2 res hout) -> a'.defers = [] /\ ∃ v, (results fn a'.tmps).run P w' = .ok v w' /\ CallPost P { args := args, pre := pre, res := renV l res, hout := hout.map (fun p => (renI l p.1, renB l p.2)) } E w (.returned v) w' := by
  rintro ⟨st2, hent, hq⟩
  obtain ⟨E', hs'⟩ := hent E1 w' a' hs1
  refine ⟨hs'.ok.defers, ?_⟩
  unfold retO at hq
  split at hq
  ·rename_i q rvs hrv
   obtain ⟨hq0, hres0, hho⟩ := hq
   obtain ⟨us, hus, hul, hur⟩ := resVals_run (C := C) hT hs' _ q rvs hrv hq0
   have hrun := results_run (P := P) hus
   refine ⟨_, hrun, ?_⟩
   have hrv' : Rel E' true (retAV rvs) (if h : us.length = 1 then us[0] else .tuple us.toArray) := by
    cases rvs with
    | nil =>
     have : us = [] := List.eq_nil_of_length_eq_zero hul
     subst this
     exact .tup rfl (fun k => hur k)
    | cons v r =>
     cases r with
     | nil =>
      have hul1 : us.length = 1 := hul
      rw [dif_pos hul1]
      have := hur 0
      simp only [List.getD_cons_zero] at this
      rw [List.getD_eq_getElem?_getD, List.getElem?_eq_getElem (by omega)] at this
      exact this
     | cons v2 r =>
      have hne : ¬ us.length = 1 := by rw [hul]; simp
      rw [dif_neg hne]
      exact .tup (cs := v :: v2 :: r) hul hur
   rw [hres0] at hrv'
   have hle := hs'.ok.heap.le
   let F : Env := { E with M := E'.M, blk := fun j => match unI l j with | some c => E'.blk c | none => E.blk j, hdr := fun j => match unI l j with | some c => E'.hdr c | none => E.hdr j }
   have hfns : F.fns = E'.fns := by
    show E.fns = E'.fns
    exact (hle.fns.symm : E0.fns = E'.fns)
   have hren : Ren l E' F := by
    refine ⟨fun b o h => h, hfns, fun c hc => ?_⟩
    have := unI_of hnd (renI_mem hc)
    constructor
    ·show (match unI l (renI l c) with | some c => E'.blk c | none => E.blk (renI l c)) = _
     rw [this]
    ·show (match unI l (renI l c) with | some c => E'.hdr c | none => E.hdr (renI l c)) = _
     rw [this]
   have hinfo : ∀ p ∈ hout, okB (l.map (·.1)) p.2 = true /\ p.1 ∈ l.map (·.1) := by
    intro p hp
    rw [List.all_eq_true] at hob
    have := hob p hp
    simp only [Bool.and_eq_true, List.contains_eq_mem, decide_eq_true_eq] at this
    exact this
   have hfr : ∀ j c, unI l j = some c -> E.blk j = none /\ E.hdr j = none := by
    intro j c hj
    obtain ⟨ob, hob'⟩ := hk _ (unI_mem hj)
    have hm : c ∈ l.map (·.1) := (hinfo _ hob').2
    have h1 := unI_of hnd (renI_mem hm)
    have h2 := renI_mem hm
    have hjr : renI l c = j := by
     have h3 := unI_mem hj
     -- both pairs have the same first part
     have key : ∀ {l : List (Nat × Nat)}, (l.map (·.1)).Nodup -> ∀ {c a b : Nat}, (c, a) ∈ l -> (c, b) ∈ l -> a = b := by
      intro l
      induction l with
      | nil => intro _ c a b h; cases h
      | cons p r ih =>
       intro hn c a b ha hb
       rw [List.map_cons, List.nodup_cons] at hn
       cases ha with
       | head =>
        cases hb with
        | head => rfl
        | tail _ hb => exact absurd (List.mem_map_of_mem (f := fun x : Nat × Nat => x.1) hb) hn.1
       | tail _ ha =>
        cases hb with
        | head => exact absurd (List.mem_map_of_mem (f := fun x : Nat × Nat => x.1) ha) hn.1
        | tail _ hb => exact ih hn.2 ha hb
     exact key hnd1 h2 h3
    have hmem : (renI l c, renB l ob) ∈ hout.map (fun p => (renI l p.1, renB l p.2)) := List.mem_map_of_mem (f := fun p : Nat × OB => (renI l p.1, renB l p.2)) hob'
    have := hfresh _ hmem (fun q hq => by cases hq)
    rw [hjr] at this
    exact this
   have lF : E.le F := by
    refine ⟨fun b o h => hle.M b o h, fun b k h => ?_, fun b u h => ?_, rfl⟩
    ·show (match unI l b with | some c => E'.blk c | none => E.blk b) = some k
     cases e : unI l b with
     | none => exact h
     | some c => rw [(hfr b c e).1] at h; cases h
    ·show (match unI l b with | some c => E'.hdr c | none => E.hdr b) = some u
     cases e : unI l b with
     | none => exact h
     | some c => rw [(hfr b c e).2] at h; cases h
   have hget : ∀ i ob, Heap.of (hout.map (fun p => (renI l p.1, renB l p.2))) i = some ob -> ∃ c ob0, unI l i = some c /\ ob = renB l ob0 /\ Heap.of st2.hp c = some ob0 /\ okB (l.map (·.1)) ob0 = true /\ renI l c = i := by
    intro i ob hi
    have hm := Heap.of_mem hi
    obtain ⟨p, hp, he⟩ := List.mem_map.1 hm
    cases he
    exact ⟨p.1, p.2, unI_of hnd (renI_mem (hinfo p hp).2), rfl, hoIn_mem hho p hp, (hinfo p hp).1, rfl⟩
   have h' := hs'.ok.heap
   have av1 : ∀ x, C.avail x -> (calleeCtx P E w []).avail x := by
    rintro x (h | ⟨q, hq, _⟩)
    ·exact .inl h
    ·cases hq
   refine ⟨_, F, rfl, ?_, renV_rel hren hres hrv', fun j hj => ?_⟩
   ·refine ⟨h'.os, h'.tape, h'.output, h'.size, fun x hx => h'.pres x (fun h => hx (av1 x h)), fun x o h => h'.mem x o h, lF, fun x o h => ?_, fun i ob hi => ?_, fun i j y hij hi hj hiy hjy => ?_⟩
    ·rcases h'.ext x o h with h | h
     ·exact .inl h
     ·exact .inr (av1 x h)
    ·obtain ⟨c, ob0, hc, rfl, hst, hok', hri⟩ := hget i ob hi
     have hown := h'.own c ob0 hst
     have hcb : F.blk i = E'.blk c := by
      show (match unI l i with | some c => E'.blk c | none => E.blk i) = _
      rw [hc]
     have hch : F.hdr i = E'.hdr c := by
      show (match unI l i with | some c => E'.hdr c | none => E.hdr i) = _
      rw [hc]
     cases ob0 with
     | vec t sz n f =>
      obtain ⟨hd, g, hh, ho, hgl, hgr, hbk, hav⟩ := hown
      exact ⟨hd, g, by rw [hch]; exact hh, ho, hgl, fun i hi => RelL.trim (E := E') (F := F) (fun _ _ h => h) hfns (hgr i hi), by rw [hcb]; exact hbk, fun k hk => ⟨av1 k (hav k hk).1, (hav k hk).2⟩⟩
     | vecx t sz n f j fj =>
      obtain ⟨hd, g, hh, ho, hgl, hgr, hgj, hbk, hav⟩ := hown
      simp only [okB, Bool.and_eq_true] at hok'
      exact ⟨hd, g, by rw [hch]; exact hh, ho, hgl, fun i hi hij => RelL.trim (E := E') (F := F) (fun _ _ h => h) hfns (hgr i hi hij), fun h => renL_rel hren hok'.1 (hgj h), by rw [hcb]; exact hbk, fun k hk => ⟨av1 k (hav k hk).1, (hav k hk).2⟩⟩
     | _ => cases hok'
    ·have get : ∀ i, Heap.of (hout.map (fun p => (renI l p.1, renB l p.2))) i ≠ none -> F.blk i = some y -> ∃ c, unI l i = some c /\ Heap.of st2.hp c ≠ none /\ E'.blk c = some y /\ renI l c = i := by
      intro i hi hiy
      cases e : Heap.of (hout.map (fun p => (renI l p.1, renB l p.2))) i with
      | none => exact absurd e hi
      | some ob =>
       obtain ⟨c, ob0, hc, rfl, hst, hok', hri⟩ := hget i ob e
       refine ⟨c, hc, by rw [hst]; simp, ?_, hri⟩
       have : F.blk i = E'.blk c := by
        show (match unI l i with | some c => E'.blk c | none => E.blk i) = _
        rw [hc]
       rw [← this]; exact hiy
     obtain ⟨c1, _, n1, k1, r1⟩ := get i hi hiy
     obtain ⟨c2, _, n2, k2, r2⟩ := get j hj hjy
     exact h'.sep c1 c2 y (fun e => hij (by rw [← r1, ← r2, e])) n1 n2 k1 k2
   ·have : unI l j = none := by
     cases e : unI l j with
     | none => rfl
     | some c =>
      obtain ⟨ob, hob'⟩ := hk _ (unI_mem e)
      have hm : c ∈ l.map (·.1) := (hinfo _ hob').2
      exfalso
      have hmem : (renI l c, renB l ob) ∈ hout.map (fun p => (renI l p.1, renB l p.2)) := List.mem_map_of_mem (f := fun p : Nat × OB => (renI l p.1, renB l p.2)) hob'
      refine hj _ hmem ?_
      show renI l c = j
      have h2 := renI_mem hm
      have h3 := unI_mem e
      have key : ∀ {l : List (Nat × Nat)}, (l.map (·.1)).Nodup -> ∀ {c a b : Nat}, (c, a) ∈ l -> (c, b) ∈ l -> a = b := by
       intro l
       induction l with
       | nil => intro _ c a b h; cases h
       | cons p r ih =>
        intro hn c a b ha hb
        rw [List.map_cons, List.nodup_cons] at hn
        cases ha with
        | head =>
         cases hb with
         | head => rfl
         | tail _ hb => exact absurd (List.mem_map_of_mem (f := fun x : Nat × Nat => x.1) hb) hn.1
        | tail _ ha =>
         cases hb with
         | head => exact absurd (List.mem_map_of_mem (f := fun x : Nat × Nat => x.1) ha) hn.1
         | tail _ hb => exact ih hn.2 ha hb
      exact key hnd1 h2 h3
    constructor
    ·show (match unI l j with | some c => E'.blk c | none => E.blk j) = _
     rw [this]
    ·show (match unI l j with | some c => E'.hdr c | none => E.hdr j) = _
     rw [this]
  ·exact hq.elim
 cases x with
 | normal => exact fin hk1
 | ret => exact fin hk1
 | exit id => exact hk1.elim
section
variable {C : Ctx} {nt : Nat} {K : AX -> ASt -> Prop} {st : ASt}
theorem ret_o {T : Tab} {rs : List ResultVar} {res : AV} {hout : List (Nat × OB)} (st2 : ASt) (he : Ent C nt st st2) (q : Prop) (hq : retO T rs st2 res hout = q) (h : q) : RetO C nt T rs res hout .ret st := ⟨st2, he, by rw [hq]; exact h⟩
end
end Go.Ab
namespace Go.Sh
def eqN (i j : Nat) : Bool := decide (i = j)
theorem eqN_t {i j : Nat} (h : eqN i j = true) : i = j := of_decide_eq_true h
theorem eqN_f {i j : Nat} (h : eqN i j = false) : i ≠ j := of_decide_eq_false h
def chLen (r : Run) (j i : Nat) : Nat := if j < i then (mach r j).changes.length else 0
def nwLen (r : Run) (j i : Nat) : Nat := if j < i then (fnd r j).new.length else 0
theorem chLen_self (r : Run) (j : Nat) : chLen r j (j + 1) = (mach r j).changes.length := if_pos (Nat.lt_succ_self j)
theorem chLen_other {r : Run} {j i : Nat} (h : i ≠ j) : chLen r j (i + 1) = chLen r j i := by
 unfold chLen
 by_cases h1 : j < i
 ·rw [if_pos h1, if_pos (by omega)]
 ·rw [if_neg h1, if_neg (by omega)]
theorem nwLen_self (r : Run) (j : Nat) : nwLen r j (j + 1) = (fnd r j).new.length := if_pos (Nat.lt_succ_self j)
theorem nwLen_other {r : Run} {j i : Nat} (h : i ≠ j) : nwLen r j (i + 1) = nwLen r j i := by
 unfold nwLen
 by_cases h1 : j < i
 ·rw [if_pos h1, if_pos (by omega)]
 ·rw [if_neg h1, if_neg (by omega)]
end Go.Sh
namespace Go.Ab
open Go Go.RowKit Go.Proofs Go.Sh Go.En
def focS : CallSpec := { args := [], res := .any }
def ou20 (r : Run) (jm jf : Nat) : OutSpec := { args := [vRun r], pre := small r, res := .agg [iv r.plates, iv r.last, .vec 0, .vec 1], hout := [(0, .vecx 42 2 r.machines.length (fun k => cMach (mach r k)) jm [.vec 2, iv (mach r jm).rate]), (1, .vecx 32 3 r.found.length (fun k => cFnd (fnd r k)) jf [iv (fnd r jf).minute, .vec 3, aInts (fnd r jf).frm]), (2, .vec 37 2 (chLen r jm r.machines.length) (fun p => cSpan (chg (mach r jm) p))), (3, .vec 3 1 (nwLen r jf r.found.length) (fun p => [iv ((fnd r jf).new.getD p 0)]))] }
def h20xa (r : Run) (jm jf : Nat) : Hint := { X := Nat, M := fun i => [(4, iv i)], H := fun i => [(56, .cells 25 [iv r.plates, iv r.last, .vec 5000, nilv]), (5000, .vecx 42 2 i (fun k => cMach (mach r k)) jm [.vec 5002, iv (mach r jm).rate]), (5002, .vec 37 2 (chLen r jm i) (fun p => cSpan (chg (mach r jm) p)))], I := fun i => i <= r.machines.length, mu := fun i => r.machines.length - i, x0 := (0 : Nat), nx := fun i => i + 1 }
def h20xb (r : Run) (jm jf : Nat) : Hint := { X := Nat, M := fun i => [(5, iv i)], H := fun i => [(56, .cells 25 [iv r.plates, iv r.last, .vec 5000, .vec 5001]), (5000, .vecx 42 2 r.machines.length (fun k => cMach (mach r k)) jm [.vec 5002, iv (mach r jm).rate]), (5002, .vec 37 2 (chLen r jm r.machines.length) (fun p => cSpan (chg (mach r jm) p))), (5001, .vecx 32 3 i (fun k => cFnd (fnd r k)) jf [iv (fnd r jf).minute, .vec 5003, aInts (fnd r jf).frm]), (5003, .vec 3 1 (nwLen r jf i) (fun p => [iv ((fnd r jf).new.getD p 0)]))], I := fun i => i <= r.found.length, mu := fun i => r.found.length - i, x0 := (0 : Nat), nx := fun i => i + 1 }
def f20 (r : Run) (jm jf : Nat) (i : Nat) : CallSpec := focS
end Go.Ab
namespace Go.Ab
open Go Go.RowKit Go.Proofs Go.Sh Go.En
abbrev qo20_1 (r : Run) (jm : Nat) (jf : Nat) (C : Nat -> Prop) : Prop := small r -> ∀ (x0 : Nat), x0 <= r.machines.length -> decide ((x0 : Int) < (↑(r.machines.length) : Int)) = true -> C x0
abbrev qo20_2 (r : Run) (jm : Nat) (jf : Nat) (C : Nat -> Prop) : Prop := qo20_1 r jm jf fun x0 => eqN x0 jm = true -> C x0
abbrev qo20_3 (r : Run) (jm : Nat) (jf : Nat) (C : Nat -> Prop) : Prop := qo20_1 r jm jf fun x0 => eqN x0 jm = false -> C x0
abbrev qo20_4 (r : Run) (jm : Nat) (jf : Nat) (C : Nat -> Prop) : Prop := small r -> ∀ (x0 : Nat), x0 <= r.machines.length -> decide ((x0 : Int) < (↑(r.machines.length) : Int)) = false -> C x0
abbrev qo20_5 (r : Run) (jm : Nat) (jf : Nat) (C : Nat -> Nat -> Prop) : Prop := qo20_4 r jm jf fun x0 => ∀ (x13 : Nat), x13 <= r.found.length -> decide ((x13 : Int) < (↑(r.found.length) : Int)) = true -> C x0 x13
abbrev qo20_6 (r : Run) (jm : Nat) (jf : Nat) (C : Nat -> Nat -> Prop) : Prop := qo20_5 r jm jf fun x0 x13 => eqN x13 jf = true -> C x0 x13
abbrev qo20_7 (r : Run) (jm : Nat) (jf : Nat) (C : Nat -> Nat -> Prop) : Prop := qo20_5 r jm jf fun x0 x13 => eqN x13 jf = false -> C x0 x13
theorem wo20 (r : Run) (jm : Nat) (jf : Nat)
 (o0 : small r -> 0 = (↑0 : Int))
 (o1 : small r -> chLen r jm 0 = 0)
 (o2 : small r -> 0 <= List.length (Run.machines r))
 (o3 : qo20_2 r jm jf fun x0 => 0 <= (x0 : Int))
 (o4 : qo20_2 r jm jf fun x0 => (x0 : Int) < (↑(r.machines.length) : Int))
 (o5 : qo20_2 r jm jf fun x0 => 0 + (mach r x0).changes.length <= 65536)
 (o6 : qo20_2 r jm jf fun x0 => 0 <= (x0 : Int))
 (o7 : qo20_2 r jm jf fun x0 => (x0 : Int) < (↑(r.machines.length) : Int))
 (o8 : qo20_2 r jm jf fun x0 => x0 + 1 <= 65536)
 (o9 : qo20_2 r jm jf fun x0 => jm = x0)
 (o10 : qo20_2 r jm jf fun x0 => inI ((x0 : Int) + 1))
 (o11 : qo20_2 r jm jf fun x0 => (x0 : Int) + 1 = (↑(x0 + 1) : Int))
 (o12 : qo20_2 r jm jf fun x0 => (mach r x0).rate = (mach r jm).rate)
 (o13 : qo20_2 r jm jf fun x0 => 0 + (mach r x0).changes.length = chLen r jm (x0 + 1))
 (o14 : qo20_2 r jm jf fun x0 => ∀ (i6 : Nat), i6 < 0 + (mach r x0).changes.length -> cSpan ((mach r x0).changes.getD i6 default) = cSpan (chg (mach r jm) i6))
 (o15 : qo20_2 r jm jf fun x0 => x0 + 1 <= r.machines.length)
 (o16 : qo20_2 r jm jf fun x0 => r.machines.length - (x0 + 1) < r.machines.length - x0)
 (o17 : qo20_3 r jm jf fun x0 => 0 <= (x0 : Int))
 (o18 : qo20_3 r jm jf fun x0 => (x0 : Int) < (↑(r.machines.length) : Int))
 (o19 : qo20_3 r jm jf fun x0 => 0 + (mach r x0).changes.length <= 65536)
 (o20 : qo20_3 r jm jf fun x0 => 0 <= (x0 : Int))
 (o21 : qo20_3 r jm jf fun x0 => (x0 : Int) < (↑(r.machines.length) : Int))
 (o22 : qo20_3 r jm jf fun x0 => x0 + 1 <= 65536)
 (o23 : qo20_3 r jm jf fun x0 => jm < x0 ∨ x0 + 1 <= jm)
 (o24 : qo20_3 r jm jf fun x0 => inI ((x0 : Int) + 1))
 (o25 : qo20_3 r jm jf fun x0 => (x0 : Int) + 1 = (↑(x0 + 1) : Int))
 (o26 : qo20_3 r jm jf fun x0 => ∀ (i8 : Nat), i8 < x0 + 1 -> i8 ≠ jm -> catF x0 (fun (k : Nat) => cMach (mach r k)) (fun (j : Nat) => List.getD [[AV.sl 2 (0 + (mach r x0).changes.length) fun (i : Nat) => cSpan ((mach r x0).changes.getD i default), iv (mach r x0).rate]] j (TI.za ti42)) i8 = cMach (mach r i8))
 (o27 : qo20_3 r jm jf fun x0 => chLen r jm x0 = chLen r jm (x0 + 1))
 (o28 : qo20_3 r jm jf fun x0 => x0 + 1 <= r.machines.length)
 (o29 : qo20_3 r jm jf fun x0 => r.machines.length - (x0 + 1) < r.machines.length - x0)
 (o30 : qo20_4 r jm jf fun x0 => 0 = (↑0 : Int))
 (o31 : qo20_4 r jm jf fun x0 => x0 = r.machines.length)
 (o32 : qo20_4 r jm jf fun x0 => chLen r jm x0 = chLen r jm r.machines.length)
 (o33 : qo20_4 r jm jf fun x0 => nwLen r jf 0 = 0)
 (o34 : qo20_4 r jm jf fun x0 => 0 <= r.found.length)
 (o35 : qo20_5 r jm jf fun x0 x13 => 0 <= (x13 : Int))
 (o36 : qo20_5 r jm jf fun x0 x13 => (x13 : Int) < (↑(r.found.length) : Int))
 (o37 : qo20_6 r jm jf fun x0 x13 => 0 + (fnd r x13).new.length <= 65536)
 (o38 : qo20_6 r jm jf fun x0 x13 => 0 + (fnd r x13).frm.length <= 65536)
 (o39 : qo20_6 r jm jf fun x0 x13 => x13 + 1 <= 65536)
 (o40 : qo20_6 r jm jf fun x0 x13 => jf = x13)
 (o41 : qo20_6 r jm jf fun x0 x13 => inI ((x13 : Int) + 1))
 (o42 : qo20_6 r jm jf fun x0 x13 => (x13 : Int) + 1 = (↑(x13 + 1) : Int))
 (o43 : qo20_6 r jm jf fun x0 x13 => (fnd r x13).minute = (fnd r jf).minute)
 (o44 : qo20_6 r jm jf fun x0 x13 => 0 + (fnd r x13).frm.length = (fnd r jf).frm.length)
 (o45 : qo20_6 r jm jf fun x0 x13 => ∀ (i27 : Nat), i27 < (fnd r jf).frm.length -> [iv ((fnd r x13).frm.getD i27 0)] = [iv ((fnd r jf).frm.getD i27 0)])
 (o46 : qo20_6 r jm jf fun x0 x13 => 0 + (fnd r x13).new.length = nwLen r jf (x13 + 1))
 (o47 : qo20_6 r jm jf fun x0 x13 => ∀ (i29 : Nat), i29 < 0 + (fnd r x13).new.length -> [iv ((fnd r x13).new.getD i29 0)] = [iv ((fnd r jf).new.getD i29 0)])
 (o48 : qo20_6 r jm jf fun x0 x13 => x13 + 1 <= r.found.length)
 (o49 : qo20_6 r jm jf fun x0 x13 => r.found.length - (x13 + 1) < r.found.length - x13)
 (o50 : qo20_7 r jm jf fun x0 x13 => 0 + (fnd r x13).new.length <= 65536)
 (o51 : qo20_7 r jm jf fun x0 x13 => 0 + (fnd r x13).frm.length <= 65536)
 (o52 : qo20_7 r jm jf fun x0 x13 => x13 + 1 <= 65536)
 (o53 : qo20_7 r jm jf fun x0 x13 => jf < x13 ∨ x13 + 1 <= jf)
 (o54 : qo20_7 r jm jf fun x0 x13 => inI ((x13 : Int) + 1))
 (o55 : qo20_7 r jm jf fun x0 x13 => (x13 : Int) + 1 = (↑(x13 + 1) : Int))
 (o56 : qo20_7 r jm jf fun x0 x13 => ∀ (i34 : Nat), i34 < x13 + 1 -> i34 ≠ jf -> catF x13 (fun (k : Nat) => cFnd (fnd r k)) (fun (j : Nat) => List.getD [[iv (fnd r x13).minute, AV.sl 1 (0 + (fnd r x13).new.length) fun (i : Nat) => [iv ((fnd r x13).new.getD i 0)], AV.sl 1 (0 + (fnd r x13).frm.length) fun (i : Nat) => [iv ((fnd r x13).frm.getD i 0)]]] j (TI.za ti32)) i34 = cFnd (fnd r i34))
 (o57 : qo20_7 r jm jf fun x0 x13 => nwLen r jf x13 = nwLen r jf (x13 + 1))
 (o58 : qo20_7 r jm jf fun x0 x13 => x13 + 1 <= r.found.length)
 (o59 : qo20_7 r jm jf fun x0 x13 => r.found.length - (x13 + 1) < r.found.length - x13)
 (o60 : qo20_4 r jm jf fun x0 => ∀ (x13 : Nat), x13 <= r.found.length -> decide ((x13 : Int) < (↑(r.found.length) : Int)) = false -> x13 = r.found.length)
 (o61 : qo20_4 r jm jf fun x0 => ∀ (x13 : Nat), x13 <= r.found.length -> decide ((x13 : Int) < (↑(r.found.length) : Int)) = false -> nwLen r jf x13 = nwLen r jf r.found.length)
  (l : List (Nat × Nat)) (hl : l.map (·.1) = (OutSpec.hout (ou20 r jm jf)).map (·.1)) (hnd : (l.map (·.2)).Nodup) :
  Triple Try.prog 20 (OutSpec.at (ou20 r jm jf) l) := by
 refine triple_out Try.func20 rfl Try.call20 T0_ok _ _ _ _ l rfl (Nat.le_of_ble_eq_true (by kernel_rfl)) hl hnd (by kernel_rfl) (by kernel_rfl) (by kernel_rfl) ?_
 intro hp C hC hE
 obtain ⟨P, w0, E0, av, hA⟩ := C
 subst hC
 refine swp_seq ?_
 refine sR (kt := [1, 2]) (kh := [0, 8]) (q := True /\ True /\ True) (st' := ASt.mk [(1, .ptr 0 []), (2, .ptr 8 [])] [(0, .cells 25 (cRun r)), (8, .cells 25 [iv 0, iv 0, nilv, nilv])] 16) (by kernel_rfl) ⟨tv, tv, tv⟩ ?_
 refine swp_seq ?_
 refine sR (kt := [1, 2, 3]) (kh := [0, 8, 56]) (q := True /\ True /\ True /\ True /\ True /\ True /\ True /\ True) (st' := ASt.mk [(1, .ptr 0 []), (2, .ptr 8 []), (3, .ptr 56 [])] [(0, .cells 25 (cRun r)), (8, .cells 25 [iv 0, iv 0, nilv, nilv]), (56, .cells 25 [iv r.plates, iv r.last, nilv, nilv])] 72) (by kernel_rfl) ⟨tv, tv, tv, tv, tv, tv, tv, tv⟩ ?_
 refine swp_seq (swp_seq ?_)
 refine sR (kt := [1, 2, 3, 4]) (kh := [0, 8, 56]) (q := True /\ True) (st' := ASt.mk [(1, .ptr 0 []), (2, .ptr 8 []), (3, .ptr 56 []), (4, iv 0)] [(0, .cells 25 (cRun r)), (8, .cells 25 [iv 0, iv 0, nilv, nilv]), (56, .cells 25 [iv r.plates, iv r.last, nilv, nilv])] 80) (by kernel_rfl) ⟨tv, tv⟩ ?_
 refine swp_block ?_
 refine swp_loopA (Hint.ann (h20xa r jm jf) [(1, AV.ptr 0 []), (2, AV.ptr 8 []), (3, AV.ptr 56 [])] [(0, OB.cells 25 (cRun r)), (8, OB.cells 25 [iv 0, iv 0, nilv, nilv])] 10080) (ent_q hE [] [(0, .same 0), (8, .same 8), (56, .same 56), (5000, .nil), (5002, .nil)] [] [0, 8] (((some (Src.same 0) = some (Src.same 0) /\ nilP = []) /\ (some (Src.same 8) = some (Src.same 8) /\ nilP = []) /\ (some (Src.same 56) = some (Src.same 56) /\ nilP = []) /\ (iv 0 = iv (↑0 : Int) /\ nilN = []) /\ True) /\ ((OB.cells 25 (cRun r) = OB.cells 25 (cRun r) /\ true = true) /\ (OB.cells 25 [iv 0, iv 0, nilv, nilv] = OB.cells 25 [iv 0, iv 0, nilv, nilv] /\ true = true) /\ (25 = 25 /\ ((iv r.plates = iv r.plates /\ nilN = []) /\ (iv r.last = iv r.last /\ nilN = []) /\ some Src.nil = some Src.nil /\ (nilv = nilv /\ nilN = []) /\ True) /\ true = true) /\ 0 = 0 /\ chLen r jm 0 = 0 /\ True) /\ T2) (by kernel_rfl) (by kernel_rfl) ⟨⟨⟨rfl, rfl⟩, ⟨rfl, rfl⟩, ⟨rfl, rfl⟩, ⟨(congrArg iv (o0 hp)), rfl⟩, tv⟩, ⟨⟨rfl, rfl⟩, ⟨rfl, rfl⟩, ⟨rfl, ⟨⟨rfl, rfl⟩, ⟨rfl, rfl⟩, rfl, ⟨rfl, rfl⟩, tv⟩, rfl⟩, rfl, (o1 hp), tv⟩, rfl, rfl⟩) (o2 hp) (fun (x0 : Nat) hx0 => ?_)
 refine swp_seq (swp_seq ?_)
 refine sR (kt := [1, 2, 3, 4, 16]) (kh := [0, 8, 56, 5000, 5002]) (q := True /\ True /\ True /\ True /\ True /\ True) (st' := ASt.mk [(1, .ptr 0 []), (2, .ptr 8 []), (3, .ptr 56 []), (4, iv (x0 : Int)), (16, bv (decide ((x0 : Int) < (↑(r.machines.length) : Int))))] [(0, .cells 25 (cRun r)), (8, .cells 25 [iv 0, iv 0, nilv, nilv]), (56, .cells 25 [iv r.plates, iv r.last, .vec 5000, nilv]), (5000, .vecx 42 2 x0 (fun (k : Nat) => cMach (mach r k)) jm [.vec 5002, iv (mach r jm).rate]), (5002, .vec 37 2 (chLen r jm x0) fun (p : Nat) => cSpan (chg (mach r jm) p))] 10120) (by kernel_rfl) ⟨tv, tv, tv, tv, tv, tv⟩ ?_
 refine swp_cond (decide ((x0 : Int) < (↑(r.machines.length) : Int))) (by kernel_rfl) (fun h1 => ?_) (fun h1 => ?_)
 ·refine swp_skip (swp_seq (swp_block ?_))
  refine swp_cases (eqN x0 jm) (fun h2 => ?_) (fun h2 => ?_)
  ·refine swp_region T0_ok mixed (cs := [(17, focS), (18, focS)]) (kt := [1, 2, 3, 4]) (kh := [0, 8, 56, 10264, 10192]) (q := True /\ True /\ True /\ True /\ True /\ True /\ (0 <= (x0 : Int) /\ (x0 : Int) < (↑(r.machines.length) : Int)) /\ True /\ True /\ 0 + (mach r x0).changes.length <= 65536 /\ True /\ True /\ True /\ (0 <= (x0 : Int) /\ (x0 : Int) < (↑(r.machines.length) : Int)) /\ True /\ True /\ True /\ True /\ (x0 + 1 <= 65536 /\ jm = x0) /\ True /\ True /\ True) (st' := ASt.mk [(1, .ptr 0 []), (2, .ptr 8 []), (3, .ptr 56 []), (4, iv (x0 : Int))] [(0, .cells 25 (cRun r)), (8, .cells 25 [iv 0, iv 0, nilv, nilv]), (56, .cells 25 [iv r.plates, iv r.last, .vec 10264, nilv]), (10264, .vecx 42 2 (x0 + 1) (fun (k : Nat) => cMach (mach r k)) jm [.vec 10192, iv (mach r x0).rate]), (10192, .vec 37 2 (0 + (mach r x0).changes.length) fun (i : Nat) => cSpan ((mach r x0).changes.getD i default))] 10288) (by kernel_rfl) ⟨tv, tv, tv, tv, tv, tv, ⟨(o3 hp x0 hx0 h1 h2), (o4 hp x0 hx0 h1 h2)⟩, tv, tv, (o5 hp x0 hx0 h1 h2), tv, tv, tv, ⟨(o6 hp x0 hx0 h1 h2), (o7 hp x0 hx0 h1 h2)⟩, tv, tv, tv, tv, ⟨(o8 hp x0 hx0 h1 h2), (o9 hp x0 hx0 h1 h2)⟩, tv, tv, tv⟩ ?_
   refine sR (kt := [1, 2, 3, 4]) (kh := [0, 8, 56, 10264, 10192]) (q := True /\ inI ((x0 : Int) + 1) /\ True /\ True) (st' := ASt.mk [(1, .ptr 0 []), (2, .ptr 8 []), (3, .ptr 56 []), (4, iv ((x0 : Int) + 1))] [(0, .cells 25 (cRun r)), (8, .cells 25 [iv 0, iv 0, nilv, nilv]), (56, .cells 25 [iv r.plates, iv r.last, .vec 10264, nilv]), (10264, .vecx 42 2 (x0 + 1) (fun (k : Nat) => cMach (mach r k)) jm [.vec 10192, iv (mach r x0).rate]), (10192, .vec 37 2 (0 + (mach r x0).changes.length) fun (i : Nat) => cSpan ((mach r x0).changes.getD i default))] 10312) (by kernel_rfl) ⟨tv, (o10 hp x0 hx0 h1 h2), tv, tv⟩ ?_
   exact loop_next (Hint.ann (h20xa r jm jf) [(1, AV.ptr 0 []), (2, AV.ptr 8 []), (3, AV.ptr 56 [])] [(0, OB.cells 25 (cRun r)), (8, OB.cells 25 [iv 0, iv 0, nilv, nilv])] 10080) x0 (ent_q hE [] [(0, .same 0), (8, .same 8), (56, .same 56), (5000, .same 10264), (5002, .same 10192)] [] [0, 8] (((some (Src.same 0) = some (Src.same 0) /\ nilP = []) /\ (some (Src.same 8) = some (Src.same 8) /\ nilP = []) /\ (some (Src.same 56) = some (Src.same 56) /\ nilP = []) /\ (iv ((x0 : Int) + 1) = iv (↑(x0 + 1) : Int) /\ nilN = []) /\ True) /\ ((OB.cells 25 (cRun r) = OB.cells 25 (cRun r) /\ true = true) /\ (OB.cells 25 [iv 0, iv 0, nilv, nilv] = OB.cells 25 [iv 0, iv 0, nilv, nilv] /\ true = true) /\ (25 = 25 /\ ((iv r.plates = iv r.plates /\ nilN = []) /\ (iv r.last = iv r.last /\ nilN = []) /\ some (Src.same 10264) = some (Src.same 10264) /\ (nilv = nilv /\ nilN = []) /\ True) /\ true = true) /\ (42 = 42 /\ 2 = 2 /\ x0 + 1 = x0 + 1 /\ jm = jm /\ (∀ (i3 : Nat), i3 < x0 + 1 -> i3 ≠ jm -> cMach (mach r i3) = cMach (mach r i3)) /\ (some (Src.same 10192) = some (Src.same 10192) /\ (iv (mach r x0).rate = iv (mach r jm).rate /\ nilN = []) /\ True) /\ true = true) /\ (37 = 37 /\ 2 = 2 /\ 0 + (mach r x0).changes.length = chLen r jm (x0 + 1) /\ ∀ (i6 : Nat), i6 < 0 + (mach r x0).changes.length -> cSpan ((mach r x0).changes.getD i6 default) = cSpan (chg (mach r jm) i6)) /\ True) /\ T2) (by kernel_rfl) (by kernel_rfl) ⟨⟨⟨rfl, rfl⟩, ⟨rfl, rfl⟩, ⟨rfl, rfl⟩, ⟨(congrArg iv (o11 hp x0 hx0 h1 h2)), rfl⟩, tv⟩, ⟨⟨rfl, rfl⟩, ⟨rfl, rfl⟩, ⟨rfl, ⟨⟨rfl, rfl⟩, ⟨rfl, rfl⟩, rfl, ⟨rfl, rfl⟩, tv⟩, rfl⟩, ⟨rfl, rfl, rfl, rfl, (fun i3 => (fun h4 => (fun h5 => rfl))), ⟨rfl, ⟨(congrArg iv (o12 hp x0 hx0 h1 h2)), rfl⟩, tv⟩, rfl⟩, ⟨rfl, rfl, (o13 hp x0 hx0 h1 h2), (fun i6 => (fun h7 => (o14 hp x0 hx0 h1 h2 i6 h7)))⟩, tv⟩, rfl, rfl⟩) (o15 hp x0 hx0 h1 h2) (o16 hp x0 hx0 h1 h2)
  ·refine sR (kt := [1, 2, 3, 4]) (kh := [0, 8, 56, 10264, 5002]) (q := True /\ True /\ True /\ True /\ True /\ True /\ (0 <= (x0 : Int) /\ (x0 : Int) < (↑(r.machines.length) : Int)) /\ True /\ True /\ 0 + (mach r x0).changes.length <= 65536 /\ True /\ True /\ True /\ (0 <= (x0 : Int) /\ (x0 : Int) < (↑(r.machines.length) : Int)) /\ True /\ True /\ True /\ True /\ (x0 + 1 <= 65536 /\ (jm < x0 ∨ x0 + 1 <= jm)) /\ True /\ True /\ True) (st' := ASt.mk [(1, .ptr 0 []), (2, .ptr 8 []), (3, .ptr 56 []), (4, iv (x0 : Int))] [(0, .cells 25 (cRun r)), (8, .cells 25 [iv 0, iv 0, nilv, nilv]), (56, .cells 25 [iv r.plates, iv r.last, .vec 10264, nilv]), (10264, .vecx 42 2 (x0 + 1) (catF x0 (fun (k : Nat) => cMach (mach r k)) fun (j : Nat) => List.getD [[.sl 2 (0 + (mach r x0).changes.length) fun (i : Nat) => cSpan ((mach r x0).changes.getD i default), iv (mach r x0).rate]] j (TI.za ti42)) jm [.vec 5002, iv (mach r jm).rate]), (5002, .vec 37 2 (chLen r jm x0) fun (p : Nat) => cSpan (chg (mach r jm) p))] 10288) (by kernel_rfl) ⟨tv, tv, tv, tv, tv, tv, ⟨(o17 hp x0 hx0 h1 h2), (o18 hp x0 hx0 h1 h2)⟩, tv, tv, (o19 hp x0 hx0 h1 h2), tv, tv, tv, ⟨(o20 hp x0 hx0 h1 h2), (o21 hp x0 hx0 h1 h2)⟩, tv, tv, tv, tv, ⟨(o22 hp x0 hx0 h1 h2), (o23 hp x0 hx0 h1 h2)⟩, tv, tv, tv⟩ ?_
   refine sR (kt := [1, 2, 3, 4]) (kh := [0, 8, 56, 10264, 5002]) (q := True /\ inI ((x0 : Int) + 1) /\ True /\ True) (st' := ASt.mk [(1, .ptr 0 []), (2, .ptr 8 []), (3, .ptr 56 []), (4, iv ((x0 : Int) + 1))] [(0, .cells 25 (cRun r)), (8, .cells 25 [iv 0, iv 0, nilv, nilv]), (56, .cells 25 [iv r.plates, iv r.last, .vec 10264, nilv]), (10264, .vecx 42 2 (x0 + 1) (catF x0 (fun (k : Nat) => cMach (mach r k)) fun (j : Nat) => List.getD [[.sl 2 (0 + (mach r x0).changes.length) fun (i : Nat) => cSpan ((mach r x0).changes.getD i default), iv (mach r x0).rate]] j (TI.za ti42)) jm [.vec 5002, iv (mach r jm).rate]), (5002, .vec 37 2 (chLen r jm x0) fun (p : Nat) => cSpan (chg (mach r jm) p))] 10312) (by kernel_rfl) ⟨tv, (o24 hp x0 hx0 h1 h2), tv, tv⟩ ?_
   exact loop_next (Hint.ann (h20xa r jm jf) [(1, AV.ptr 0 []), (2, AV.ptr 8 []), (3, AV.ptr 56 [])] [(0, OB.cells 25 (cRun r)), (8, OB.cells 25 [iv 0, iv 0, nilv, nilv])] 10080) x0 (ent_q hE [] [(0, .same 0), (8, .same 8), (56, .same 56), (5000, .same 10264), (5002, .same 5002)] [] [0, 8] (((some (Src.same 0) = some (Src.same 0) /\ nilP = []) /\ (some (Src.same 8) = some (Src.same 8) /\ nilP = []) /\ (some (Src.same 56) = some (Src.same 56) /\ nilP = []) /\ (iv ((x0 : Int) + 1) = iv (↑(x0 + 1) : Int) /\ nilN = []) /\ True) /\ ((OB.cells 25 (cRun r) = OB.cells 25 (cRun r) /\ true = true) /\ (OB.cells 25 [iv 0, iv 0, nilv, nilv] = OB.cells 25 [iv 0, iv 0, nilv, nilv] /\ true = true) /\ (25 = 25 /\ ((iv r.plates = iv r.plates /\ nilN = []) /\ (iv r.last = iv r.last /\ nilN = []) /\ some (Src.same 10264) = some (Src.same 10264) /\ (nilv = nilv /\ nilN = []) /\ True) /\ true = true) /\ (42 = 42 /\ 2 = 2 /\ x0 + 1 = x0 + 1 /\ jm = jm /\ (∀ (i8 : Nat), i8 < x0 + 1 -> i8 ≠ jm -> catF x0 (fun (k : Nat) => cMach (mach r k)) (fun (j : Nat) => List.getD [[AV.sl 2 (0 + (mach r x0).changes.length) fun (i : Nat) => cSpan ((mach r x0).changes.getD i default), iv (mach r x0).rate]] j (TI.za ti42)) i8 = cMach (mach r i8)) /\ (some (Src.same 5002) = some (Src.same 5002) /\ (iv (mach r jm).rate = iv (mach r jm).rate /\ nilN = []) /\ True) /\ true = true) /\ (37 = 37 /\ 2 = 2 /\ chLen r jm x0 = chLen r jm (x0 + 1) /\ ∀ (i11 : Nat), i11 < chLen r jm x0 -> cSpan (chg (mach r jm) i11) = cSpan (chg (mach r jm) i11)) /\ True) /\ T2) (by kernel_rfl) (by kernel_rfl) ⟨⟨⟨rfl, rfl⟩, ⟨rfl, rfl⟩, ⟨rfl, rfl⟩, ⟨(congrArg iv (o25 hp x0 hx0 h1 h2)), rfl⟩, tv⟩, ⟨⟨rfl, rfl⟩, ⟨rfl, rfl⟩, ⟨rfl, ⟨⟨rfl, rfl⟩, ⟨rfl, rfl⟩, rfl, ⟨rfl, rfl⟩, tv⟩, rfl⟩, ⟨rfl, rfl, rfl, rfl, (fun i8 => (fun h9 => (fun h10 => (o26 hp x0 hx0 h1 h2 i8 h9 h10)))), ⟨rfl, ⟨rfl, rfl⟩, tv⟩, rfl⟩, ⟨rfl, rfl, (o27 hp x0 hx0 h1 h2), (fun i11 => (fun h12 => rfl))⟩, tv⟩, rfl, rfl⟩) (o28 hp x0 hx0 h1 h2) (o29 hp x0 hx0 h1 h2)
 ·refine swp_exit (swp_seq (swp_seq ?_))
  refine sR (kt := [1, 2, 3, 5]) (kh := [0, 8, 56, 5000, 5002]) (q := True /\ True) (st' := ASt.mk [(1, .ptr 0 []), (2, .ptr 8 []), (3, .ptr 56 []), (5, iv 0)] [(0, .cells 25 (cRun r)), (8, .cells 25 [iv 0, iv 0, nilv, nilv]), (56, .cells 25 [iv r.plates, iv r.last, .vec 5000, nilv]), (5000, .vecx 42 2 x0 (fun (k : Nat) => cMach (mach r k)) jm [.vec 5002, iv (mach r jm).rate]), (5002, .vec 37 2 (chLen r jm x0) fun (p : Nat) => cSpan (chg (mach r jm) p))] 10128) (by kernel_rfl) ⟨tv, tv⟩ ?_
  refine swp_block ?_
  refine swp_loopA (Hint.ann (h20xb r jm jf) [(1, AV.ptr 0 []), (2, AV.ptr 8 []), (3, AV.ptr 56 [])] [(0, OB.cells 25 (cRun r)), (8, OB.cells 25 [iv 0, iv 0, nilv, nilv])] 20128) (ent_q hE [] [(0, .same 0), (8, .same 8), (56, .same 56), (5000, .same 5000), (5002, .same 5002), (5001, .nil), (5003, .nil)] [] [0, 8] (((some (Src.same 0) = some (Src.same 0) /\ nilP = []) /\ (some (Src.same 8) = some (Src.same 8) /\ nilP = []) /\ (some (Src.same 56) = some (Src.same 56) /\ nilP = []) /\ (iv 0 = iv (↑0 : Int) /\ nilN = []) /\ True) /\ ((OB.cells 25 (cRun r) = OB.cells 25 (cRun r) /\ true = true) /\ (OB.cells 25 [iv 0, iv 0, nilv, nilv] = OB.cells 25 [iv 0, iv 0, nilv, nilv] /\ true = true) /\ (25 = 25 /\ ((iv r.plates = iv r.plates /\ nilN = []) /\ (iv r.last = iv r.last /\ nilN = []) /\ some (Src.same 5000) = some (Src.same 5000) /\ some Src.nil = some Src.nil /\ True) /\ true = true) /\ (42 = 42 /\ 2 = 2 /\ x0 = r.machines.length /\ jm = jm /\ (∀ (i14 : Nat), i14 < x0 -> i14 ≠ jm -> cMach (mach r i14) = cMach (mach r i14)) /\ (some (Src.same 5002) = some (Src.same 5002) /\ (iv (mach r jm).rate = iv (mach r jm).rate /\ nilN = []) /\ True) /\ true = true) /\ (37 = 37 /\ 2 = 2 /\ chLen r jm x0 = chLen r jm r.machines.length /\ ∀ (i17 : Nat), i17 < chLen r jm x0 -> cSpan (chg (mach r jm) i17) = cSpan (chg (mach r jm) i17)) /\ 0 = 0 /\ nwLen r jf 0 = 0 /\ True) /\ T2) (by kernel_rfl) (by kernel_rfl) ⟨⟨⟨rfl, rfl⟩, ⟨rfl, rfl⟩, ⟨rfl, rfl⟩, ⟨(congrArg iv (o30 hp x0 hx0 h1)), rfl⟩, tv⟩, ⟨⟨rfl, rfl⟩, ⟨rfl, rfl⟩, ⟨rfl, ⟨⟨rfl, rfl⟩, ⟨rfl, rfl⟩, rfl, rfl, tv⟩, rfl⟩, ⟨rfl, rfl, (o31 hp x0 hx0 h1), rfl, (fun i14 => (fun h15 => (fun h16 => rfl))), ⟨rfl, ⟨rfl, rfl⟩, tv⟩, rfl⟩, ⟨rfl, rfl, (o32 hp x0 hx0 h1), (fun i17 => (fun h18 => rfl))⟩, rfl, (o33 hp x0 hx0 h1), tv⟩, rfl, rfl⟩) (o34 hp x0 hx0 h1) (fun (x13 : Nat) hx13 => ?_)
  refine swp_seq (swp_seq ?_)
  refine sR (kt := [1, 2, 3, 5, 43]) (kh := [0, 8, 56, 5000, 5001, 5002, 5003]) (q := True /\ True /\ True /\ True /\ True /\ True) (st' := ASt.mk [(1, .ptr 0 []), (2, .ptr 8 []), (3, .ptr 56 []), (5, iv (x13 : Int)), (43, bv (decide ((x13 : Int) < (↑(r.found.length) : Int))))] [(0, .cells 25 (cRun r)), (8, .cells 25 [iv 0, iv 0, nilv, nilv]), (56, .cells 25 [iv r.plates, iv r.last, .vec 5000, .vec 5001]), (5000, .vecx 42 2 r.machines.length (fun (k : Nat) => cMach (mach r k)) jm [.vec 5002, iv (mach r jm).rate]), (5001, .vecx 32 3 x13 (fun (k : Nat) => cFnd (fnd r k)) jf [iv (fnd r jf).minute, .vec 5003, aInts (fnd r jf).frm]), (5002, .vec 37 2 (chLen r jm r.machines.length) fun (p : Nat) => cSpan (chg (mach r jm) p)), (5003, .vec 3 1 (nwLen r jf x13) fun (p : Nat) => [iv ((fnd r jf).new.getD p 0)])] 20168) (by kernel_rfl) ⟨tv, tv, tv, tv, tv, tv⟩ ?_
  refine swp_cond (decide ((x13 : Int) < (↑(r.found.length) : Int))) (by kernel_rfl) (fun h19 => ?_) (fun h19 => ?_)
  ·refine swp_skip (swp_seq (swp_block (swp_seq ?_)))
   refine sR (kt := [1, 2, 3, 5, 6]) (kh := [0, 8, 56, 20208, 5000, 5001, 5002, 5003]) (q := True /\ True /\ True /\ (0 <= (x13 : Int) /\ (x13 : Int) < (↑(r.found.length) : Int)) /\ True /\ True /\ True /\ True) (st' := ASt.mk [(1, .ptr 0 []), (2, .ptr 8 []), (3, .ptr 56 []), (5, iv (x13 : Int)), (6, .ptr 20208 [])] [(0, .cells 25 (cRun r)), (8, .cells 25 [iv 0, iv 0, nilv, nilv]), (56, .cells 25 [iv r.plates, iv r.last, .vec 5000, .vec 5001]), (20208, .cells 32 (cFnd (fnd r x13))), (5000, .vecx 42 2 r.machines.length (fun (k : Nat) => cMach (mach r k)) jm [.vec 5002, iv (mach r jm).rate]), (5001, .vecx 32 3 x13 (fun (k : Nat) => cFnd (fnd r k)) jf [iv (fnd r jf).minute, .vec 5003, aInts (fnd r jf).frm]), (5002, .vec 37 2 (chLen r jm r.machines.length) fun (p : Nat) => cSpan (chg (mach r jm) p)), (5003, .vec 3 1 (nwLen r jf x13) fun (p : Nat) => [iv ((fnd r jf).new.getD p 0)])] 20224) (by kernel_rfl) ⟨tv, tv, tv, ⟨(o35 hp x0 hx0 h1 x13 hx13 h19), (o36 hp x0 hx0 h1 x13 hx13 h19)⟩, tv, tv, tv, tv⟩ ?_
   refine swp_cases (eqN x13 jf) (fun h20 => ?_) (fun h20 => ?_)
   ·refine swp_region T0_ok mixed (cs := [(13, focS), (14, focS)]) (kt := [1, 2, 3, 5]) (kh := [0, 8, 56, 5000, 20336, 20280, 20312, 5002]) (q := True /\ True /\ True /\ True /\ True /\ True /\ True /\ 0 + (fnd r x13).new.length <= 65536 /\ True /\ True /\ True /\ 0 + (fnd r x13).frm.length <= 65536 /\ True /\ True /\ (x13 + 1 <= 65536 /\ jf = x13) /\ True /\ True /\ True) (st' := ASt.mk [(1, .ptr 0 []), (2, .ptr 8 []), (3, .ptr 56 []), (5, iv (x13 : Int))] [(0, .cells 25 (cRun r)), (8, .cells 25 [iv 0, iv 0, nilv, nilv]), (56, .cells 25 [iv r.plates, iv r.last, .vec 5000, .vec 20336]), (5000, .vecx 42 2 r.machines.length (fun (k : Nat) => cMach (mach r k)) jm [.vec 5002, iv (mach r jm).rate]), (20336, .vecx 32 3 (x13 + 1) (fun (k : Nat) => cFnd (fnd r k)) jf [iv (fnd r x13).minute, .vec 20280, .vec 20312]), (20280, .vec 3 1 (0 + (fnd r x13).new.length) fun (i : Nat) => [iv ((fnd r x13).new.getD i 0)]), (20312, .vec 3 1 (0 + (fnd r x13).frm.length) fun (i : Nat) => [iv ((fnd r x13).frm.getD i 0)]), (5002, .vec 37 2 (chLen r jm r.machines.length) fun (p : Nat) => cSpan (chg (mach r jm) p))] 20360) (by kernel_rfl) ⟨tv, tv, tv, tv, tv, tv, tv, (o37 hp x0 hx0 h1 x13 hx13 h19 h20), tv, tv, tv, (o38 hp x0 hx0 h1 x13 hx13 h19 h20), tv, tv, ⟨(o39 hp x0 hx0 h1 x13 hx13 h19 h20), (o40 hp x0 hx0 h1 x13 hx13 h19 h20)⟩, tv, tv, tv⟩ ?_
    refine sR (kt := [1, 2, 3, 5]) (kh := [0, 8, 56, 5000, 20336, 5002, 20280, 20312]) (q := True /\ inI ((x13 : Int) + 1) /\ True /\ True) (st' := ASt.mk [(1, .ptr 0 []), (2, .ptr 8 []), (3, .ptr 56 []), (5, iv ((x13 : Int) + 1))] [(0, .cells 25 (cRun r)), (8, .cells 25 [iv 0, iv 0, nilv, nilv]), (56, .cells 25 [iv r.plates, iv r.last, .vec 5000, .vec 20336]), (5000, .vecx 42 2 r.machines.length (fun (k : Nat) => cMach (mach r k)) jm [.vec 5002, iv (mach r jm).rate]), (20336, .vecx 32 3 (x13 + 1) (fun (k : Nat) => cFnd (fnd r k)) jf [iv (fnd r x13).minute, .vec 20280, .vec 20312]), (5002, .vec 37 2 (chLen r jm r.machines.length) fun (p : Nat) => cSpan (chg (mach r jm) p)), (20280, .vec 3 1 (0 + (fnd r x13).new.length) fun (i : Nat) => [iv ((fnd r x13).new.getD i 0)]), (20312, .vec 3 1 (0 + (fnd r x13).frm.length) fun (i : Nat) => [iv ((fnd r x13).frm.getD i 0)])] 20384) (by kernel_rfl) ⟨tv, (o41 hp x0 hx0 h1 x13 hx13 h19 h20), tv, tv⟩ ?_
    exact loop_next (Hint.ann (h20xb r jm jf) [(1, AV.ptr 0 []), (2, AV.ptr 8 []), (3, AV.ptr 56 [])] [(0, OB.cells 25 (cRun r)), (8, OB.cells 25 [iv 0, iv 0, nilv, nilv])] 20128) x13 (ent_q hE [20312] [(0, .same 0), (8, .same 8), (56, .same 56), (5000, .same 5000), (5002, .same 5002), (5001, .same 20336), (5003, .same 20280)] [] [0, 8, 5002] (((some (Src.same 0) = some (Src.same 0) /\ nilP = []) /\ (some (Src.same 8) = some (Src.same 8) /\ nilP = []) /\ (some (Src.same 56) = some (Src.same 56) /\ nilP = []) /\ (iv ((x13 : Int) + 1) = iv (↑(x13 + 1) : Int) /\ nilN = []) /\ True) /\ ((OB.cells 25 (cRun r) = OB.cells 25 (cRun r) /\ true = true) /\ (OB.cells 25 [iv 0, iv 0, nilv, nilv] = OB.cells 25 [iv 0, iv 0, nilv, nilv] /\ true = true) /\ (25 = 25 /\ ((iv r.plates = iv r.plates /\ nilN = []) /\ (iv r.last = iv r.last /\ nilN = []) /\ some (Src.same 5000) = some (Src.same 5000) /\ some (Src.same 20336) = some (Src.same 20336) /\ True) /\ true = true) /\ (42 = 42 /\ 2 = 2 /\ r.machines.length = r.machines.length /\ jm = jm /\ (∀ (i21 : Nat), i21 < r.machines.length -> i21 ≠ jm -> cMach (mach r i21) = cMach (mach r i21)) /\ (some (Src.same 5002) = some (Src.same 5002) /\ (iv (mach r jm).rate = iv (mach r jm).rate /\ nilN = []) /\ True) /\ true = true) /\ (((OB.vec 37 2 (chLen r jm r.machines.length) fun (p : Nat) => cSpan (chg (mach r jm) p)) = OB.vec 37 2 (chLen r jm r.machines.length) fun (p : Nat) => cSpan (chg (mach r jm) p)) /\ true = true) /\ (32 = 32 /\ 3 = 3 /\ x13 + 1 = x13 + 1 /\ jf = jf /\ (∀ (i24 : Nat), i24 < x13 + 1 -> i24 ≠ jf -> cFnd (fnd r i24) = cFnd (fnd r i24)) /\ ((iv (fnd r x13).minute = iv (fnd r jf).minute /\ nilN = []) /\ some (Src.same 20280) = some (Src.same 20280) /\ (1 = 1 /\ 0 + (fnd r x13).frm.length = (fnd r jf).frm.length /\ ∀ (i27 : Nat), i27 < (fnd r jf).frm.length -> [iv ((fnd r x13).frm.getD i27 0)] = [iv ((fnd r jf).frm.getD i27 0)]) /\ True) /\ true = true) /\ (3 = 3 /\ 1 = 1 /\ 0 + (fnd r x13).new.length = nwLen r jf (x13 + 1) /\ ∀ (i29 : Nat), i29 < 0 + (fnd r x13).new.length -> [iv ((fnd r x13).new.getD i29 0)] = [iv ((fnd r jf).new.getD i29 0)]) /\ True) /\ T2) (by kernel_rfl) (by kernel_rfl) ⟨⟨⟨rfl, rfl⟩, ⟨rfl, rfl⟩, ⟨rfl, rfl⟩, ⟨(congrArg iv (o42 hp x0 hx0 h1 x13 hx13 h19 h20)), rfl⟩, tv⟩, ⟨⟨rfl, rfl⟩, ⟨rfl, rfl⟩, ⟨rfl, ⟨⟨rfl, rfl⟩, ⟨rfl, rfl⟩, rfl, rfl, tv⟩, rfl⟩, ⟨rfl, rfl, rfl, rfl, (fun i21 => (fun h22 => (fun h23 => rfl))), ⟨rfl, ⟨rfl, rfl⟩, tv⟩, rfl⟩, ⟨rfl, rfl⟩, ⟨rfl, rfl, rfl, rfl, (fun i24 => (fun h25 => (fun h26 => rfl))), ⟨⟨(congrArg iv (o43 hp x0 hx0 h1 x13 hx13 h19 h20)), rfl⟩, rfl, ⟨rfl, (o44 hp x0 hx0 h1 x13 hx13 h19 h20), (fun i27 => (fun h28 => (o45 hp x0 hx0 h1 x13 hx13 h19 h20 i27 h28)))⟩, tv⟩, rfl⟩, ⟨rfl, rfl, (o46 hp x0 hx0 h1 x13 hx13 h19 h20), (fun i29 => (fun h30 => (o47 hp x0 hx0 h1 x13 hx13 h19 h20 i29 h30)))⟩, tv⟩, rfl, rfl⟩) (o48 hp x0 hx0 h1 x13 hx13 h19 h20) (o49 hp x0 hx0 h1 x13 hx13 h19 h20)
   ·refine sR (kt := [1, 2, 3, 5]) (kh := [0, 8, 56, 5000, 20336, 5003, 5002]) (q := True /\ True /\ True /\ True /\ True /\ True /\ True /\ 0 + (fnd r x13).new.length <= 65536 /\ True /\ True /\ True /\ 0 + (fnd r x13).frm.length <= 65536 /\ True /\ True /\ (x13 + 1 <= 65536 /\ (jf < x13 ∨ x13 + 1 <= jf)) /\ True /\ True /\ True) (st' := ASt.mk [(1, .ptr 0 []), (2, .ptr 8 []), (3, .ptr 56 []), (5, iv (x13 : Int))] [(0, .cells 25 (cRun r)), (8, .cells 25 [iv 0, iv 0, nilv, nilv]), (56, .cells 25 [iv r.plates, iv r.last, .vec 5000, .vec 20336]), (5000, .vecx 42 2 r.machines.length (fun (k : Nat) => cMach (mach r k)) jm [.vec 5002, iv (mach r jm).rate]), (20336, .vecx 32 3 (x13 + 1) (catF x13 (fun (k : Nat) => cFnd (fnd r k)) fun (j : Nat) => List.getD [[iv (fnd r x13).minute, .sl 1 (0 + (fnd r x13).new.length) fun (i : Nat) => [iv ((fnd r x13).new.getD i 0)], .sl 1 (0 + (fnd r x13).frm.length) fun (i : Nat) => [iv ((fnd r x13).frm.getD i 0)]]] j (TI.za ti32)) jf [iv (fnd r jf).minute, .vec 5003, aInts (fnd r jf).frm]), (5003, .vec 3 1 (nwLen r jf x13) fun (p : Nat) => [iv ((fnd r jf).new.getD p 0)]), (5002, .vec 37 2 (chLen r jm r.machines.length) fun (p : Nat) => cSpan (chg (mach r jm) p))] 20360) (by kernel_rfl) ⟨tv, tv, tv, tv, tv, tv, tv, (o50 hp x0 hx0 h1 x13 hx13 h19 h20), tv, tv, tv, (o51 hp x0 hx0 h1 x13 hx13 h19 h20), tv, tv, ⟨(o52 hp x0 hx0 h1 x13 hx13 h19 h20), (o53 hp x0 hx0 h1 x13 hx13 h19 h20)⟩, tv, tv, tv⟩ ?_
    refine sR (kt := [1, 2, 3, 5]) (kh := [0, 8, 56, 5000, 20336, 5002, 5003]) (q := True /\ inI ((x13 : Int) + 1) /\ True /\ True) (st' := ASt.mk [(1, .ptr 0 []), (2, .ptr 8 []), (3, .ptr 56 []), (5, iv ((x13 : Int) + 1))] [(0, .cells 25 (cRun r)), (8, .cells 25 [iv 0, iv 0, nilv, nilv]), (56, .cells 25 [iv r.plates, iv r.last, .vec 5000, .vec 20336]), (5000, .vecx 42 2 r.machines.length (fun (k : Nat) => cMach (mach r k)) jm [.vec 5002, iv (mach r jm).rate]), (20336, .vecx 32 3 (x13 + 1) (catF x13 (fun (k : Nat) => cFnd (fnd r k)) fun (j : Nat) => List.getD [[iv (fnd r x13).minute, .sl 1 (0 + (fnd r x13).new.length) fun (i : Nat) => [iv ((fnd r x13).new.getD i 0)], .sl 1 (0 + (fnd r x13).frm.length) fun (i : Nat) => [iv ((fnd r x13).frm.getD i 0)]]] j (TI.za ti32)) jf [iv (fnd r jf).minute, .vec 5003, aInts (fnd r jf).frm]), (5002, .vec 37 2 (chLen r jm r.machines.length) fun (p : Nat) => cSpan (chg (mach r jm) p)), (5003, .vec 3 1 (nwLen r jf x13) fun (p : Nat) => [iv ((fnd r jf).new.getD p 0)])] 20384) (by kernel_rfl) ⟨tv, (o54 hp x0 hx0 h1 x13 hx13 h19 h20), tv, tv⟩ ?_
    exact loop_next (Hint.ann (h20xb r jm jf) [(1, AV.ptr 0 []), (2, AV.ptr 8 []), (3, AV.ptr 56 [])] [(0, OB.cells 25 (cRun r)), (8, OB.cells 25 [iv 0, iv 0, nilv, nilv])] 20128) x13 (ent_q hE [] [(0, .same 0), (8, .same 8), (56, .same 56), (5000, .same 5000), (5002, .same 5002), (5001, .same 20336), (5003, .same 5003)] [] [0, 8, 5002] (((some (Src.same 0) = some (Src.same 0) /\ nilP = []) /\ (some (Src.same 8) = some (Src.same 8) /\ nilP = []) /\ (some (Src.same 56) = some (Src.same 56) /\ nilP = []) /\ (iv ((x13 : Int) + 1) = iv (↑(x13 + 1) : Int) /\ nilN = []) /\ True) /\ ((OB.cells 25 (cRun r) = OB.cells 25 (cRun r) /\ true = true) /\ (OB.cells 25 [iv 0, iv 0, nilv, nilv] = OB.cells 25 [iv 0, iv 0, nilv, nilv] /\ true = true) /\ (25 = 25 /\ ((iv r.plates = iv r.plates /\ nilN = []) /\ (iv r.last = iv r.last /\ nilN = []) /\ some (Src.same 5000) = some (Src.same 5000) /\ some (Src.same 20336) = some (Src.same 20336) /\ True) /\ true = true) /\ (42 = 42 /\ 2 = 2 /\ r.machines.length = r.machines.length /\ jm = jm /\ (∀ (i31 : Nat), i31 < r.machines.length -> i31 ≠ jm -> cMach (mach r i31) = cMach (mach r i31)) /\ (some (Src.same 5002) = some (Src.same 5002) /\ (iv (mach r jm).rate = iv (mach r jm).rate /\ nilN = []) /\ True) /\ true = true) /\ (((OB.vec 37 2 (chLen r jm r.machines.length) fun (p : Nat) => cSpan (chg (mach r jm) p)) = OB.vec 37 2 (chLen r jm r.machines.length) fun (p : Nat) => cSpan (chg (mach r jm) p)) /\ true = true) /\ (32 = 32 /\ 3 = 3 /\ x13 + 1 = x13 + 1 /\ jf = jf /\ (∀ (i34 : Nat), i34 < x13 + 1 -> i34 ≠ jf -> catF x13 (fun (k : Nat) => cFnd (fnd r k)) (fun (j : Nat) => List.getD [[iv (fnd r x13).minute, AV.sl 1 (0 + (fnd r x13).new.length) fun (i : Nat) => [iv ((fnd r x13).new.getD i 0)], AV.sl 1 (0 + (fnd r x13).frm.length) fun (i : Nat) => [iv ((fnd r x13).frm.getD i 0)]]] j (TI.za ti32)) i34 = cFnd (fnd r i34)) /\ ((iv (fnd r jf).minute = iv (fnd r jf).minute /\ nilN = []) /\ some (Src.same 5003) = some (Src.same 5003) /\ (1 = 1 /\ (fnd r jf).frm.length = (fnd r jf).frm.length /\ ∀ (i37 : Nat), i37 < (fnd r jf).frm.length -> [iv ((fnd r jf).frm.getD i37 0)] = [iv ((fnd r jf).frm.getD i37 0)]) /\ True) /\ true = true) /\ (3 = 3 /\ 1 = 1 /\ nwLen r jf x13 = nwLen r jf (x13 + 1) /\ ∀ (i39 : Nat), i39 < nwLen r jf x13 -> [iv ((fnd r jf).new.getD i39 0)] = [iv ((fnd r jf).new.getD i39 0)]) /\ True) /\ T2) (by kernel_rfl) (by kernel_rfl) ⟨⟨⟨rfl, rfl⟩, ⟨rfl, rfl⟩, ⟨rfl, rfl⟩, ⟨(congrArg iv (o55 hp x0 hx0 h1 x13 hx13 h19 h20)), rfl⟩, tv⟩, ⟨⟨rfl, rfl⟩, ⟨rfl, rfl⟩, ⟨rfl, ⟨⟨rfl, rfl⟩, ⟨rfl, rfl⟩, rfl, rfl, tv⟩, rfl⟩, ⟨rfl, rfl, rfl, rfl, (fun i31 => (fun h32 => (fun h33 => rfl))), ⟨rfl, ⟨rfl, rfl⟩, tv⟩, rfl⟩, ⟨rfl, rfl⟩, ⟨rfl, rfl, rfl, rfl, (fun i34 => (fun h35 => (fun h36 => (o56 hp x0 hx0 h1 x13 hx13 h19 h20 i34 h35 h36)))), ⟨⟨rfl, rfl⟩, rfl, ⟨rfl, rfl, (fun i37 => (fun h38 => rfl))⟩, tv⟩, rfl⟩, ⟨rfl, rfl, (o57 hp x0 hx0 h1 x13 hx13 h19 h20), (fun i39 => (fun h40 => rfl))⟩, tv⟩, rfl, rfl⟩) (o58 hp x0 hx0 h1 x13 hx13 h19 h20) (o59 hp x0 hx0 h1 x13 hx13 h19 h20)
  ·refine swp_exit (swp_seq ?_)
   refine sR (kt := [2]) (kh := [8, 5000, 5001, 5002, 5003]) (q := True /\ True /\ True) (st' := ASt.mk [(2, .ptr 8 [])] [(8, .cells 25 [iv r.plates, iv r.last, .vec 5000, .vec 5001]), (5000, .vecx 42 2 r.machines.length (fun (k : Nat) => cMach (mach r k)) jm [.vec 5002, iv (mach r jm).rate]), (5001, .vecx 32 3 x13 (fun (k : Nat) => cFnd (fnd r k)) jf [iv (fnd r jf).minute, .vec 5003, aInts (fnd r jf).frm]), (5002, .vec 37 2 (chLen r jm r.machines.length) fun (p : Nat) => cSpan (chg (mach r jm) p)), (5003, .vec 3 1 (nwLen r jf x13) fun (p : Nat) => [iv ((fnd r jf).new.getD p 0)])] 20184) (by kernel_rfl) ⟨tv, tv, tv⟩ ?_
   refine swp_ret ?_
   exact ret_o (ASt.mk [(2, AV.ptr 90 [])] [(90, OB.cells 25 [iv r.plates, iv r.last, AV.vec 0, AV.vec 1]), (0, OB.vecx 42 2 r.machines.length (fun (k : Nat) => cMach (mach r k)) jm [AV.vec 2, iv (mach r jm).rate]), (1, OB.vecx 32 3 r.found.length (fun (k : Nat) => cFnd (fnd r k)) jf [iv (fnd r jf).minute, AV.vec 3, aInts (fnd r jf).frm]), (2, OB.vec 37 2 (chLen r jm r.machines.length) fun (p : Nat) => cSpan (chg (mach r jm) p)), (3, OB.vec 3 1 (nwLen r jf r.found.length) fun (p : Nat) => [iv ((fnd r jf).new.getD p 0)])] 100) (ent_q hE [] [(90, .same 8), (0, .same 5000), (2, .same 5002), (1, .same 5001), (3, .same 5003)] [] [] (((some (Src.same 8) = some (Src.same 8) /\ nilP = []) /\ True) /\ ((25 = 25 /\ ((iv r.plates = iv r.plates /\ nilN = []) /\ (iv r.last = iv r.last /\ nilN = []) /\ some (Src.same 5000) = some (Src.same 5000) /\ some (Src.same 5001) = some (Src.same 5001) /\ True) /\ true = true) /\ (42 = 42 /\ 2 = 2 /\ r.machines.length = r.machines.length /\ jm = jm /\ (∀ (i41 : Nat), i41 < r.machines.length -> i41 ≠ jm -> cMach (mach r i41) = cMach (mach r i41)) /\ (some (Src.same 5002) = some (Src.same 5002) /\ (iv (mach r jm).rate = iv (mach r jm).rate /\ nilN = []) /\ True) /\ true = true) /\ (32 = 32 /\ 3 = 3 /\ x13 = r.found.length /\ jf = jf /\ (∀ (i44 : Nat), i44 < x13 -> i44 ≠ jf -> cFnd (fnd r i44) = cFnd (fnd r i44)) /\ ((iv (fnd r jf).minute = iv (fnd r jf).minute /\ nilN = []) /\ some (Src.same 5003) = some (Src.same 5003) /\ (1 = 1 /\ (fnd r jf).frm.length = (fnd r jf).frm.length /\ ∀ (i47 : Nat), i47 < (fnd r jf).frm.length -> [iv ((fnd r jf).frm.getD i47 0)] = [iv ((fnd r jf).frm.getD i47 0)]) /\ True) /\ true = true) /\ (37 = 37 /\ 2 = 2 /\ chLen r jm r.machines.length = chLen r jm r.machines.length /\ ∀ (i49 : Nat), i49 < chLen r jm r.machines.length -> cSpan (chg (mach r jm) i49) = cSpan (chg (mach r jm) i49)) /\ (3 = 3 /\ 1 = 1 /\ nwLen r jf x13 = nwLen r jf r.found.length /\ ∀ (i51 : Nat), i51 < nwLen r jf x13 -> [iv ((fnd r jf).new.getD i51 0)] = [iv ((fnd r jf).new.getD i51 0)]) /\ True) /\ T2) (by kernel_rfl) (by kernel_rfl) ⟨⟨⟨rfl, rfl⟩, tv⟩, ⟨⟨rfl, ⟨⟨rfl, rfl⟩, ⟨rfl, rfl⟩, rfl, rfl, tv⟩, rfl⟩, ⟨rfl, rfl, rfl, rfl, (fun i41 => (fun h42 => (fun h43 => rfl))), ⟨rfl, ⟨rfl, rfl⟩, tv⟩, rfl⟩, ⟨rfl, rfl, (o60 hp x0 hx0 h1 x13 hx13 h19), rfl, (fun i44 => (fun h45 => (fun h46 => rfl))), ⟨⟨rfl, rfl⟩, rfl, ⟨rfl, rfl, (fun i47 => (fun h48 => rfl))⟩, tv⟩, rfl⟩, ⟨rfl, rfl, rfl, (fun i49 => (fun h50 => rfl))⟩, ⟨rfl, rfl, (o61 hp x0 hx0 h1 x13 hx13 h19), (fun i51 => (fun h52 => rfl))⟩, tv⟩, rfl, rfl⟩) ((True /\ True) /\ AV.agg [iv r.plates, iv r.last, AV.vec 0, AV.vec 1] = AV.agg [iv r.plates, iv r.last, AV.vec 0, AV.vec 1] /\ some (OB.vecx 42 2 r.machines.length (fun (k : Nat) => cMach (mach r k)) jm [AV.vec 2, iv (mach r jm).rate]) = some (OB.vecx 42 2 r.machines.length (fun (k : Nat) => cMach (mach r k)) jm [AV.vec 2, iv (mach r jm).rate]) /\ some (OB.vecx 32 3 r.found.length (fun (k : Nat) => cFnd (fnd r k)) jf [iv (fnd r jf).minute, AV.vec 3, aInts (fnd r jf).frm]) = some (OB.vecx 32 3 r.found.length (fun (k : Nat) => cFnd (fnd r k)) jf [iv (fnd r jf).minute, AV.vec 3, aInts (fnd r jf).frm]) /\ some (OB.vec 37 2 (chLen r jm r.machines.length) fun (p : Nat) => cSpan (chg (mach r jm) p)) = some (OB.vec 37 2 (chLen r jm r.machines.length) fun (p : Nat) => cSpan (chg (mach r jm) p)) /\ some (OB.vec 3 1 (nwLen r jf r.found.length) fun (p : Nat) => [iv ((fnd r jf).new.getD p 0)]) = some (OB.vec 3 1 (nwLen r jf r.found.length) fun (p : Nat) => [iv ((fnd r jf).new.getD p 0)]) /\ True) (by kernel_rfl) ⟨⟨tv, tv⟩, rfl, rfl, rfl, rfl, rfl, tv⟩
theorem to20 (r : Run) (jm jf : Nat) (l : List (Nat × Nat)) (hl : l.map (·.1) = [0, 1, 2, 3]) (hnd : (l.map (·.2)).Nodup) : Triple Try.prog 20 ((ou20 r jm jf).at l) := by
  apply wo20
  case hl => exact hl
  case hnd => exact hnd
  all_goals (first
    | ((repeat intro _) <;> (try simp only [v0, v1, v2, v3, v4, v5, v6, v7, v8, v9, inI, fits, Go.Sh.small] at *) <;> first | (exact rfl) | omega | exact vz | (simp_all; done) | (simp_all; omega))
    | (intro hp; first | rfl | (simp [chLen]; done) | (simp [nwLen]; done))
    | (intro hp x hx hl2
       have h1 : (mach r x).changes.length <= 65536 := hp.2.2.1 x
       have h2 := hp.1
       have h3 := hp.2.1
       simp only [decide_eq_true_eq, decide_eq_false_iff_not] at hl2
       first
       | omega
       | (rw [show x = r.machines.length by omega]; done)
       | (rw [nwLen, if_neg (Nat.not_lt_zero _)]; done)
       | (intro e
          first
          | (have e2 := eqN_t e
             subst e2
             first
             | omega
             | (simp only [inI]; omega)
             | rfl
             | (rw [chLen_self]; omega)
             | (intro i hi; rfl))
          | (have e2 := eqN_f e
             first
             | omega
             | (simp only [inI]; omega)
             | (rw [chLen_other e2]; done)
             | (intro i hi hij; exact catF_idx (fun k => cMach (mach r k)) (by simp only [cMach, aSpans, cSpan, Nat.zero_add]) hi)))
       | (intro y hy hyl
          have h4 := (hp.2.2.2 y).1
          have h5 := (hp.2.2.2 y).2
          simp only [decide_eq_true_eq, decide_eq_false_iff_not] at hyl
          first
          | omega
          | (rw [show y = r.found.length by omega]; done)
          | (intro e
             first
             | (have e2 := eqN_t e
                subst e2
                first
                | omega
                | (simp only [inI]; omega)
                | rfl
                | (rw [nwLen_self]; omega)
                | (intro i hi; rfl))
             | (have e2 := eqN_f e
                first
                | omega
                | (simp only [inI]; omega)
                | (rw [nwLen_other e2]; done)
                | (intro i hi hij; exact catF_idx (fun k => cFnd (fnd r k)) (by simp only [cFnd, aInts, Nat.zero_add]) hi))))))
def s20o (r : Run) (jm jf : Nat) (id : Nat) : CallSpec := (ou20 r jm jf).at [(0, id), (1, id + 1), (2, id + 2), (3, id + 3)]
theorem t20o (r : Run) (jm jf : Nat) (id : Nat) : Triple Try.prog 20 (s20o r jm jf id) := to20 r jm jf _ rfl (by simp)
end Go.Ab
namespace Go.Sh
def exR : Run := ⟨2, 10, [⟨[⟨2, 5⟩, ⟨2, 8⟩], 3⟩, ⟨[⟨4, 9⟩, ⟨0, 9⟩], 5⟩], [⟨4, [1, 0], [0, 1]⟩, ⟨6, [-1, 1], [0, 1]⟩, ⟨3, [0, -1], [0]⟩]⟩
def exQ : Run := ⟨2, 10, [⟨[⟨2, 5⟩, ⟨2, 8⟩], 3⟩, ⟨[⟨4, 9⟩, ⟨0, 9⟩], 5⟩], [⟨4, [1, 0], [0, 1]⟩, ⟨6, [0, 1], [0, 1]⟩, ⟨3, [0, -1], [0]⟩]⟩
end Go.Sh
namespace Go.Ab
open Go Go.RowKit Go.Proofs Go.Sh Go.En
def s77 : CallSpec := { args := [], res := .tup [vRun exR, vRun exQ] }
def c77 (id : Nat) : CallSpec := s20o exR 2 1 id
def s77o (r q : Run) : CallSpec := { args := [], res := .tup [vRun r, vRun q], pre := r = exR /\ q = exQ }
def sw19 (r q : Run) : CallSpec := { args := [], res := bv true, pre := r = exR /\ q = exQ }
def c19a (r q : Run) : CallSpec := s77o r q
def c19 (r q : Run) : CallSpec := s37 (whereS q 1) [1]
def s19 : CallSpec := { args := [], res := bv true }
end Go.Ab
namespace Go.Ab
open Go Go.RowKit Go.Proofs Go.Sh Go.En
theorem w77 
 (o0 : 2 = Run.plates exR)
 (o1 : 10 = Run.last exR)
 (o2 : ∀ (i4 : Nat), i4 < exR.machines.length -> List.getD [[AV.sl 2 2 fun (j : Nat) => List.getD [[iv 2, iv 5], [iv 2, iv 8]] j (TI.za ti37), iv 3], [AV.sl 2 2 fun (j : Nat) => List.getD [[iv 4, iv 9], [iv 0, iv 9]] j (TI.za ti37), iv 5]] i4 (TI.za ti42) = cMach (mach exR i4))
 (o3 : ∀ (i6 : Nat), i6 < exR.found.length -> List.getD [[iv 4, AV.sl 1 2 fun (j : Nat) => List.getD [[iv 1], [iv 0]] j (TI.za ti3), AV.sl 1 2 fun (j : Nat) => List.getD [[iv 0], [iv 1]] j (TI.za ti3)], [iv 6, AV.sl 1 2 fun (j : Nat) => List.getD [[iv (-1)], [iv 1]] j (TI.za ti3), AV.sl 1 2 fun (j : Nat) => List.getD [[iv 0], [iv 1]] j (TI.za ti3)], [iv 3, AV.sl 1 2 fun (j : Nat) => List.getD [[iv 0], [iv (-1)]] j (TI.za ti3), AV.sl 1 1 fun (j : Nat) => List.getD [[iv 0]] j (TI.za ti3)]] i6 (TI.za ti32) = cFnd (fnd exR i6))
 (o4 : small exR)
 (o5 : ∀ (i12 : Nat), i12 < (mach exR 2).changes.length -> cSpan (chg (mach exR 2) i12) = [iv ((mach exR 2).changes.getD i12 default).lo, iv ((mach exR 2).changes.getD i12 default).hi])
 (o6 : ∀ (i14 : Nat), i14 < exR.found.length -> i14 ≠ 1 -> cFnd (fnd exR i14) = cFnd (fnd exQ i14))
 (o7 : Fnd.minute (fnd exR 1) = Fnd.minute (fnd exQ 1))
 (o8 : ∀ (i17 : Nat), i17 < (fnd exQ 1).new.length -> Decidable.rec (fun (h : ¬i17 = 0) => [iv ((fnd exR 1).new.getD i17 0)]) (fun (h : i17 = 0) => [iv 0] ++ []) (instDecidableEqNat i17 0) = [iv ((fnd exQ 1).new.getD i17 0)])
 (o9 : ∀ (i19 : Nat), i19 < (fnd exQ 1).frm.length -> [iv ((fnd exR 1).frm.getD i19 0)] = [iv ((fnd exQ 1).frm.getD i19 0)])
 (o10 : Run.plates exR = Run.plates exQ)
 (o11 : Run.last exR = Run.last exQ)
 (o12 : ∀ (i21 : Nat), i21 < exQ.machines.length -> cMach (mach exR i21) = cMach (mach exQ i21)) :
  Triple Try.prog 77 (s77) := by
 refine triple_of Try.func77 rfl Try.call77 T0_ok _ rfl rfl rfl rfl (Nat.le_of_ble_eq_true (by kernel_rfl)) (fun _ _ _ _ h => h) ?_
 intro _ C hC _ hE
 obtain ⟨P, w0, E0, av, hA⟩ := C
 subst hC
 refine swp_seq ?_
 refine sR (kt := [0, 1]) (kh := [0, 8]) (q := True /\ True /\ True) (st' := ASt.mk [(0, .ptr 0 []), (1, .ptr 8 [])] [(0, .cells 25 [iv 0, iv 0, nilv, nilv]), (8, .cells 25 [iv 0, iv 0, nilv, nilv])] 16) (by kernel_rfl) ⟨tv, tv, tv⟩ ?_
 refine swp_seq ?_
 refine swp_region T0_ok mixed (cs := [(0, CallSpec.eq (s29 2 5) [true, true]), (1, CallSpec.eq (s29 2 8) [true, true]), (4, CallSpec.eq (s29 4 9) [true, true]), (5, CallSpec.eq (s29 0 9) [true, true])]) (kt := [0, 1]) (kh := [0, 8, 80, 160]) (q := ((iv 2 = iv 2 /\ iv 5 = iv 5 /\ True) /\ Triple Try.prog 29 (s29 2 5) /\ True /\ True /\ ∀ (i0 : Env), True) /\ ((iv 2 = iv 2 /\ iv 8 = iv 8 /\ True) /\ Triple Try.prog 29 (s29 2 8) /\ True /\ True /\ ∀ (i1 : Env), True) /\ True /\ True /\ ((iv 4 = iv 4 /\ iv 9 = iv 9 /\ True) /\ Triple Try.prog 29 (s29 4 9) /\ True /\ True /\ ∀ (i2 : Env), True) /\ ((iv 0 = iv 0 /\ iv 9 = iv 9 /\ True) /\ Triple Try.prog 29 (s29 0 9) /\ True /\ True /\ ∀ (i3 : Env), True) /\ True /\ True /\ True /\ True /\ True /\ True /\ True /\ True /\ True /\ True /\ True /\ True /\ True /\ True /\ True /\ True) (st' := ASt.mk [(0, .ptr 0 []), (1, .ptr 8 [])] [(0, .cells 25 [iv 2, iv 10, .vec 80, .vec 160]), (8, .cells 25 [iv 0, iv 0, nilv, nilv]), (80, .vec 42 2 2 fun (j : Nat) => List.getD [[.sl 2 2 fun (j : Nat) => List.getD [[iv 2, iv 5], [iv 2, iv 8]] j (TI.za ti37), iv 3], [.sl 2 2 fun (j : Nat) => List.getD [[iv 4, iv 9], [iv 0, iv 9]] j (TI.za ti37), iv 5]] j (TI.za ti42)), (160, .vec 32 3 3 fun (j : Nat) => List.getD [[iv 4, .sl 1 2 fun (j : Nat) => List.getD [[iv 1], [iv 0]] j (TI.za ti3), .sl 1 2 fun (j : Nat) => List.getD [[iv 0], [iv 1]] j (TI.za ti3)], [iv 6, .sl 1 2 fun (j : Nat) => List.getD [[iv (-1)], [iv 1]] j (TI.za ti3), .sl 1 2 fun (j : Nat) => List.getD [[iv 0], [iv 1]] j (TI.za ti3)], [iv 3, .sl 1 2 fun (j : Nat) => List.getD [[iv 0], [iv (-1)]] j (TI.za ti3), .sl 1 1 fun (j : Nat) => List.getD [[iv 0]] j (TI.za ti3)]] j (TI.za ti32))] 184) (by kernel_rfl) ⟨⟨⟨rfl, rfl, tv⟩, (t29 (2) (5)), tv, tv, (fun i0 => tv)⟩, ⟨⟨rfl, rfl, tv⟩, (t29 (2) (8)), tv, tv, (fun i1 => tv)⟩, tv, tv, ⟨⟨rfl, rfl, tv⟩, (t29 (4) (9)), tv, tv, (fun i2 => tv)⟩, ⟨⟨rfl, rfl, tv⟩, (t29 (0) (9)), tv, tv, (fun i3 => tv)⟩, tv, tv, tv, tv, tv, tv, tv, tv, tv, tv, tv, tv, tv, tv, tv, tv⟩ ?_
 refine swp_seq ?_
 refine swp_ent (ent_q (st2 := ASt.mk [(0, AV.ptr 0 []), (1, AV.ptr 8 [])] [(0, OB.cells 25 (cRun exR)), (8, OB.cells 25 [iv 0, iv 0, nilv, nilv])] 184) hE [80, 160] [(0, .same 0), (8, .same 8)] [] [8] (((some (Src.same 0) = some (Src.same 0) /\ nilP = []) /\ (some (Src.same 8) = some (Src.same 8) /\ nilP = []) /\ True) /\ ((25 = 25 /\ ((iv 2 = iv exR.plates /\ nilN = []) /\ (iv 10 = iv exR.last /\ nilN = []) /\ (2 = 2 /\ 2 = exR.machines.length /\ ∀ (i4 : Nat), i4 < exR.machines.length -> List.getD [[AV.sl 2 2 fun (j : Nat) => List.getD [[iv 2, iv 5], [iv 2, iv 8]] j (TI.za ti37), iv 3], [AV.sl 2 2 fun (j : Nat) => List.getD [[iv 4, iv 9], [iv 0, iv 9]] j (TI.za ti37), iv 5]] i4 (TI.za ti42) = cMach (mach exR i4)) /\ (3 = 3 /\ 3 = exR.found.length /\ ∀ (i6 : Nat), i6 < exR.found.length -> List.getD [[iv 4, AV.sl 1 2 fun (j : Nat) => List.getD [[iv 1], [iv 0]] j (TI.za ti3), AV.sl 1 2 fun (j : Nat) => List.getD [[iv 0], [iv 1]] j (TI.za ti3)], [iv 6, AV.sl 1 2 fun (j : Nat) => List.getD [[iv (-1)], [iv 1]] j (TI.za ti3), AV.sl 1 2 fun (j : Nat) => List.getD [[iv 0], [iv 1]] j (TI.za ti3)], [iv 3, AV.sl 1 2 fun (j : Nat) => List.getD [[iv 0], [iv (-1)]] j (TI.za ti3), AV.sl 1 1 fun (j : Nat) => List.getD [[iv 0]] j (TI.za ti3)]] i6 (TI.za ti32) = cFnd (fnd exR i6)) /\ True) /\ true = true) /\ (OB.cells 25 [iv 0, iv 0, nilv, nilv] = OB.cells 25 [iv 0, iv 0, nilv, nilv] /\ true = true) /\ True) /\ T2) (by kernel_rfl) (by kernel_rfl) ⟨⟨⟨rfl, rfl⟩, ⟨rfl, rfl⟩, tv⟩, ⟨⟨rfl, ⟨⟨(congrArg iv (o0)), rfl⟩, ⟨(congrArg iv (o1)), rfl⟩, ⟨rfl, (by decide), (fun i4 => (fun h5 => (o2 i4 h5)))⟩, ⟨rfl, (by decide), (fun i6 => (fun h7 => (o3 i6 h7)))⟩, tv⟩, rfl⟩, ⟨rfl, rfl⟩, tv⟩, rfl, rfl⟩) ?_
 refine swp_region T0_ok mixed (cs := [(1, CallSpec.eq (c77 192) [true])]) (kt := [0, 1]) (kh := [0, 8, 192, 193, 195, 194]) (q := True /\ ((AV.agg (cRun exR) = AV.agg (cRun exR) /\ True) /\ Triple Try.prog 20 (c77 192) /\ small exR /\ True /\ ∀ (i8 : Env), True) /\ True /\ True) (st' := ASt.mk [(0, .ptr 0 []), (1, .ptr 8 [])] [(0, .cells 25 (cRun exR)), (8, .cells 25 [iv exR.plates, iv exR.last, .vec 192, .vec 193]), (192, .vecx 42 2 exR.machines.length (fun (k : Nat) => cMach (mach exR k)) 2 [.vec 194, iv (mach exR 2).rate]), (193, .vecx 32 3 exR.found.length (fun (k : Nat) => cFnd (fnd exR k)) 1 [iv (fnd exR 1).minute, .vec 195, .sl 1 (fnd exR 1).frm.length fun (i : Nat) => [iv ((fnd exR 1).frm.getD i 0)]]), (195, .vec 3 1 (nwLen exR 1 exR.found.length) fun (p : Nat) => [iv ((fnd exR 1).new.getD p 0)]), (194, .vec 37 2 (chLen exR 2 exR.machines.length) fun (p : Nat) => cSpan (chg (mach exR 2) p))] 208) (by kernel_rfl) ⟨tv, ⟨⟨rfl, tv⟩, (t20o (exR) (2) (1) (192)), (o4), tv, (fun i8 => tv)⟩, tv, tv⟩ ?_
 refine swp_seq ?_
 refine sR (kt := [0, 1]) (kh := [0, 8, 192, 193, 194, 195]) (q := True /\ True /\ (Int.ofNat 0 <= Int.ofNat 1 /\ 1 < (↑(exR.found.length) : Int)) /\ True /\ (1 = 1 /\ 1 < exR.found.length /\ True) /\ (Int.ofNat 0 <= Int.ofNat 0 /\ 0 < (↑(nwLen exR 1 exR.found.length) : Int)) /\ (0 < nwLen exR 1 exR.found.length /\ True) /\ True) (st' := ASt.mk [(0, .ptr 0 []), (1, .ptr 8 [])] [(0, .cells 25 (cRun exR)), (8, .cells 25 [iv exR.plates, iv exR.last, .vec 192, .vec 193]), (192, .vecx 42 2 exR.machines.length (fun (k : Nat) => cMach (mach exR k)) 2 [.vec 194, iv (mach exR 2).rate]), (193, .vecx 32 3 exR.found.length (fun (k : Nat) => cFnd (fnd exR k)) 1 [iv (fnd exR 1).minute, .vec 195, .sl 1 (fnd exR 1).frm.length fun (i : Nat) => [iv ((fnd exR 1).frm.getD i 0)]]), (194, .vec 37 2 (chLen exR 2 exR.machines.length) fun (p : Nat) => cSpan (chg (mach exR 2) p)), (195, .vec 3 1 (nwLen exR 1 exR.found.length) fun (j : Nat) => Decidable.rec (fun (h : ¬j = 0) => [iv ((fnd exR 1).new.getD j 0)]) (fun (h : j = 0) => [iv 0] ++ []) (instDecidableEqNat j 0))] 264) (by kernel_rfl) ⟨tv, tv, ⟨(by decide), (by decide)⟩, tv, ⟨rfl, (by decide), tv⟩, ⟨(by decide), (by decide)⟩, ⟨(by decide), tv⟩, tv⟩ ?_
 refine swp_seq ?_
 refine swp_ent (ent_q (st2 := ASt.mk [(0, AV.ptr 0 []), (1, AV.ptr 8 [])] [(192, OB.vec 42 2 2 fun (k : Nat) => cMach (mach exR k)), (193, OB.vec 32 3 3 fun (k : Nat) => cFnd (fnd exQ k)), (0, OB.cells 25 (cRun exR)), (8, OB.cells 25 [iv exR.plates, iv exR.last, AV.vec 192, AV.vec 193])] 264) hE [194, 195] [(0, .same 0), (8, .same 8), (192, .same 192), (193, .same 193)] [] [0] (((some (Src.same 0) = some (Src.same 0) /\ nilP = []) /\ (some (Src.same 8) = some (Src.same 8) /\ nilP = []) /\ True) /\ ((42 = 42 /\ 2 = 2 /\ exR.machines.length = 2 /\ (∀ (i9 : Nat), i9 < exR.machines.length -> i9 ≠ 2 -> cMach (mach exR i9) = cMach (mach exR i9)) /\ ((2 = 2 /\ chLen exR 2 exR.machines.length = (mach exR 2).changes.length /\ ∀ (i12 : Nat), i12 < (mach exR 2).changes.length -> cSpan (chg (mach exR 2) i12) = [iv ((mach exR 2).changes.getD i12 default).lo, iv ((mach exR 2).changes.getD i12 default).hi]) /\ (iv (mach exR 2).rate = iv (mach exR 2).rate /\ nilN = []) /\ True) /\ T2) /\ (32 = 32 /\ 3 = 3 /\ exR.found.length = 3 /\ (∀ (i14 : Nat), i14 < exR.found.length -> i14 ≠ 1 -> cFnd (fnd exR i14) = cFnd (fnd exQ i14)) /\ ((iv (fnd exR 1).minute = iv (fnd exQ 1).minute /\ nilN = []) /\ (1 = 1 /\ nwLen exR 1 exR.found.length = (fnd exQ 1).new.length /\ ∀ (i17 : Nat), i17 < (fnd exQ 1).new.length -> Decidable.rec (fun (h : ¬i17 = 0) => [iv ((fnd exR 1).new.getD i17 0)]) (fun (h : i17 = 0) => [iv 0] ++ []) (instDecidableEqNat i17 0) = [iv ((fnd exQ 1).new.getD i17 0)]) /\ (1 = 1 /\ (fnd exR 1).frm.length = (fnd exQ 1).frm.length /\ ∀ (i19 : Nat), i19 < (fnd exQ 1).frm.length -> [iv ((fnd exR 1).frm.getD i19 0)] = [iv ((fnd exQ 1).frm.getD i19 0)]) /\ True) /\ T2) /\ (OB.cells 25 (cRun exR) = OB.cells 25 (cRun exR) /\ true = true) /\ (25 = 25 /\ ((iv exR.plates = iv exR.plates /\ nilN = []) /\ (iv exR.last = iv exR.last /\ nilN = []) /\ some (Src.same 192) = some (Src.same 192) /\ some (Src.same 193) = some (Src.same 193) /\ True) /\ true = true) /\ True) /\ T2) (by kernel_rfl) (by kernel_rfl) ⟨⟨⟨rfl, rfl⟩, ⟨rfl, rfl⟩, tv⟩, ⟨⟨rfl, rfl, (by decide), (fun i9 => (fun h10 => (fun h11 => rfl))), ⟨⟨rfl, (by decide), (fun i12 => (fun h13 => (o5 i12 h13)))⟩, ⟨rfl, rfl⟩, tv⟩, rfl, rfl⟩, ⟨rfl, rfl, (by decide), (fun i14 => (fun h15 => (fun h16 => (o6 i14 h15 h16)))), ⟨⟨(congrArg iv (o7)), rfl⟩, ⟨rfl, (by decide), (fun i17 => (fun h18 => (o8 i17 h18)))⟩, ⟨rfl, (by decide), (fun i19 => (fun h20 => (o9 i19 h20)))⟩, tv⟩, rfl, rfl⟩, ⟨rfl, rfl⟩, ⟨rfl, ⟨⟨rfl, rfl⟩, ⟨rfl, rfl⟩, rfl, rfl, tv⟩, rfl⟩, tv⟩, rfl, rfl⟩) ?_
 refine swp_ent (ent_q (st2 := ASt.mk [(0, AV.ptr 0 []), (1, AV.ptr 8 [])] [(8, OB.cells 25 (cRun exQ)), (0, OB.cells 25 (cRun exR))] 264) hE [192, 193] [(0, .same 0), (8, .same 8)] [] [0] (((some (Src.same 0) = some (Src.same 0) /\ nilP = []) /\ (some (Src.same 8) = some (Src.same 8) /\ nilP = []) /\ True) /\ ((25 = 25 /\ ((iv exR.plates = iv exQ.plates /\ nilN = []) /\ (iv exR.last = iv exQ.last /\ nilN = []) /\ (2 = 2 /\ 2 = exQ.machines.length /\ ∀ (i21 : Nat), i21 < exQ.machines.length -> cMach (mach exR i21) = cMach (mach exQ i21)) /\ (3 = 3 /\ 3 = exQ.found.length /\ ∀ (i23 : Nat), i23 < exQ.found.length -> cFnd (fnd exQ i23) = cFnd (fnd exQ i23)) /\ True) /\ true = true) /\ (OB.cells 25 (cRun exR) = OB.cells 25 (cRun exR) /\ true = true) /\ True) /\ T2) (by kernel_rfl) (by kernel_rfl) ⟨⟨⟨rfl, rfl⟩, ⟨rfl, rfl⟩, tv⟩, ⟨⟨rfl, ⟨⟨(congrArg iv (o10)), rfl⟩, ⟨(congrArg iv (o11)), rfl⟩, ⟨rfl, (by decide), (fun i21 => (fun h22 => (o12 i21 h22)))⟩, ⟨rfl, (by decide), (fun i23 => (fun h24 => rfl))⟩, tv⟩, rfl⟩, ⟨rfl, rfl⟩, tv⟩, rfl, rfl⟩) ?_
 refine sR (kt := [0, 1]) (kh := [0, 8]) (q := True /\ True /\ True /\ True /\ True) (st' := ASt.mk [(0, .ptr 0 []), (1, .ptr 8 [])] [(0, .cells 25 (cRun exR)), (8, .cells 25 (cRun exQ))] 296) (by kernel_rfl) ⟨tv, tv, tv, tv, tv⟩ ?_
 refine swp_ret ?_
 exact ret_q [] ((True /\ True /\ True) /\ (((iv exR.plates = iv exR.plates /\ nilN = []) /\ (iv exR.last = iv exR.last /\ nilN = []) /\ (2 = 2 /\ exR.machines.length = exR.machines.length /\ ∀ (i25 : Nat), i25 < exR.machines.length -> cMach (mach exR i25) = cMach (mach exR i25)) /\ (3 = 3 /\ exR.found.length = exR.found.length /\ ∀ (i27 : Nat), i27 < exR.found.length -> cFnd (fnd exR i27) = cFnd (fnd exR i27)) /\ True) /\ ((iv exQ.plates = iv exQ.plates /\ nilN = []) /\ (iv exQ.last = iv exQ.last /\ nilN = []) /\ (2 = 2 /\ exQ.machines.length = exQ.machines.length /\ ∀ (i29 : Nat), i29 < exQ.machines.length -> cMach (mach exQ i29) = cMach (mach exQ i29)) /\ (3 = 3 /\ exQ.found.length = exQ.found.length /\ ∀ (i31 : Nat), i31 < exQ.found.length -> cFnd (fnd exQ i31) = cFnd (fnd exQ i31)) /\ True) /\ True) /\ T3) (by kernel_rfl) ⟨⟨tv, tv, tv⟩, ⟨⟨⟨rfl, rfl⟩, ⟨rfl, rfl⟩, ⟨rfl, rfl, (fun i25 => (fun h26 => rfl))⟩, ⟨rfl, rfl, (fun i27 => (fun h28 => rfl))⟩, tv⟩, ⟨⟨rfl, rfl⟩, ⟨rfl, rfl⟩, ⟨rfl, rfl, (fun i29 => (fun h30 => rfl))⟩, ⟨rfl, rfl, (fun i31 => (fun h32 => rfl))⟩, tv⟩, tv⟩, rfl, rfl, rfl⟩
theorem sl_ext {sz n : Nat} {f g : Nat -> List AV} (h : ∀ j, f j = g j) : AV.sl sz n f = .sl sz n g := by rw [funext h]
theorem cell3 {c a b a' b' : AV} (h : a = a') (k : b = b') : [c, a, b] = [c, a', b'] := by rw [h, k]
theorem short_list {α β : Type} {l : List α} {d : α} {f : α -> List β} {n : Nat} (h : l.all (fun x => decide ((f x).length <= n)) = true) (hd : (f d).length <= n) (i : Nat) : (f (l.getD i d)).length <= n := by
 by_cases hi : i < l.length
 ·have := List.all_eq_true.1 h _ (getD_mem l d hi)
  simpa using this
 ·rw [getD_ge _ _ (by omega)]; exact hd
theorem small_exR : small exR := by
 exact ⟨by decide, by decide, fun i => short_list (f := fun m : Mach => m.changes) (by decide) (by decide) i, fun i => ⟨short_list (f := fun m : Fnd => m.new) (by decide) (by decide) i, short_list (f := fun m : Fnd => m.frm) (by decide) (by decide) i⟩⟩
theorem small_exQ : small exQ := by
 exact ⟨by decide, by decide, fun i => short_list (f := fun m : Mach => m.changes) (by decide) (by decide) i, fun i => ⟨short_list (f := fun m : Fnd => m.new) (by decide) (by decide) i, short_list (f := fun m : Fnd => m.frm) (by decide) (by decide) i⟩⟩
set_option maxRecDepth 4000
theorem x_when : whenS exQ 1 0 = ⟨7, 9⟩ := by decide +kernel
theorem x_old : oldS exR 0 = ⟨32, 57⟩ := by decide +kernel
theorem x_mix : mixesS exR = ⟨3, 57⟩ := by decide +kernel
theorem x_read : readS exR 2 1 = 3 := by decide +kernel
theorem x_few : fewP exQ = 2 := by decide +kernel
theorem x_ok : openE exQ (whenIs exQ 1 0) = 0 /\ openE exQ (isFound exQ 1) = 0 /\ openE exQ true = 0 /\ openE exR (isPlate exR 0) = 0 /\ openE exR true = 0 /\ openE exR (readIs exR 2 1) = 0 := by decide +kernel
theorem x_wf : wf (waysOf exQ) 1 = [1] := by decide +kernel
theorem x_where : whereS exQ 1 = [1] := by
 rw [whereS, if_pos x_ok.2.1, whereP]
 show compactI (sortI (wf (waysOf exQ) 1)) = [1]
 rw [x_wf, sortI, List.mergeSort_singleton]
 decide +kernel
theorem t77 : Triple Try.prog 77 s77 := by
 apply w77
 case o2 =>
  intro i hi
  have : i = 0 ∨ i = 1 := by simp [exR] at hi; omega
  rcases this with rfl | rfl
  ·exact congrArg (· :: [iv 3]) (sl_ext fun j => by rcases j with _ | _ | j <;> rfl)
  ·exact congrArg (· :: [iv 5]) (sl_ext fun j => by rcases j with _ | _ | j <;> rfl)
 case o3 =>
  intro i hi
  have : i = 0 ∨ i = 1 ∨ i = 2 := by simp [exR] at hi; omega
  rcases this with rfl | rfl | rfl
  ·exact cell3 (sl_ext fun j => by rcases j with _ | _ | j <;> rfl) (sl_ext fun j => by rcases j with _ | _ | j <;> rfl)
  ·exact cell3 (sl_ext fun j => by rcases j with _ | _ | j <;> rfl) (sl_ext fun j => by rcases j with _ | _ | j <;> rfl)
  ·exact cell3 (sl_ext fun j => by rcases j with _ | _ | j <;> rfl) (sl_ext fun j => by rcases j with _ | j <;> rfl)
 case o4 => exact small_exR
 case o6 =>
  intro i hi h1
  have : i = 0 ∨ i = 2 := by simp [exR] at hi; omega
  rcases this with rfl | rfl <;> rfl
 case o8 =>
  intro i hi
  have : i = 0 ∨ i = 1 := by simp [fnd, exQ] at hi; omega
  rcases this with rfl | rfl <;> rfl
 all_goals (first | ((repeat intro _) <;> (try simp only [v0, v1, v2, v3, v4, v5, v6, v7, v8, v9, inI, fits, Go.Sh.small] at *) <;> first | (exact rfl) | omega | exact vz | (simp_all; done) | (simp_all; omega)) | skip)
theorem t77o (r q : Run) : Triple Try.prog 77 (s77o r q) := ⟨t77.1, fun h => by obtain ⟨rfl, rfl⟩ := h; exact t77.2 trivial⟩
abbrev q19_1 (r : Run) (q : Run) (C : Prop) : Prop := r = exR /\ q = exQ -> C
abbrev q19_2 (r : Run) (q : Run) (C : Prop) : Prop := q19_1 r q ((bif bif bif bif bif bif decide (openE q (whenIs q 1 0) = 0) then decide (openE q (isFound q 1) = 0) else false then decide (openE q true = 0) else false then decide (openE r (isPlate r 0) = 0) else false then decide (openE r true = 0) else false then decide (openE r (readIs r 2 1) = 0) else false then decide ((whenS q 1 0).lo = 7) && (decide ((whenS q 1 0).hi = 9) && true) else false) = true -> C)
theorem w19 (r : Run) (q : Run)
 (o0 : q19_1 r q (fits q))
 (o1 : q19_1 r q (fits q))
 (o2 : q19_1 r q (fits q))
 (o3 : q19_1 r q (fits r))
 (o4 : q19_1 r q (fits r))
 (o5 : q19_1 r q (fits r))
 (o6 : q19_2 r q (∀ (i47 : Nat), i47 < List.length [1] -> List.getD [[iv 1]] i47 (TI.za ti3) = [iv (List.getD [1] i47 0)]))
 (o7 : q19_2 r q ((whereS q 1).length <= 1125899906842624))
 (o8 : q19_1 r q ((bif bif bif bif bif bif bif bif bif bif bif decide (openE q (whenIs q 1 0) = 0) then decide (openE q (isFound q 1) = 0) else false then decide (openE q true = 0) else false then decide (openE r (isPlate r 0) = 0) else false then decide (openE r true = 0) else false then decide (openE r (readIs r 2 1) = 0) else false then decide ((whenS q 1 0).lo = 7) && (decide ((whenS q 1 0).hi = 9) && true) else false then sameInts (whereS q 1) [1] else false then decide (fewP q = 2) else false then decide ((oldS r 0).lo = 32) && (decide ((oldS r 0).hi = 57) && true) else false then decide ((mixesS r).lo = 3) && (decide ((mixesS r).hi = 57) && true) else false then decide (readS r 2 1 = 3) else false) = true)) :
  Triple Try.prog 19 (sw19 r q) := by
 refine triple_of Try.func19 rfl Try.call19 T0_ok _ rfl rfl rfl rfl (Nat.le_of_ble_eq_true (by kernel_rfl)) (fun _ _ _ _ h => h) ?_
 intro hp C hC _ hE
 obtain ⟨P, w0, E0, av, hA⟩ := C
 subst hC
 refine swp_seq ?_
 refine sR (kt := []) (kh := []) (q := True /\ True) (st' := ASt.mk [] [] 8) (by kernel_rfl) ⟨tv, tv⟩ ?_
 refine swp_seq ?_
 refine swp_region T0_ok mixed (cs := [(0, CallSpec.eq (c19a r q) [])]) (kt := [1, 2]) (kh := [40, 48]) (q := (True /\ Triple Try.prog 77 (c19a r q) /\ (r = exR /\ q = exQ) /\ True /\ ∀ (i0 : Env), True) /\ True /\ True /\ True /\ True /\ True /\ True /\ True /\ True) (st' := ASt.mk [(1, .ptr 40 []), (2, .ptr 48 [])] [(40, .cells 25 (cRun r)), (48, .cells 25 (cRun q))] 72) (by kernel_rfl) ⟨⟨tv, (t77o (r) (q)), ⟨hp.1, hp.2⟩, tv, (fun i0 => tv)⟩, tv, tv, tv, tv, tv, tv, tv, tv⟩ ?_
 refine swp_seq ?_
 refine swp_region T0_ok mixed (cs := [(1, CallSpec.eq (s23 q 1 0) [true, true, true])]) (kt := [1, 2, 3, 4]) (kh := [40, 48, 112]) (q := True /\ ((AV.agg (cRun q) = AV.agg (cRun q) /\ iv 1 = iv 1 /\ iv 0 = iv 0 /\ True) /\ Triple Try.prog 23 (s23 q 1 0) /\ fits q /\ True /\ ∀ (i1 : Env), True) /\ True /\ True /\ True /\ True /\ True /\ True /\ True) (st' := ASt.mk [(1, .ptr 40 []), (2, .ptr 48 []), (3, .ptr 112 []), (4, iv (openE q (whenIs q 1 0)))] [(40, .cells 25 (cRun r)), (48, .cells 25 (cRun q)), (112, .cells 37 (cSpan (whenS q 1 0)))] 136) (by kernel_rfl) ⟨tv, ⟨⟨rfl, rfl, rfl, tv⟩, (t23 (q) (1) (0)), (o0 hp), tv, (fun i1 => tv)⟩, tv, tv, tv, tv, tv, tv, tv⟩ ?_
 refine swp_seq ?_
 refine swp_region T0_ok mixed (cs := [(1, CallSpec.eq (s35 q 1) [true, true])]) (kt := [1, 2, 3, 4, 5, 6]) (kh := [40, 48, 112]) (q := True /\ ((AV.agg (cRun q) = AV.agg (cRun q) /\ iv 1 = iv 1 /\ True) /\ Triple Try.prog 35 (s35 q 1) /\ fits q /\ True /\ ∀ (i2 : Env), True) /\ True /\ True /\ True /\ True /\ True /\ True) (st' := ASt.mk [(1, .ptr 40 []), (2, .ptr 48 []), (3, .ptr 112 []), (4, iv (openE q (whenIs q 1 0))), (5, aInts (whereS q 1)), (6, iv (openE q (isFound q 1)))] [(40, .cells 25 (cRun r)), (48, .cells 25 (cRun q)), (112, .cells 37 (cSpan (whenS q 1 0)))] 192) (by kernel_rfl) ⟨tv, ⟨⟨rfl, rfl, tv⟩, (t35 (q) (1)), (o1 hp), tv, (fun i2 => tv)⟩, tv, tv, tv, tv, tv, tv⟩ ?_
 refine swp_seq ?_
 refine swp_region T0_ok mixed (cs := [(1, CallSpec.eq (s22 q) [true])]) (kt := [1, 3, 4, 5, 6, 7, 8]) (kh := [40, 112]) (q := True /\ ((AV.agg (cRun q) = AV.agg (cRun q) /\ True) /\ Triple Try.prog 22 (s22 q) /\ fits q /\ True /\ ∀ (i3 : Env), True) /\ True /\ True /\ True /\ True /\ True /\ True) (st' := ASt.mk [(1, .ptr 40 []), (3, .ptr 112 []), (4, iv (openE q (whenIs q 1 0))), (5, aInts (whereS q 1)), (6, iv (openE q (isFound q 1))), (7, iv (fewP q)), (8, iv (openE q true))] [(40, .cells 25 (cRun r)), (112, .cells 37 (cSpan (whenS q 1 0)))] 248) (by kernel_rfl) ⟨tv, ⟨⟨rfl, tv⟩, (t22 (q)), (o2 hp), tv, (fun i3 => tv)⟩, tv, tv, tv, tv, tv, tv⟩ ?_
 refine swp_seq ?_
 refine swp_region T0_ok mixed (cs := [(1, CallSpec.eq (s26 r 0) [true, true])]) (kt := [1, 3, 4, 5, 6, 7, 8, 9, 10]) (kh := [40, 112, 288]) (q := True /\ ((AV.agg (cRun r) = AV.agg (cRun r) /\ iv 0 = iv 0 /\ True) /\ Triple Try.prog 26 (s26 r 0) /\ fits r /\ True /\ ∀ (i4 : Env), True) /\ True /\ True /\ True /\ True /\ True /\ True /\ True) (st' := ASt.mk [(1, .ptr 40 []), (3, .ptr 112 []), (4, iv (openE q (whenIs q 1 0))), (5, aInts (whereS q 1)), (6, iv (openE q (isFound q 1))), (7, iv (fewP q)), (8, iv (openE q true)), (9, .ptr 288 []), (10, iv (openE r (isPlate r 0)))] [(40, .cells 25 (cRun r)), (112, .cells 37 (cSpan (whenS q 1 0))), (288, .cells 37 (cSpan (oldS r 0)))] 312) (by kernel_rfl) ⟨tv, ⟨⟨rfl, rfl, tv⟩, (t26 (r) (0)), (o3 hp), tv, (fun i4 => tv)⟩, tv, tv, tv, tv, tv, tv, tv⟩ ?_
 refine swp_seq ?_
 refine swp_region T0_ok mixed (cs := [(1, CallSpec.eq (s27 r) [true])]) (kt := [1, 3, 4, 5, 6, 7, 8, 9, 10, 11, 12]) (kh := [40, 112, 288, 352]) (q := True /\ ((AV.agg (cRun r) = AV.agg (cRun r) /\ True) /\ Triple Try.prog 27 (s27 r) /\ fits r /\ True /\ ∀ (i5 : Env), True) /\ True /\ True /\ True /\ True /\ True /\ True /\ True) (st' := ASt.mk [(1, .ptr 40 []), (3, .ptr 112 []), (4, iv (openE q (whenIs q 1 0))), (5, aInts (whereS q 1)), (6, iv (openE q (isFound q 1))), (7, iv (fewP q)), (8, iv (openE q true)), (9, .ptr 288 []), (10, iv (openE r (isPlate r 0))), (11, .ptr 352 []), (12, iv (openE r true))] [(40, .cells 25 (cRun r)), (112, .cells 37 (cSpan (whenS q 1 0))), (288, .cells 37 (cSpan (oldS r 0))), (352, .cells 37 (cSpan (mixesS r)))] 376) (by kernel_rfl) ⟨tv, ⟨⟨rfl, tv⟩, (t27 (r)), (o4 hp), tv, (fun i5 => tv)⟩, tv, tv, tv, tv, tv, tv, tv⟩ ?_
 refine swp_seq ?_
 refine swp_region T0_ok mixed (cs := [(1, CallSpec.eq (s31 r 2 1) [true, true, true])]) (kt := [3, 4, 5, 6, 7, 8, 9, 10, 11, 12, 13, 14]) (kh := [112, 288, 352]) (q := True /\ ((AV.agg (cRun r) = AV.agg (cRun r) /\ iv 2 = iv 2 /\ iv 1 = iv 1 /\ True) /\ Triple Try.prog 31 (s31 r 2 1) /\ fits r /\ True /\ ∀ (i6 : Env), True) /\ True /\ True /\ True /\ True /\ True /\ True) (st' := ASt.mk [(3, .ptr 112 []), (4, iv (openE q (whenIs q 1 0))), (5, aInts (whereS q 1)), (6, iv (openE q (isFound q 1))), (7, iv (fewP q)), (8, iv (openE q true)), (9, .ptr 288 []), (10, iv (openE r (isPlate r 0))), (11, .ptr 352 []), (12, iv (openE r true)), (13, iv (readS r 2 1)), (14, iv (openE r (readIs r 2 1)))] [(112, .cells 37 (cSpan (whenS q 1 0))), (288, .cells 37 (cSpan (oldS r 0))), (352, .cells 37 (cSpan (mixesS r)))] 432) (by kernel_rfl) ⟨tv, ⟨⟨rfl, rfl, rfl, tv⟩, (t31 (r) (2) (1)), (o5 hp), tv, (fun i6 => tv)⟩, tv, tv, tv, tv, tv, tv⟩ ?_
 refine swp_seq ?_
 refine swp_region T0_ok mixed (cs := [(24, CallSpec.eq (s29 7 9) [true, true]), (30, CallSpec.eq (c19 r q) [false, false]), (38, CallSpec.eq (s29 32 57) [true, true]), (43, CallSpec.eq (s29 3 57) [true, true])]) (kt := [0]) (kh := []) (q := True /\ True /\ True /\ (decide (openE q (whenIs q 1 0) = 0) = true -> (True /\ True) /\ True) /\ (decide (openE q (whenIs q 1 0) = 0) = true -> ((decide (openE q (whenIs q 1 0) = 0) = true -> decide (openE q (whenIs q 1 0) = 0) = true) /\ True /\ True) /\ True) /\ ((decide (openE q (whenIs q 1 0) = 0) = true -> decide (openE q (whenIs q 1 0) = 0) = true) /\ (decide (openE q (whenIs q 1 0) = 0) = false -> True)) /\ True /\ ((bif decide (openE q (whenIs q 1 0) = 0) then decide (openE q (isFound q 1) = 0) else false) = true -> (True /\ True) /\ True) /\ ((bif decide (openE q (whenIs q 1 0) = 0) then decide (openE q (isFound q 1) = 0) else false) = true -> (((bif decide (openE q (whenIs q 1 0) = 0) then decide (openE q (isFound q 1) = 0) else false) = true -> (bif decide (openE q (whenIs q 1 0) = 0) then decide (openE q (isFound q 1) = 0) else false) = true) /\ True /\ True) /\ True) /\ (((bif decide (openE q (whenIs q 1 0) = 0) then decide (openE q (isFound q 1) = 0) else false) = true -> (bif decide (openE q (whenIs q 1 0) = 0) then decide (openE q (isFound q 1) = 0) else false) = true) /\ ((bif decide (openE q (whenIs q 1 0) = 0) then decide (openE q (isFound q 1) = 0) else false) = false -> True)) /\ True /\ ((bif bif decide (openE q (whenIs q 1 0) = 0) then decide (openE q (isFound q 1) = 0) else false then decide (openE q true = 0) else false) = true -> (True /\ True) /\ True) /\ ((bif bif decide (openE q (whenIs q 1 0) = 0) then decide (openE q (isFound q 1) = 0) else false then decide (openE q true = 0) else false) = true -> (((bif bif decide (openE q (whenIs q 1 0) = 0) then decide (openE q (isFound q 1) = 0) else false then decide (openE q true = 0) else false) = true -> (bif bif decide (openE q (whenIs q 1 0) = 0) then decide (openE q (isFound q 1) = 0) else false then decide (openE q true = 0) else false) = true) /\ True /\ True) /\ True) /\ (((bif bif decide (openE q (whenIs q 1 0) = 0) then decide (openE q (isFound q 1) = 0) else false then decide (openE q true = 0) else false) = true -> (bif bif decide (openE q (whenIs q 1 0) = 0) then decide (openE q (isFound q 1) = 0) else false then decide (openE q true = 0) else false) = true) /\ ((bif bif decide (openE q (whenIs q 1 0) = 0) then decide (openE q (isFound q 1) = 0) else false then decide (openE q true = 0) else false) = false -> True)) /\ True /\ ((bif bif bif decide (openE q (whenIs q 1 0) = 0) then decide (openE q (isFound q 1) = 0) else false then decide (openE q true = 0) else false then decide (openE r (isPlate r 0) = 0) else false) = true -> (True /\ True) /\ True) /\ ((bif bif bif decide (openE q (whenIs q 1 0) = 0) then decide (openE q (isFound q 1) = 0) else false then decide (openE q true = 0) else false then decide (openE r (isPlate r 0) = 0) else false) = true -> (((bif bif bif decide (openE q (whenIs q 1 0) = 0) then decide (openE q (isFound q 1) = 0) else false then decide (openE q true = 0) else false then decide (openE r (isPlate r 0) = 0) else false) = true -> (bif bif bif decide (openE q (whenIs q 1 0) = 0) then decide (openE q (isFound q 1) = 0) else false then decide (openE q true = 0) else false then decide (openE r (isPlate r 0) = 0) else false) = true) /\ True /\ True) /\ True) /\ (((bif bif bif decide (openE q (whenIs q 1 0) = 0) then decide (openE q (isFound q 1) = 0) else false then decide (openE q true = 0) else false then decide (openE r (isPlate r 0) = 0) else false) = true -> (bif bif bif decide (openE q (whenIs q 1 0) = 0) then decide (openE q (isFound q 1) = 0) else false then decide (openE q true = 0) else false then decide (openE r (isPlate r 0) = 0) else false) = true) /\ ((bif bif bif decide (openE q (whenIs q 1 0) = 0) then decide (openE q (isFound q 1) = 0) else false then decide (openE q true = 0) else false then decide (openE r (isPlate r 0) = 0) else false) = false -> True)) /\ True /\ ((bif bif bif bif decide (openE q (whenIs q 1 0) = 0) then decide (openE q (isFound q 1) = 0) else false then decide (openE q true = 0) else false then decide (openE r (isPlate r 0) = 0) else false then decide (openE r true = 0) else false) = true -> (True /\ True) /\ True) /\ ((bif bif bif bif decide (openE q (whenIs q 1 0) = 0) then decide (openE q (isFound q 1) = 0) else false then decide (openE q true = 0) else false then decide (openE r (isPlate r 0) = 0) else false then decide (openE r true = 0) else false) = true -> (((bif bif bif bif decide (openE q (whenIs q 1 0) = 0) then decide (openE q (isFound q 1) = 0) else false then decide (openE q true = 0) else false then decide (openE r (isPlate r 0) = 0) else false then decide (openE r true = 0) else false) = true -> (bif bif bif bif decide (openE q (whenIs q 1 0) = 0) then decide (openE q (isFound q 1) = 0) else false then decide (openE q true = 0) else false then decide (openE r (isPlate r 0) = 0) else false then decide (openE r true = 0) else false) = true) /\ True /\ True) /\ True) /\ (((bif bif bif bif decide (openE q (whenIs q 1 0) = 0) then decide (openE q (isFound q 1) = 0) else false then decide (openE q true = 0) else false then decide (openE r (isPlate r 0) = 0) else false then decide (openE r true = 0) else false) = true -> (bif bif bif bif decide (openE q (whenIs q 1 0) = 0) then decide (openE q (isFound q 1) = 0) else false then decide (openE q true = 0) else false then decide (openE r (isPlate r 0) = 0) else false then decide (openE r true = 0) else false) = true) /\ ((bif bif bif bif decide (openE q (whenIs q 1 0) = 0) then decide (openE q (isFound q 1) = 0) else false then decide (openE q true = 0) else false then decide (openE r (isPlate r 0) = 0) else false then decide (openE r true = 0) else false) = false -> True)) /\ True /\ ((bif bif bif bif bif decide (openE q (whenIs q 1 0) = 0) then decide (openE q (isFound q 1) = 0) else false then decide (openE q true = 0) else false then decide (openE r (isPlate r 0) = 0) else false then decide (openE r true = 0) else false then decide (openE r (readIs r 2 1) = 0) else false) = true -> (True /\ True) /\ True) /\ ((bif bif bif bif bif decide (openE q (whenIs q 1 0) = 0) then decide (openE q (isFound q 1) = 0) else false then decide (openE q true = 0) else false then decide (openE r (isPlate r 0) = 0) else false then decide (openE r true = 0) else false then decide (openE r (readIs r 2 1) = 0) else false) = true -> (True /\ True /\ True /\ True) /\ (iv 7 = iv 7 /\ iv 9 = iv 9 /\ True) /\ Triple Try.prog 29 (s29 7 9) /\ True /\ True /\ ∀ (i34 : Env), True) /\ ((bif bif bif bif bif decide (openE q (whenIs q 1 0) = 0) then decide (openE q (isFound q 1) = 0) else false then decide (openE q true = 0) else false then decide (openE r (isPlate r 0) = 0) else false then decide (openE r true = 0) else false then decide (openE r (readIs r 2 1) = 0) else false) = true -> (((bif bif bif bif bif decide (openE q (whenIs q 1 0) = 0) then decide (openE q (isFound q 1) = 0) else false then decide (openE q true = 0) else false then decide (openE r (isPlate r 0) = 0) else false then decide (openE r true = 0) else false then decide (openE r (readIs r 2 1) = 0) else false) = true -> (bif bif bif bif bif decide (openE q (whenIs q 1 0) = 0) then decide (openE q (isFound q 1) = 0) else false then decide (openE q true = 0) else false then decide (openE r (isPlate r 0) = 0) else false then decide (openE r true = 0) else false then decide (openE r (readIs r 2 1) = 0) else false) = true) /\ ((bif bif bif bif bif decide (openE q (whenIs q 1 0) = 0) then decide (openE q (isFound q 1) = 0) else false then decide (openE q true = 0) else false then decide (openE r (isPlate r 0) = 0) else false then decide (openE r true = 0) else false then decide (openE r (readIs r 2 1) = 0) else false) = true -> (bif bif bif bif bif decide (openE q (whenIs q 1 0) = 0) then decide (openE q (isFound q 1) = 0) else false then decide (openE q true = 0) else false then decide (openE r (isPlate r 0) = 0) else false then decide (openE r true = 0) else false then decide (openE r (readIs r 2 1) = 0) else false) = true) /\ True) /\ True) /\ (((bif bif bif bif bif decide (openE q (whenIs q 1 0) = 0) then decide (openE q (isFound q 1) = 0) else false then decide (openE q true = 0) else false then decide (openE r (isPlate r 0) = 0) else false then decide (openE r true = 0) else false then decide (openE r (readIs r 2 1) = 0) else false) = true -> (bif bif bif bif bif decide (openE q (whenIs q 1 0) = 0) then decide (openE q (isFound q 1) = 0) else false then decide (openE q true = 0) else false then decide (openE r (isPlate r 0) = 0) else false then decide (openE r true = 0) else false then decide (openE r (readIs r 2 1) = 0) else false) = true) /\ ((bif bif bif bif bif decide (openE q (whenIs q 1 0) = 0) then decide (openE q (isFound q 1) = 0) else false then decide (openE q true = 0) else false then decide (openE r (isPlate r 0) = 0) else false then decide (openE r true = 0) else false then decide (openE r (readIs r 2 1) = 0) else false) = false -> True)) /\ True /\ ((bif bif bif bif bif bif decide (openE q (whenIs q 1 0) = 0) then decide (openE q (isFound q 1) = 0) else false then decide (openE q true = 0) else false then decide (openE r (isPlate r 0) = 0) else false then decide (openE r true = 0) else false then decide (openE r (readIs r 2 1) = 0) else false then decide ((whenS q 1 0).lo = 7) && (decide ((whenS q 1 0).hi = 9) && true) else false) = true -> (True /\ True) /\ True) /\ ((bif bif bif bif bif bif decide (openE q (whenIs q 1 0) = 0) then decide (openE q (isFound q 1) = 0) else false then decide (openE q true = 0) else false then decide (openE r (isPlate r 0) = 0) else false then decide (openE r true = 0) else false then decide (openE r (readIs r 2 1) = 0) else false then decide ((whenS q 1 0).lo = 7) && (decide ((whenS q 1 0).hi = 9) && true) else false) = true -> (True /\ True) /\ True) /\ ((bif bif bif bif bif bif decide (openE q (whenIs q 1 0) = 0) then decide (openE q (isFound q 1) = 0) else false then decide (openE q true = 0) else false then decide (openE r (isPlate r 0) = 0) else false then decide (openE r true = 0) else false then decide (openE r (readIs r 2 1) = 0) else false then decide ((whenS q 1 0).lo = 7) && (decide ((whenS q 1 0).hi = 9) && true) else false) = true -> (True /\ ((bif bif bif bif bif bif decide (openE q (whenIs q 1 0) = 0) then decide (openE q (isFound q 1) = 0) else false then decide (openE q true = 0) else false then decide (openE r (isPlate r 0) = 0) else false then decide (openE r true = 0) else false then decide (openE r (readIs r 2 1) = 0) else false then decide ((whenS q 1 0).lo = 7) && (decide ((whenS q 1 0).hi = 9) && true) else false) = true -> (bif bif bif bif bif bif decide (openE q (whenIs q 1 0) = 0) then decide (openE q (isFound q 1) = 0) else false then decide (openE q true = 0) else false then decide (openE r (isPlate r 0) = 0) else false then decide (openE r true = 0) else false then decide (openE r (readIs r 2 1) = 0) else false then decide ((whenS q 1 0).lo = 7) && (decide ((whenS q 1 0).hi = 9) && true) else false) = true) /\ ((bif bif bif bif bif bif decide (openE q (whenIs q 1 0) = 0) then decide (openE q (isFound q 1) = 0) else false then decide (openE q true = 0) else false then decide (openE r (isPlate r 0) = 0) else false then decide (openE r true = 0) else false then decide (openE r (readIs r 2 1) = 0) else false then decide ((whenS q 1 0).lo = 7) && (decide ((whenS q 1 0).hi = 9) && true) else false) = true -> (bif bif bif bif bif bif decide (openE q (whenIs q 1 0) = 0) then decide (openE q (isFound q 1) = 0) else false then decide (openE q true = 0) else false then decide (openE r (isPlate r 0) = 0) else false then decide (openE r true = 0) else false then decide (openE r (readIs r 2 1) = 0) else false then decide ((whenS q 1 0).lo = 7) && (decide ((whenS q 1 0).hi = 9) && true) else false) = true) /\ True) /\ ((1 = 1 /\ (whereS q 1).length = (whereS q 1).length /\ ∀ (i45 : Nat), i45 < (whereS q 1).length -> [iv ((whereS q 1).getD i45 0)] = [iv ((whereS q 1).getD i45 0)]) /\ (1 = 1 /\ 1 = 1 /\ ∀ (i47 : Nat), i47 < List.length [1] -> List.getD [[iv 1]] i47 (TI.za ti3) = [iv (List.getD [1] i47 0)]) /\ True) /\ Triple Try.prog 37 (c19 r q) /\ (whereS q 1).length <= 1125899906842624 /\ True /\ ∀ (i49 : Env), True) /\ (((bif bif bif bif bif bif decide (openE q (whenIs q 1 0) = 0) then decide (openE q (isFound q 1) = 0) else false then decide (openE q true = 0) else false then decide (openE r (isPlate r 0) = 0) else false then decide (openE r true = 0) else false then decide (openE r (readIs r 2 1) = 0) else false then decide ((whenS q 1 0).lo = 7) && (decide ((whenS q 1 0).hi = 9) && true) else false) = true -> (bif bif bif bif bif bif decide (openE q (whenIs q 1 0) = 0) then decide (openE q (isFound q 1) = 0) else false then decide (openE q true = 0) else false then decide (openE r (isPlate r 0) = 0) else false then decide (openE r true = 0) else false then decide (openE r (readIs r 2 1) = 0) else false then decide ((whenS q 1 0).lo = 7) && (decide ((whenS q 1 0).hi = 9) && true) else false) = true) /\ ((bif bif bif bif bif bif decide (openE q (whenIs q 1 0) = 0) then decide (openE q (isFound q 1) = 0) else false then decide (openE q true = 0) else false then decide (openE r (isPlate r 0) = 0) else false then decide (openE r true = 0) else false then decide (openE r (readIs r 2 1) = 0) else false then decide ((whenS q 1 0).lo = 7) && (decide ((whenS q 1 0).hi = 9) && true) else false) = false -> True)) /\ True /\ ((bif bif bif bif bif bif bif decide (openE q (whenIs q 1 0) = 0) then decide (openE q (isFound q 1) = 0) else false then decide (openE q true = 0) else false then decide (openE r (isPlate r 0) = 0) else false then decide (openE r true = 0) else false then decide (openE r (readIs r 2 1) = 0) else false then decide ((whenS q 1 0).lo = 7) && (decide ((whenS q 1 0).hi = 9) && true) else false then sameInts (whereS q 1) [1] else false) = true -> (True /\ True) /\ True) /\ ((bif bif bif bif bif bif bif decide (openE q (whenIs q 1 0) = 0) then decide (openE q (isFound q 1) = 0) else false then decide (openE q true = 0) else false then decide (openE r (isPlate r 0) = 0) else false then decide (openE r true = 0) else false then decide (openE r (readIs r 2 1) = 0) else false then decide ((whenS q 1 0).lo = 7) && (decide ((whenS q 1 0).hi = 9) && true) else false then sameInts (whereS q 1) [1] else false) = true -> (((bif bif bif bif bif bif bif decide (openE q (whenIs q 1 0) = 0) then decide (openE q (isFound q 1) = 0) else false then decide (openE q true = 0) else false then decide (openE r (isPlate r 0) = 0) else false then decide (openE r true = 0) else false then decide (openE r (readIs r 2 1) = 0) else false then decide ((whenS q 1 0).lo = 7) && (decide ((whenS q 1 0).hi = 9) && true) else false then sameInts (whereS q 1) [1] else false) = true -> (bif bif bif bif bif bif bif decide (openE q (whenIs q 1 0) = 0) then decide (openE q (isFound q 1) = 0) else false then decide (openE q true = 0) else false then decide (openE r (isPlate r 0) = 0) else false then decide (openE r true = 0) else false then decide (openE r (readIs r 2 1) = 0) else false then decide ((whenS q 1 0).lo = 7) && (decide ((whenS q 1 0).hi = 9) && true) else false then sameInts (whereS q 1) [1] else false) = true) /\ True /\ True) /\ True) /\ (((bif bif bif bif bif bif bif decide (openE q (whenIs q 1 0) = 0) then decide (openE q (isFound q 1) = 0) else false then decide (openE q true = 0) else false then decide (openE r (isPlate r 0) = 0) else false then decide (openE r true = 0) else false then decide (openE r (readIs r 2 1) = 0) else false then decide ((whenS q 1 0).lo = 7) && (decide ((whenS q 1 0).hi = 9) && true) else false then sameInts (whereS q 1) [1] else false) = true -> (bif bif bif bif bif bif bif decide (openE q (whenIs q 1 0) = 0) then decide (openE q (isFound q 1) = 0) else false then decide (openE q true = 0) else false then decide (openE r (isPlate r 0) = 0) else false then decide (openE r true = 0) else false then decide (openE r (readIs r 2 1) = 0) else false then decide ((whenS q 1 0).lo = 7) && (decide ((whenS q 1 0).hi = 9) && true) else false then sameInts (whereS q 1) [1] else false) = true) /\ ((bif bif bif bif bif bif bif decide (openE q (whenIs q 1 0) = 0) then decide (openE q (isFound q 1) = 0) else false then decide (openE q true = 0) else false then decide (openE r (isPlate r 0) = 0) else false then decide (openE r true = 0) else false then decide (openE r (readIs r 2 1) = 0) else false then decide ((whenS q 1 0).lo = 7) && (decide ((whenS q 1 0).hi = 9) && true) else false then sameInts (whereS q 1) [1] else false) = false -> True)) /\ True /\ ((bif bif bif bif bif bif bif bif decide (openE q (whenIs q 1 0) = 0) then decide (openE q (isFound q 1) = 0) else false then decide (openE q true = 0) else false then decide (openE r (isPlate r 0) = 0) else false then decide (openE r true = 0) else false then decide (openE r (readIs r 2 1) = 0) else false then decide ((whenS q 1 0).lo = 7) && (decide ((whenS q 1 0).hi = 9) && true) else false then sameInts (whereS q 1) [1] else false then decide (fewP q = 2) else false) = true -> (True /\ True) /\ True) /\ ((bif bif bif bif bif bif bif bif decide (openE q (whenIs q 1 0) = 0) then decide (openE q (isFound q 1) = 0) else false then decide (openE q true = 0) else false then decide (openE r (isPlate r 0) = 0) else false then decide (openE r true = 0) else false then decide (openE r (readIs r 2 1) = 0) else false then decide ((whenS q 1 0).lo = 7) && (decide ((whenS q 1 0).hi = 9) && true) else false then sameInts (whereS q 1) [1] else false then decide (fewP q = 2) else false) = true -> (True /\ True /\ True /\ True) /\ (iv 32 = iv 32 /\ iv 57 = iv 57 /\ True) /\ Triple Try.prog 29 (s29 32 57) /\ True /\ True /\ ∀ (i59 : Env), True) /\ ((bif bif bif bif bif bif bif bif decide (openE q (whenIs q 1 0) = 0) then decide (openE q (isFound q 1) = 0) else false then decide (openE q true = 0) else false then decide (openE r (isPlate r 0) = 0) else false then decide (openE r true = 0) else false then decide (openE r (readIs r 2 1) = 0) else false then decide ((whenS q 1 0).lo = 7) && (decide ((whenS q 1 0).hi = 9) && true) else false then sameInts (whereS q 1) [1] else false then decide (fewP q = 2) else false) = true -> (((bif bif bif bif bif bif bif bif decide (openE q (whenIs q 1 0) = 0) then decide (openE q (isFound q 1) = 0) else false then decide (openE q true = 0) else false then decide (openE r (isPlate r 0) = 0) else false then decide (openE r true = 0) else false then decide (openE r (readIs r 2 1) = 0) else false then decide ((whenS q 1 0).lo = 7) && (decide ((whenS q 1 0).hi = 9) && true) else false then sameInts (whereS q 1) [1] else false then decide (fewP q = 2) else false) = true -> (bif bif bif bif bif bif bif bif decide (openE q (whenIs q 1 0) = 0) then decide (openE q (isFound q 1) = 0) else false then decide (openE q true = 0) else false then decide (openE r (isPlate r 0) = 0) else false then decide (openE r true = 0) else false then decide (openE r (readIs r 2 1) = 0) else false then decide ((whenS q 1 0).lo = 7) && (decide ((whenS q 1 0).hi = 9) && true) else false then sameInts (whereS q 1) [1] else false then decide (fewP q = 2) else false) = true) /\ ((bif bif bif bif bif bif bif bif decide (openE q (whenIs q 1 0) = 0) then decide (openE q (isFound q 1) = 0) else false then decide (openE q true = 0) else false then decide (openE r (isPlate r 0) = 0) else false then decide (openE r true = 0) else false then decide (openE r (readIs r 2 1) = 0) else false then decide ((whenS q 1 0).lo = 7) && (decide ((whenS q 1 0).hi = 9) && true) else false then sameInts (whereS q 1) [1] else false then decide (fewP q = 2) else false) = true -> (bif bif bif bif bif bif bif bif decide (openE q (whenIs q 1 0) = 0) then decide (openE q (isFound q 1) = 0) else false then decide (openE q true = 0) else false then decide (openE r (isPlate r 0) = 0) else false then decide (openE r true = 0) else false then decide (openE r (readIs r 2 1) = 0) else false then decide ((whenS q 1 0).lo = 7) && (decide ((whenS q 1 0).hi = 9) && true) else false then sameInts (whereS q 1) [1] else false then decide (fewP q = 2) else false) = true) /\ True) /\ True) /\ (((bif bif bif bif bif bif bif bif decide (openE q (whenIs q 1 0) = 0) then decide (openE q (isFound q 1) = 0) else false then decide (openE q true = 0) else false then decide (openE r (isPlate r 0) = 0) else false then decide (openE r true = 0) else false then decide (openE r (readIs r 2 1) = 0) else false then decide ((whenS q 1 0).lo = 7) && (decide ((whenS q 1 0).hi = 9) && true) else false then sameInts (whereS q 1) [1] else false then decide (fewP q = 2) else false) = true -> (bif bif bif bif bif bif bif bif decide (openE q (whenIs q 1 0) = 0) then decide (openE q (isFound q 1) = 0) else false then decide (openE q true = 0) else false then decide (openE r (isPlate r 0) = 0) else false then decide (openE r true = 0) else false then decide (openE r (readIs r 2 1) = 0) else false then decide ((whenS q 1 0).lo = 7) && (decide ((whenS q 1 0).hi = 9) && true) else false then sameInts (whereS q 1) [1] else false then decide (fewP q = 2) else false) = true) /\ ((bif bif bif bif bif bif bif bif decide (openE q (whenIs q 1 0) = 0) then decide (openE q (isFound q 1) = 0) else false then decide (openE q true = 0) else false then decide (openE r (isPlate r 0) = 0) else false then decide (openE r true = 0) else false then decide (openE r (readIs r 2 1) = 0) else false then decide ((whenS q 1 0).lo = 7) && (decide ((whenS q 1 0).hi = 9) && true) else false then sameInts (whereS q 1) [1] else false then decide (fewP q = 2) else false) = false -> True)) /\ True /\ ((bif bif bif bif bif bif bif bif bif decide (openE q (whenIs q 1 0) = 0) then decide (openE q (isFound q 1) = 0) else false then decide (openE q true = 0) else false then decide (openE r (isPlate r 0) = 0) else false then decide (openE r true = 0) else false then decide (openE r (readIs r 2 1) = 0) else false then decide ((whenS q 1 0).lo = 7) && (decide ((whenS q 1 0).hi = 9) && true) else false then sameInts (whereS q 1) [1] else false then decide (fewP q = 2) else false then decide ((oldS r 0).lo = 32) && (decide ((oldS r 0).hi = 57) && true) else false) = true -> (True /\ True) /\ True) /\ ((bif bif bif bif bif bif bif bif bif decide (openE q (whenIs q 1 0) = 0) then decide (openE q (isFound q 1) = 0) else false then decide (openE q true = 0) else false then decide (openE r (isPlate r 0) = 0) else false then decide (openE r true = 0) else false then decide (openE r (readIs r 2 1) = 0) else false then decide ((whenS q 1 0).lo = 7) && (decide ((whenS q 1 0).hi = 9) && true) else false then sameInts (whereS q 1) [1] else false then decide (fewP q = 2) else false then decide ((oldS r 0).lo = 32) && (decide ((oldS r 0).hi = 57) && true) else false) = true -> (True /\ True /\ True /\ True) /\ (iv 3 = iv 3 /\ iv 57 = iv 57 /\ True) /\ Triple Try.prog 29 (s29 3 57) /\ True /\ True /\ ∀ (i67 : Env), True) /\ ((bif bif bif bif bif bif bif bif bif decide (openE q (whenIs q 1 0) = 0) then decide (openE q (isFound q 1) = 0) else false then decide (openE q true = 0) else false then decide (openE r (isPlate r 0) = 0) else false then decide (openE r true = 0) else false then decide (openE r (readIs r 2 1) = 0) else false then decide ((whenS q 1 0).lo = 7) && (decide ((whenS q 1 0).hi = 9) && true) else false then sameInts (whereS q 1) [1] else false then decide (fewP q = 2) else false then decide ((oldS r 0).lo = 32) && (decide ((oldS r 0).hi = 57) && true) else false) = true -> (((bif bif bif bif bif bif bif bif bif decide (openE q (whenIs q 1 0) = 0) then decide (openE q (isFound q 1) = 0) else false then decide (openE q true = 0) else false then decide (openE r (isPlate r 0) = 0) else false then decide (openE r true = 0) else false then decide (openE r (readIs r 2 1) = 0) else false then decide ((whenS q 1 0).lo = 7) && (decide ((whenS q 1 0).hi = 9) && true) else false then sameInts (whereS q 1) [1] else false then decide (fewP q = 2) else false then decide ((oldS r 0).lo = 32) && (decide ((oldS r 0).hi = 57) && true) else false) = true -> (bif bif bif bif bif bif bif bif bif decide (openE q (whenIs q 1 0) = 0) then decide (openE q (isFound q 1) = 0) else false then decide (openE q true = 0) else false then decide (openE r (isPlate r 0) = 0) else false then decide (openE r true = 0) else false then decide (openE r (readIs r 2 1) = 0) else false then decide ((whenS q 1 0).lo = 7) && (decide ((whenS q 1 0).hi = 9) && true) else false then sameInts (whereS q 1) [1] else false then decide (fewP q = 2) else false then decide ((oldS r 0).lo = 32) && (decide ((oldS r 0).hi = 57) && true) else false) = true) /\ ((bif bif bif bif bif bif bif bif bif decide (openE q (whenIs q 1 0) = 0) then decide (openE q (isFound q 1) = 0) else false then decide (openE q true = 0) else false then decide (openE r (isPlate r 0) = 0) else false then decide (openE r true = 0) else false then decide (openE r (readIs r 2 1) = 0) else false then decide ((whenS q 1 0).lo = 7) && (decide ((whenS q 1 0).hi = 9) && true) else false then sameInts (whereS q 1) [1] else false then decide (fewP q = 2) else false then decide ((oldS r 0).lo = 32) && (decide ((oldS r 0).hi = 57) && true) else false) = true -> (bif bif bif bif bif bif bif bif bif decide (openE q (whenIs q 1 0) = 0) then decide (openE q (isFound q 1) = 0) else false then decide (openE q true = 0) else false then decide (openE r (isPlate r 0) = 0) else false then decide (openE r true = 0) else false then decide (openE r (readIs r 2 1) = 0) else false then decide ((whenS q 1 0).lo = 7) && (decide ((whenS q 1 0).hi = 9) && true) else false then sameInts (whereS q 1) [1] else false then decide (fewP q = 2) else false then decide ((oldS r 0).lo = 32) && (decide ((oldS r 0).hi = 57) && true) else false) = true) /\ True) /\ True) /\ (((bif bif bif bif bif bif bif bif bif decide (openE q (whenIs q 1 0) = 0) then decide (openE q (isFound q 1) = 0) else false then decide (openE q true = 0) else false then decide (openE r (isPlate r 0) = 0) else false then decide (openE r true = 0) else false then decide (openE r (readIs r 2 1) = 0) else false then decide ((whenS q 1 0).lo = 7) && (decide ((whenS q 1 0).hi = 9) && true) else false then sameInts (whereS q 1) [1] else false then decide (fewP q = 2) else false then decide ((oldS r 0).lo = 32) && (decide ((oldS r 0).hi = 57) && true) else false) = true -> (bif bif bif bif bif bif bif bif bif decide (openE q (whenIs q 1 0) = 0) then decide (openE q (isFound q 1) = 0) else false then decide (openE q true = 0) else false then decide (openE r (isPlate r 0) = 0) else false then decide (openE r true = 0) else false then decide (openE r (readIs r 2 1) = 0) else false then decide ((whenS q 1 0).lo = 7) && (decide ((whenS q 1 0).hi = 9) && true) else false then sameInts (whereS q 1) [1] else false then decide (fewP q = 2) else false then decide ((oldS r 0).lo = 32) && (decide ((oldS r 0).hi = 57) && true) else false) = true) /\ ((bif bif bif bif bif bif bif bif bif decide (openE q (whenIs q 1 0) = 0) then decide (openE q (isFound q 1) = 0) else false then decide (openE q true = 0) else false then decide (openE r (isPlate r 0) = 0) else false then decide (openE r true = 0) else false then decide (openE r (readIs r 2 1) = 0) else false then decide ((whenS q 1 0).lo = 7) && (decide ((whenS q 1 0).hi = 9) && true) else false then sameInts (whereS q 1) [1] else false then decide (fewP q = 2) else false then decide ((oldS r 0).lo = 32) && (decide ((oldS r 0).hi = 57) && true) else false) = false -> True)) /\ True /\ ((bif bif bif bif bif bif bif bif bif bif decide (openE q (whenIs q 1 0) = 0) then decide (openE q (isFound q 1) = 0) else false then decide (openE q true = 0) else false then decide (openE r (isPlate r 0) = 0) else false then decide (openE r true = 0) else false then decide (openE r (readIs r 2 1) = 0) else false then decide ((whenS q 1 0).lo = 7) && (decide ((whenS q 1 0).hi = 9) && true) else false then sameInts (whereS q 1) [1] else false then decide (fewP q = 2) else false then decide ((oldS r 0).lo = 32) && (decide ((oldS r 0).hi = 57) && true) else false then decide ((mixesS r).lo = 3) && (decide ((mixesS r).hi = 57) && true) else false) = true -> (True /\ True) /\ True) /\ ((bif bif bif bif bif bif bif bif bif bif decide (openE q (whenIs q 1 0) = 0) then decide (openE q (isFound q 1) = 0) else false then decide (openE q true = 0) else false then decide (openE r (isPlate r 0) = 0) else false then decide (openE r true = 0) else false then decide (openE r (readIs r 2 1) = 0) else false then decide ((whenS q 1 0).lo = 7) && (decide ((whenS q 1 0).hi = 9) && true) else false then sameInts (whereS q 1) [1] else false then decide (fewP q = 2) else false then decide ((oldS r 0).lo = 32) && (decide ((oldS r 0).hi = 57) && true) else false then decide ((mixesS r).lo = 3) && (decide ((mixesS r).hi = 57) && true) else false) = true -> (((bif bif bif bif bif bif bif bif bif bif decide (openE q (whenIs q 1 0) = 0) then decide (openE q (isFound q 1) = 0) else false then decide (openE q true = 0) else false then decide (openE r (isPlate r 0) = 0) else false then decide (openE r true = 0) else false then decide (openE r (readIs r 2 1) = 0) else false then decide ((whenS q 1 0).lo = 7) && (decide ((whenS q 1 0).hi = 9) && true) else false then sameInts (whereS q 1) [1] else false then decide (fewP q = 2) else false then decide ((oldS r 0).lo = 32) && (decide ((oldS r 0).hi = 57) && true) else false then decide ((mixesS r).lo = 3) && (decide ((mixesS r).hi = 57) && true) else false) = true -> (bif bif bif bif bif bif bif bif bif bif decide (openE q (whenIs q 1 0) = 0) then decide (openE q (isFound q 1) = 0) else false then decide (openE q true = 0) else false then decide (openE r (isPlate r 0) = 0) else false then decide (openE r true = 0) else false then decide (openE r (readIs r 2 1) = 0) else false then decide ((whenS q 1 0).lo = 7) && (decide ((whenS q 1 0).hi = 9) && true) else false then sameInts (whereS q 1) [1] else false then decide (fewP q = 2) else false then decide ((oldS r 0).lo = 32) && (decide ((oldS r 0).hi = 57) && true) else false then decide ((mixesS r).lo = 3) && (decide ((mixesS r).hi = 57) && true) else false) = true) /\ True /\ True) /\ True) /\ (((bif bif bif bif bif bif bif bif bif bif decide (openE q (whenIs q 1 0) = 0) then decide (openE q (isFound q 1) = 0) else false then decide (openE q true = 0) else false then decide (openE r (isPlate r 0) = 0) else false then decide (openE r true = 0) else false then decide (openE r (readIs r 2 1) = 0) else false then decide ((whenS q 1 0).lo = 7) && (decide ((whenS q 1 0).hi = 9) && true) else false then sameInts (whereS q 1) [1] else false then decide (fewP q = 2) else false then decide ((oldS r 0).lo = 32) && (decide ((oldS r 0).hi = 57) && true) else false then decide ((mixesS r).lo = 3) && (decide ((mixesS r).hi = 57) && true) else false) = true -> (bif bif bif bif bif bif bif bif bif bif decide (openE q (whenIs q 1 0) = 0) then decide (openE q (isFound q 1) = 0) else false then decide (openE q true = 0) else false then decide (openE r (isPlate r 0) = 0) else false then decide (openE r true = 0) else false then decide (openE r (readIs r 2 1) = 0) else false then decide ((whenS q 1 0).lo = 7) && (decide ((whenS q 1 0).hi = 9) && true) else false then sameInts (whereS q 1) [1] else false then decide (fewP q = 2) else false then decide ((oldS r 0).lo = 32) && (decide ((oldS r 0).hi = 57) && true) else false then decide ((mixesS r).lo = 3) && (decide ((mixesS r).hi = 57) && true) else false) = true) /\ ((bif bif bif bif bif bif bif bif bif bif decide (openE q (whenIs q 1 0) = 0) then decide (openE q (isFound q 1) = 0) else false then decide (openE q true = 0) else false then decide (openE r (isPlate r 0) = 0) else false then decide (openE r true = 0) else false then decide (openE r (readIs r 2 1) = 0) else false then decide ((whenS q 1 0).lo = 7) && (decide ((whenS q 1 0).hi = 9) && true) else false then sameInts (whereS q 1) [1] else false then decide (fewP q = 2) else false then decide ((oldS r 0).lo = 32) && (decide ((oldS r 0).hi = 57) && true) else false then decide ((mixesS r).lo = 3) && (decide ((mixesS r).hi = 57) && true) else false) = false -> True)) /\ True /\ True) (st' := ASt.mk [(0, bv (bif bif bif bif bif bif bif bif bif bif bif decide (openE q (whenIs q 1 0) = 0) then decide (openE q (isFound q 1) = 0) else false then decide (openE q true = 0) else false then decide (openE r (isPlate r 0) = 0) else false then decide (openE r true = 0) else false then decide (openE r (readIs r 2 1) = 0) else false then decide ((whenS q 1 0).lo = 7) && (decide ((whenS q 1 0).hi = 9) && true) else false then sameInts (whereS q 1) [1] else false then decide (fewP q = 2) else false then decide ((oldS r 0).lo = 32) && (decide ((oldS r 0).hi = 57) && true) else false then decide ((mixesS r).lo = 3) && (decide ((mixesS r).hi = 57) && true) else false then decide (readS r 2 1 = 3) else false))] [] 840) (by kernel_rfl) ⟨tv, tv, tv, (fun h7 => ⟨⟨tv, tv⟩, tv⟩), (fun h8 => ⟨⟨(fun h9 => h8), tv, tv⟩, tv⟩), ⟨(fun h10 => h10), (fun h11 => tv)⟩, tv, (fun h12 => ⟨⟨tv, tv⟩, tv⟩), (fun h13 => ⟨⟨(fun h14 => h13), tv, tv⟩, tv⟩), ⟨(fun h15 => h15), (fun h16 => tv)⟩, tv, (fun h17 => ⟨⟨tv, tv⟩, tv⟩), (fun h18 => ⟨⟨(fun h19 => h18), tv, tv⟩, tv⟩), ⟨(fun h20 => h20), (fun h21 => tv)⟩, tv, (fun h22 => ⟨⟨tv, tv⟩, tv⟩), (fun h23 => ⟨⟨(fun h24 => h23), tv, tv⟩, tv⟩), ⟨(fun h25 => h25), (fun h26 => tv)⟩, tv, (fun h27 => ⟨⟨tv, tv⟩, tv⟩), (fun h28 => ⟨⟨(fun h29 => h28), tv, tv⟩, tv⟩), ⟨(fun h30 => h30), (fun h31 => tv)⟩, tv, (fun h32 => ⟨⟨tv, tv⟩, tv⟩), (fun h33 => ⟨⟨tv, tv, tv, tv⟩, ⟨rfl, rfl, tv⟩, (t29 (7) (9)), tv, tv, (fun i34 => tv)⟩), (fun h35 => ⟨⟨(fun h36 => h35), (fun h37 => h35), tv⟩, tv⟩), ⟨(fun h38 => h38), (fun h39 => tv)⟩, tv, (fun h40 => ⟨⟨tv, tv⟩, tv⟩), (fun h41 => ⟨⟨tv, tv⟩, tv⟩), (fun h42 => ⟨⟨tv, (fun h43 => h42), (fun h44 => h42), tv⟩, ⟨⟨rfl, rfl, (fun i45 => (fun h46 => rfl))⟩, ⟨rfl, rfl, (fun i47 => (fun h48 => (o6 hp h42 i47 h48)))⟩, tv⟩, (t37 _ _), (o7 hp h42), tv, (fun i49 => tv)⟩), ⟨(fun h50 => h50), (fun h51 => tv)⟩, tv, (fun h52 => ⟨⟨tv, tv⟩, tv⟩), (fun h53 => ⟨⟨(fun h54 => h53), tv, tv⟩, tv⟩), ⟨(fun h55 => h55), (fun h56 => tv)⟩, tv, (fun h57 => ⟨⟨tv, tv⟩, tv⟩), (fun h58 => ⟨⟨tv, tv, tv, tv⟩, ⟨rfl, rfl, tv⟩, (t29 (32) (57)), tv, tv, (fun i59 => tv)⟩), (fun h60 => ⟨⟨(fun h61 => h60), (fun h62 => h60), tv⟩, tv⟩), ⟨(fun h63 => h63), (fun h64 => tv)⟩, tv, (fun h65 => ⟨⟨tv, tv⟩, tv⟩), (fun h66 => ⟨⟨tv, tv, tv, tv⟩, ⟨rfl, rfl, tv⟩, (t29 (3) (57)), tv, tv, (fun i67 => tv)⟩), (fun h68 => ⟨⟨(fun h69 => h68), (fun h70 => h68), tv⟩, tv⟩), ⟨(fun h71 => h71), (fun h72 => tv)⟩, tv, (fun h73 => ⟨⟨tv, tv⟩, tv⟩), (fun h74 => ⟨⟨(fun h75 => h74), tv, tv⟩, tv⟩), ⟨(fun h76 => h76), (fun h77 => tv)⟩, tv, tv⟩ ?_
 refine swp_ret ?_
 exact ret_q [] ((True /\ True) /\ (bv (bif bif bif bif bif bif bif bif bif bif bif decide (openE q (whenIs q 1 0) = 0) then decide (openE q (isFound q 1) = 0) else false then decide (openE q true = 0) else false then decide (openE r (isPlate r 0) = 0) else false then decide (openE r true = 0) else false then decide (openE r (readIs r 2 1) = 0) else false then decide ((whenS q 1 0).lo = 7) && (decide ((whenS q 1 0).hi = 9) && true) else false then sameInts (whereS q 1) [1] else false then decide (fewP q = 2) else false then decide ((oldS r 0).lo = 32) && (decide ((oldS r 0).hi = 57) && true) else false then decide ((mixesS r).lo = 3) && (decide ((mixesS r).hi = 57) && true) else false then decide (readS r 2 1 = 3) else false) = bv true /\ nilN = []) /\ T3) (by kernel_rfl) ⟨⟨tv, tv⟩, ⟨(congrArg bv (o8 hp)), rfl⟩, rfl, rfl, rfl⟩
theorem tw19 (r q : Run) : Triple Try.prog 19 (sw19 r q) := by
 apply w19
 case o7 => rintro ⟨rfl, rfl⟩ _; rw [x_where]; decide
 case o8 =>
  rintro ⟨rfl, rfl⟩
  obtain ⟨h1, h2, h3, h4, h5, h6⟩ := x_ok
  rw [h1, h2, h3, h4, h5, h6, x_where, x_when, x_old, x_mix, x_read, x_few]
  decide
 all_goals (rintro ⟨rfl, rfl⟩; first | exact small_fits small_exR | exact small_fits small_exQ | skip)
 all_goals (intro _ i hi; have : i = 0 := by simpa using hi)
 all_goals (subst this; rfl)
theorem t19 : Triple Try.prog 19 s19 := ⟨(tw19 exR exQ).1, fun _ => (tw19 exR exQ).2 ⟨rfl, rfl⟩⟩
end Go.Ab
namespace Go.Sh
def chFrom (r : Run) (first : List Int) : Nat -> List (List Int)
 | 0 => [first]
 | k + 1 => (chFrom r first k).flatMap fun l => (fnd r l.length).frm.map fun m => l ++ [m]
theorem chFrom_head (r : Run) : ∀ k first, chFrom r first (k + 1) = (fnd r first.length).frm.flatMap fun m => chFrom r (first ++ [m]) k := by
 intro k
 induction k with
 | zero =>
  intro first
  simp only [chFrom, List.flatMap_cons, List.flatMap_nil, List.append_nil]
  generalize (fnd r first.length).frm = l
  induction l with
  | nil => rfl
  | cons x l ih => rw [List.map_cons, List.flatMap_cons, ih]; rfl
 | succ k ih =>
  intro first
  rw [chFrom, ih, List.flatMap_assoc]
  rfl
theorem choicesN_from (r : Run) : ∀ k first, choicesN r k first = chFrom r first k := by
 intro k
 induction k with
 | zero => intro first; rfl
 | succ k ih =>
  intro first
  rw [choicesN, chFrom_head]
  congr 1
  funext m
  exact ih _
theorem choices_from (r : Run) : choices r [] = chFrom r [] r.found.length := by
 rw [choices, choicesN_from]; rfl
theorem spanTo_snoc (r : Run) (l : List Int) (x : Int) (j q : Nat) : ∀ n, n <= l.length -> spanTo r (l ++ [x]) j q n = spanTo r l j q n := by
 intro n
 induction n with
 | zero => intro _; rfl
 | succ n ih =>
  intro h
  rw [spanTo_succ, spanTo_succ, ih (by omega)]
  have e : (l ++ [x]).getD n 0 = l.getD n 0 := by rw [Go.Ab.getD_append, if_pos (by omega)]
  unfold spanStep
  rw [e]
theorem spanOf_snoc (r : Run) (l : List Int) (x : Int) (j q : Nat) : spanOf r (l ++ [x]) j q = if x = (j : Int) then seeOne (fnd r l.length) q (spanOf r l j q) else spanOf r l j q := by
 unfold spanOf
 rw [List.length_append, List.length_singleton, spanTo_succ, spanTo_snoc r l x j q _ (Nat.le_refl _)]
 unfold spanStep
 rw [Go.Ab.getD_append, if_neg (Nat.lt_irrefl _), Nat.sub_self]
 show (if x = (j : Int) then _ else _) = _
 split
 ·unfold seeOne
  by_cases h0 : (fnd r l.length).new.getD q 0 = 0
  ·rw [if_pos h0, if_neg (by rw [h0]; decide), if_pos h0]
  ·rw [if_neg h0]
   split
   ·rfl
   ·rfl
 ·rfl
theorem seeOne_narrow (c : Fnd) (q : Nat) (s : Span) : s.lo <= (seeOne c q s).lo /\ (seeOne c q s).hi <= s.hi := by
 unfold seeOne
 split
 ·exact ⟨Int.le_max_left _ _, Int.le_refl _⟩
 ·split
  ·exact ⟨Int.le_refl _, Int.min_le_left _ _⟩
  ·exact ⟨Int.le_refl _, Int.le_refl _⟩
theorem canBe_iff {r : Run} (ok : Ok r) {l : List Int} : canBe r l = true ↔ ∀ m, m < r.machines.length -> ∀ p : Nat, (p : Int) < r.plates -> (spanOf r l m p).lo <= (spanOf r l m p).hi := by
 unfold canBe canBeM canBeAt
 simp only [List.all_eq_true, List.mem_range, decide_eq_true_eq]
 have := ok.plates
 constructor
 ·intro h m hm p hp; exact h m hm p (by omega)
 ·intro h m hm p hp; exact h m hm p (by omega)
theorem canBe_snoc {r : Run} (ok : Ok r) {l : List Int} {x : Int} (h : canBe r (l ++ [x]) = true) : canBe r l = true := by
 rw [canBe_iff ok] at h ⊢
 intro m hm p hp
 have h1 := h m hm p hp
 rw [spanOf_snoc] at h1
 split at h1
 ·have := seeOne_narrow (fnd r l.length) p (spanOf r l m p); omega
 ·exact h1
theorem seeN_spec (c : Fnd) (m : Nat) : ∀ k p (f : Nat -> Nat -> Span), ((seeN c m k p f).1 = true ↔ ∀ q, p <= q -> q < p + k -> (seeOne c q (f m q)).lo <= (seeOne c q (f m q)).hi) ∧
  ((seeN c m k p f).1 = true -> ∀ j q, (seeN c m k p f).2 j q = if j = m /\ p <= q /\ q < p + k then seeOne c q (f j q) else f j q) := by
 intro k
 induction k with
 | zero =>
  intro p f
  refine ⟨⟨fun _ q h1 h2 => by omega, fun _ => rfl⟩, fun _ j q => ?_⟩
  rw [if_neg (by omega)]; rfl
 | succ k ih =>
  intro p f
  by_cases hs : (seeOne c p (f m p)).lo > (seeOne c p (f m p)).hi
  ·rw [seeN_stop hs]
   refine ⟨⟨fun h => (by cases h), fun h => ?_⟩, fun h => (by cases h)⟩
   have := h p (Nat.le_refl _) (by omega)
   omega
  ·rw [seeN_go hs]
   obtain ⟨h1, h2⟩ := ih (p + 1) (upd2 f m p (seeOne c p (f m p)))
   have hq : ∀ q, p + 1 <= q -> upd2 f m p (seeOne c p (f m p)) m q = f m q := by
    intro q hq
    unfold upd2
    rw [if_pos rfl, if_neg (by omega)]
   refine ⟨⟨fun h q a b => ?_, fun h => h1.2 fun q a b => ?_⟩, fun h j q => ?_⟩
   ·by_cases e : q = p
    ·subst e; omega
    ·have := h1.1 h q (by omega) (by omega)
     rw [hq q (by omega)] at this
     exact this
   ·rw [hq q a]
    exact h q (by omega) (by omega)
   ·rw [h2 h j q]
    by_cases hj : j = m
    ·subst hj
     by_cases e : q = p
     ·subst e
      rw [if_neg (by omega), if_pos ⟨rfl, by omega, by omega⟩, upd2_at]
     ·by_cases hr : p + 1 <= q /\ q < p + 1 + k
      ·rw [if_pos ⟨rfl, hr⟩, if_pos ⟨rfl, by omega, by omega⟩, hq q hr.1]
      ·rw [if_neg (fun h => hr h.2), if_neg (by omega)]
       unfold upd2
       rw [if_pos rfl, if_neg e]
    ·rw [if_neg (fun h => hj h.1), if_neg (fun h => hj h.1)]
     unfold upd2
     rw [if_neg hj]
theorem filter_flatMap {α β : Type} (L : List α) (g : α -> List β) (P : α -> Bool) (Q : β -> Bool) (h : ∀ l, l ∈ L -> P l = false -> ∀ x, x ∈ g l -> Q x = false) : (L.flatMap g).filter Q = (L.filter P).flatMap fun l => (g l).filter Q := by
 induction L with
 | nil => rfl
 | cons a L ih =>
  rw [List.flatMap_cons, List.filter_append, ih (fun l hl => h l (List.mem_cons_of_mem _ hl))]
  cases hp : P a with
  | true => rw [List.filter_cons_of_pos hp, List.flatMap_cons]
  | false =>
   rw [List.filter_cons_of_neg (by rw [hp]; exact Bool.false_ne_true)]
   have : (g a).filter Q = [] := by
    rw [List.filter_eq_nil_iff]
    intro x hx
    rw [h a (List.mem_cons_self ..) hp x hx]; exact Bool.false_ne_true
   rw [this]; rfl
def WayOK (r : Run) (w : WayS) : Prop := canBe r w.frm = true /\ ∀ m, m < r.machines.length -> ∀ p : Nat, (p : Int) < r.plates -> w.whn m p = spanOf r w.frm m p
theorem one_ok {r : Run} (ok : Ok r) {n : Nat} (hn : n < r.found.length) {w : WayS} (hw : WayOK r w) (hl : w.frm.length = n) {x : Int} (hx : 0 <= x /\ x < r.machines.length) :
  (see (fnd r n) x.toNat w.whn).1 = canBe r (w.frm ++ [x]) /\ ((see (fnd r n) x.toNat w.whn).1 = true -> WayOK r ⟨w.frm ++ [x], (see (fnd r n) x.toNat w.whn).2⟩) := by
 obtain ⟨h1, h2⟩ := seeN_spec (fnd r n) x.toNat (fnd r n).new.length 0 w.whn
 have hf := ok.fnd n hn
 have hp := ok.plates
 have key : ∀ j, j < r.machines.length -> ∀ q : Nat, (q : Int) < r.plates -> spanOf r (w.frm ++ [x]) j q = if j = x.toNat then seeOne (fnd r n) q (w.whn j q) else w.whn j q := by
  intro j hj q hq
  rw [spanOf_snoc, hl, hw.2 j hj q hq]
  by_cases e : j = x.toNat
  ·rw [if_pos e, if_pos (by omega)]
  ·rw [if_neg e, if_neg (by omega)]
 have hc := (canBe_iff ok).1 hw.1
 have hiff : (see (fnd r n) x.toNat w.whn).1 = true ↔ canBe r (w.frm ++ [x]) = true := by
  unfold see
  rw [h1, canBe_iff ok]
  constructor
  ·intro h m hm p hpp
   rw [key m hm p hpp]
   split
   ·rename_i e
    subst e
    exact h p (Nat.zero_le _) (by omega)
   ·rw [hw.2 m hm p hpp]; exact hc m hm p hpp
  ·intro h q _ hq
   have := h x.toNat (by omega) q (by omega)
   rw [key _ (by omega) q (by omega), if_pos rfl] at this
   exact this
 refine ⟨?_, fun h => ⟨hiff.1 h, fun m hm p hpp => ?_⟩⟩
 ·cases e : canBe r (w.frm ++ [x]) with
  | true => exact hiff.2 e
  | false =>
   cases e2 : (see (fnd r n) x.toNat w.whn).1 with
   | true => rw [hiff.1 e2] at e; cases e
   | false => rfl
 ·show (see (fnd r n) x.toNat w.whn).2 m p = spanOf r (w.frm ++ [x]) m p
  rw [key m hm p hpp]
  unfold see at h ⊢
  rw [h2 h m p]
  by_cases e : m = x.toNat
  ·rw [if_pos ⟨e, Nat.zero_le _, by omega⟩, if_pos e]
  ·rw [if_neg (fun hh => e hh.1), if_neg e]
theorem step_frm {r : Run} (ok : Ok r) {n : Nat} (hn : n < r.found.length) {w : WayS} (hw : WayOK r w) (hl : w.frm.length = n) :
  (step r n w).map (·.frm) = ((fnd r n).frm.map fun m => w.frm ++ [m]).filter (canBe r) /\ ∀ v, v ∈ step r n w -> WayOK r v := by
 have : ∀ L : List Int, (∀ x, x ∈ L -> 0 <= x /\ x < r.machines.length) -> (L.filterMap (one r n w)).map (·.frm) = (L.map fun m => w.frm ++ [m]).filter (canBe r) /\ ∀ v, v ∈ L.filterMap (one r n w) -> WayOK r v := by
  intro L
  induction L with
  | nil => intro _; exact ⟨rfl, fun v h => by cases h⟩
  | cons x L ih =>
   intro hL
   obtain ⟨h1, h2⟩ := one_ok ok hn hw hl (hL x (List.mem_cons_self ..))
   obtain ⟨i1, i2⟩ := ih fun y hy => hL y (List.mem_cons_of_mem _ hy)
   cases e : canBe r (w.frm ++ [x]) with
   | true =>
    rw [e] at h1
    have ho : one r n w x = some ⟨w.frm ++ [x], (see (fnd r n) x.toNat w.whn).2⟩ := by rw [one, if_pos h1]
    rw [List.filterMap_cons_some ho, List.map_cons (f := fun m => w.frm ++ [m]), List.filter_cons_of_pos e]
    refine ⟨by simp only [List.map_cons, i1], fun v hv => ?_⟩
    rcases List.mem_cons.1 hv with rfl | hv
    ·exact h2 h1
    ·exact i2 v hv
   | false =>
    rw [e] at h1
    have ho : one r n w x = none := by rw [one, h1]; rfl
    rw [List.filterMap_cons_none ho, List.map_cons, List.filter_cons_of_neg (by rw [e]; exact Bool.false_ne_true)]
    exact ⟨i1, i2⟩
 exact this _ fun x hx => frm_range ok hn hx
theorem waysTo_link {r : Run} (ok : Ok r) : ∀ n, n <= r.found.length -> (waysTo r n).map (·.frm) = (chFrom r [] n).filter (canBe r) /\ ∀ w, w ∈ waysTo r n -> WayOK r w := by
 intro n
 induction n with
 | zero =>
  intro _
  have hs : ∀ m, m < r.machines.length -> ∀ p : Nat, (p : Int) < r.plates -> firstWhn r r.machines.length m p = spanOf r [] m p := by
   intro m hm p hp
   have := (ok.mach m hm).1
   unfold firstWhn
   rw [if_pos hm, if_pos (by omega)]; rfl
  have hc : canBe r [] = true := by
   rw [canBe_iff ok]
   intro m hm p hp
   have h1 := (ok.mach m hm).1
   have h2 := ok.span m hm p (by omega)
   show (chg (mach r m) p).lo <= (chg (mach r m) p).hi
   omega
  refine ⟨?_, fun w hw => ?_⟩
  ·show [([] : List Int)] = List.filter (canBe r) [[]]
   rw [List.filter_cons_of_pos hc]; rfl
  ·have : w = ⟨[], firstWhn r r.machines.length⟩ := by simpa [waysTo] using hw
   subst this
   exact ⟨hc, hs⟩
 | succ n ih =>
  intro hn
  obtain ⟨h1, h2⟩ := ih (by omega)
  have hst := fun w hw => step_frm ok (n := n) (by omega) (h2 w hw) (waysTo_frm n w hw)
  refine ⟨?_, fun v hv => ?_⟩
  ·rw [waysTo, chFrom, List.map_flatMap, filter_flatMap _ _ (canBe r) (canBe r) (fun l hl hf x hx => ?_), ← h1, List.flatMap_map]
   ·have : ∀ L : List WayS, (∀ w, w ∈ L -> w ∈ waysTo r n) -> L.flatMap (fun w => (step r n w).map (·.frm)) = L.flatMap fun w => ((fnd r w.frm.length).frm.map fun m => w.frm ++ [m]).filter (canBe r) := by
     intro L
     induction L with
     | nil => intro _; rfl
     | cons w L ihL =>
      intro hL
      rw [List.flatMap_cons, List.flatMap_cons, ihL (fun v hv => hL v (List.mem_cons_of_mem _ hv)), (hst w (hL w (List.mem_cons_self ..))).1, waysTo_frm n w (hL w (List.mem_cons_self ..))]
    exact this _ fun w hw => hw
   ·obtain ⟨m, _, rfl⟩ := List.mem_map.1 hx
    cases e : canBe r (l ++ [m]) with
    | false => rfl
    | true => rw [canBe_snoc ok e] at hf; cases hf
  ·rw [waysTo, List.mem_flatMap] at hv
   obtain ⟨w, hw, hv⟩ := hv
   exact (hst w hw).2 v hv
theorem ways_froms {r : Run} (ok : Ok r) : (waysOf r).map (·.frm) = fromsOf r := by
 rw [waysOf, (waysTo_link ok _ (Nat.le_refl _)).1, fromsOf, choices_from]
theorem way_ok {r : Run} (ok : Ok r) {w : WayS} (h : w ∈ waysOf r) : WayOK r w := (waysTo_link ok _ (Nat.le_refl _)).2 w h
theorem ways_len {r : Run} (ok : Ok r) : (waysOf r).length = (fromsOf r).length := by rw [← ways_froms ok, List.length_map]
theorem open_eq (r : Run) (is : Bool) : openE r is = rfE r is := by
 unfold openE rfE
 split
 ·rename_i h
  rw [ways_len (ok_of (check_zero.1 h))]
 ·rfl
end Go.Sh
namespace Go.Sh
theorem rf_zero {r : Run} {is : Bool} (h : rfE r is = 0) : Ok r /\ is = true := ⟨ok_of (check_zero.1 (rfE_zero h).1), (rfE_zero h).2.1⟩
theorem way_rd {r : Run} (ok : Ok r) {f p : Nat} (hf : f < r.found.length) (hp : (p : Int) < r.plates) {w : WayS} (h : w ∈ waysOf r) : rdS w f p = rdL r f p w.frm /\ (rdS w f p).lo <= (rdS w f p).hi := by
 have h1 := way_mach ok h hf
 have h2 := way_ok ok h
 have h3 : rdS w f p = rdL r f p w.frm := h2.2 _ (by omega) p hp
 refine ⟨h3, ?_⟩
 rw [h3]
 exact (canBe_iff ok).1 h2.1 _ (by omega) p hp
theorem cnt_all (l : List WayS) (P : WayS -> Bool) : cnt l P l.length = l.countP P := by rw [cnt, List.take_length]
theorem read_eq (r : Run) (f p : Int) : readS r f p = readR r f p := by
 unfold readS readR
 rw [open_eq]
 split
 ·rename_i h0
  obtain ⟨ok, his⟩ := rf_zero h0
  obtain ⟨a1, a2, a3, a4, _⟩ := readIs_ok ok his
  have hw := fun w (h : w ∈ waysOf r) => way_rd ok (f := f.toNat) (p := p.toNat) (by omega) (by omega) h
  rw [cnt_all, cnt_all]
  have hold : oldTo r (fromsOf r) f.toNat p.toNat (fromsOf r).length = (waysOf r).any fun w => decide ((rdS w f.toNat p.toNat).hi > (fnd r f.toNat).minute) := by
   rw [oldTo, List.take_length, ← ways_froms ok, List.any_map, Bool.eq_iff_iff, List.any_eq_true, List.any_eq_true]
   constructor
   ·rintro ⟨w, h1, h2⟩; exact ⟨w, h1, by rw [(hw w h1).1]; exact h2⟩
   ·rintro ⟨w, h1, h2⟩; exact ⟨w, h1, by rw [(hw w h1).1] at h2; exact h2⟩
  have hnew : newTo r (fromsOf r) f.toNat p.toNat (fromsOf r).length = (waysOf r).any fun w => decide ((rdS w f.toNat p.toNat).lo <= (fnd r f.toNat).minute) := by
   rw [newTo, List.take_length, ← ways_froms ok, List.any_map, Bool.eq_iff_iff, List.any_eq_true, List.any_eq_true]
   constructor
   ·rintro ⟨w, h1, h2⟩; exact ⟨w, h1, by rw [(hw w h1).1]; exact h2⟩
   ·rintro ⟨w, h1, h2⟩; exact ⟨w, h1, by rw [(hw w h1).1] at h2; exact h2⟩
  rw [hold, hnew]
  unfold known3
  by_cases c1 : (waysOf r).countP (rdSo r f.toNat p.toNat) = (waysOf r).length
  ·rw [if_pos (by rw [c1])]
   rw [List.countP_eq_length] at c1
   have : ((waysOf r).any fun w => decide ((rdS w f.toNat p.toNat).hi > (fnd r f.toNat).minute)) = false := by
    rw [List.any_eq_false]
    intro w h1 h2
    have h3 := c1 w h1
    simp only [rdSo, decide_eq_true_eq] at h3 h2
    omega
   rw [this]; rfl
  ·rw [if_neg (by omega)]
   have : ((waysOf r).any fun w => decide ((rdS w f.toNat p.toNat).hi > (fnd r f.toNat).minute)) = true := by
    rw [List.countP_eq_length] at c1
    rw [List.any_eq_true]
    apply Classical.byContradiction
    intro hn
    refine c1 fun w h1 => ?_
    simp only [rdSo, decide_eq_true_eq]
    apply Classical.byContradiction
    intro h2
    exact hn ⟨w, h1, by simp only [decide_eq_true_eq]; omega⟩
   rw [this, if_pos rfl]
   by_cases c2 : (waysOf r).countP (rdNot r f.toNat p.toNat) = (waysOf r).length
   ·rw [if_pos (by rw [c2])]
    rw [List.countP_eq_length] at c2
    have : ((waysOf r).any fun w => decide ((rdS w f.toNat p.toNat).lo <= (fnd r f.toNat).minute)) = false := by
     rw [List.any_eq_false]
     intro w h1 h2
     have h3 := c2 w h1
     simp only [rdNot, Bool.and_eq_true, decide_eq_true_eq] at h3 h2
     omega
    rw [this]; rfl
   ·rw [if_neg (by omega)]
    have : ((waysOf r).any fun w => decide ((rdS w f.toNat p.toNat).lo <= (fnd r f.toNat).minute)) = true := by
     rw [List.countP_eq_length] at c2
     rw [List.any_eq_true]
     apply Classical.byContradiction
     intro hn
     refine c2 fun w h1 => ?_
     have h2 : ¬ (rdS w f.toNat p.toNat).lo <= (fnd r f.toNat).minute := fun h => hn ⟨w, h1, by simpa using h⟩
     have h4 := (hw w h1).2
     simp only [rdNot, rdSo, Bool.and_eq_true, Bool.not_eq_true', decide_eq_true_eq, decide_eq_false_iff_not]
     omega
    rw [this]; rfl
 ·rfl
end Go.Sh
namespace Go.Sh
theorem far_small {r : Run} (h : far r = false) (hf : fits r) : small r := by
 simp only [far, huge, Bool.or_eq_false_iff, decide_eq_false_iff_not, List.any_eq_false] at h
 obtain ⟨⟨⟨⟨h1, h2⟩, h3⟩, h4⟩, _⟩ := h
 refine ⟨by omega, by omega, fun i => ?_, fun i => ?_⟩
 ·by_cases hi : i < r.machines.length
  ·have := h3 _ (Go.Ab.getD_mem r.machines default hi)
   simp only [hugeM, decide_eq_true_eq] at this
   show (r.machines.getD i default).changes.length <= _
   omega
  ·rw [mach, Go.Ab.getD_ge _ _ (by omega)]; exact Nat.zero_le _
 ·by_cases hi : i < r.found.length
  ·have := h4 _ (Go.Ab.getD_mem r.found default hi)
   simp only [hugeF, Bool.or_eq_true, decide_eq_true_eq, not_or] at this
   show (r.found.getD i default).new.length <= _ /\ (r.found.getD i default).frm.length <= _
   omega
  ·rw [fnd, Go.Ab.getD_ge _ _ (by omega)]; exact ⟨Nat.zero_le _, Nat.zero_le _⟩
end Go.Sh
namespace Go.Ab
open Go Go.RowKit Go.Proofs Go.Sh Go.En
end Go.Ab
namespace Go.Ab
open Go Go.RowKit Go.Proofs Go.Sh Go.En
end Go.Ab
namespace Go.Sh
theorem map_getD {l : List WayS} {i : Nat} (h : i < l.length) : (l.map (·.frm)).getD i [] = (l.getD i default).frm := by
 rw [Go.Ab.getD_lt _ _ (by simpa using h), Go.Ab.getD_lt _ _ h, List.getElem_map]
end Go.Sh
namespace Go.Sh
end Go.Sh
namespace Go.Sh
theorem span_ext {a b : Span} (h1 : a.lo = b.lo) (h2 : a.hi = b.hi) : a = b := by cases a; cases b; simp only at h1 h2; rw [h1, h2]
theorem spanTo_lo (r : Run) (l : List Int) (m p : Nat) (n : Int) : ∀ k, (spanTo r l m p k).lo <= n ↔ (chg (mach r m) p).lo <= n /\ ∀ i, i < k -> l.getD i 0 = (m : Int) -> (fnd r i).new.getD p 0 = 0 -> (fnd r i).minute + 1 <= n := by
 intro k
 induction k with
 | zero => exact ⟨fun h => ⟨h, fun i hi => by omega⟩, fun h => h.1⟩
 | succ k ih =>
  rw [spanTo_succ]
  have step : (spanStep r l m p (spanTo r l m p k) k).lo <= n ↔ (spanTo r l m p k).lo <= n /\ (l.getD k 0 = (m : Int) -> (fnd r k).new.getD p 0 = 0 -> (fnd r k).minute + 1 <= n) := by
   unfold spanStep
   by_cases h1 : l.getD k 0 = (m : Int)
   ·rw [if_pos h1]
    by_cases h2 : (fnd r k).new.getD p 0 = 1
    ·rw [if_pos h2]
     exact ⟨fun h => ⟨h, fun _ h3 => by omega⟩, fun h => h.1⟩
    ·rw [if_neg h2]
     by_cases h3 : (fnd r k).new.getD p 0 = 0
     ·rw [if_pos h3]
      show max _ _ <= n ↔ _
      rw [Int.max_le]
      exact ⟨fun h => ⟨h.1, fun _ _ => h.2⟩, fun h => ⟨h.1, h.2 h1 h3⟩⟩
     ·rw [if_neg h3]
      exact ⟨fun h => ⟨h, fun _ h4 => absurd h4 h3⟩, fun h => h.1⟩
   ·rw [if_neg h1]
    exact ⟨fun h => ⟨h, fun h2 => absurd h2 h1⟩, fun h => h.1⟩
  rw [step, ih]
  constructor
  ·rintro ⟨⟨h1, h2⟩, h3⟩
   refine ⟨h1, fun i hi => ?_⟩
   by_cases e : i = k
   ·subst e; exact h3
   ·exact h2 i (by omega)
  ·rintro ⟨h1, h2⟩
   exact ⟨⟨h1, fun i hi => h2 i (by omega)⟩, h2 k (by omega)⟩
theorem spanTo_hi (r : Run) (l : List Int) (m p : Nat) (n : Int) : ∀ k, n <= (spanTo r l m p k).hi ↔ n <= (chg (mach r m) p).hi /\ ∀ i, i < k -> l.getD i 0 = (m : Int) -> (fnd r i).new.getD p 0 = 1 -> n <= (fnd r i).minute := by
 intro k
 induction k with
 | zero => exact ⟨fun h => ⟨h, fun i hi => by omega⟩, fun h => h.1⟩
 | succ k ih =>
  rw [spanTo_succ]
  have step : n <= (spanStep r l m p (spanTo r l m p k) k).hi ↔ n <= (spanTo r l m p k).hi /\ (l.getD k 0 = (m : Int) -> (fnd r k).new.getD p 0 = 1 -> n <= (fnd r k).minute) := by
   unfold spanStep
   by_cases h1 : l.getD k 0 = (m : Int)
   ·rw [if_pos h1]
    by_cases h2 : (fnd r k).new.getD p 0 = 1
    ·rw [if_pos h2]
     show n <= min _ _ ↔ _
     rw [Int.le_min]
     exact ⟨fun h => ⟨h.1, fun _ _ => h.2⟩, fun h => ⟨h.1, h.2 h1 h2⟩⟩
    ·rw [if_neg h2]
     by_cases h3 : (fnd r k).new.getD p 0 = 0
     ·rw [if_pos h3]
      exact ⟨fun h => ⟨h, fun _ h4 => absurd h4 h2⟩, fun h => h.1⟩
     ·rw [if_neg h3]
      exact ⟨fun h => ⟨h, fun _ h4 => absurd h4 h2⟩, fun h => h.1⟩
   ·rw [if_neg h1]
    exact ⟨fun h => ⟨h, fun h2 => absurd h2 h1⟩, fun h => h.1⟩
  rw [step, ih]
  constructor
  ·rintro ⟨⟨h1, h2⟩, h3⟩
   refine ⟨h1, fun i hi => ?_⟩
   by_cases e : i = k
   ·subst e; exact h3
   ·exact h2 i (by omega)
  ·rintro ⟨h1, h2⟩
   exact ⟨⟨h1, fun i hi => h2 i (by omega)⟩, h2 k (by omega)⟩
theorem spanOf_lo {r : Run} {l : List Int} {m p : Nat} {n : Int} : (spanOf r l m p).lo <= n ↔ (chg (mach r m) p).lo <= n /\ ∀ i, i < l.length -> l.getD i 0 = (m : Int) -> (fnd r i).new.getD p 0 = 0 -> (fnd r i).minute + 1 <= n := spanTo_lo r l m p n l.length
theorem spanOf_hi {r : Run} {l : List Int} {m p : Nat} {n : Int} : n <= (spanOf r l m p).hi ↔ n <= (chg (mach r m) p).hi /\ ∀ i, i < l.length -> l.getD i 0 = (m : Int) -> (fnd r i).new.getD p 0 = 1 -> n <= (fnd r i).minute := spanTo_hi r l m p n l.length
theorem mem_chFrom {r : Run} : ∀ k (l : List Int), l ∈ chFrom r [] k ↔ l.length = k /\ ∀ i, i < k -> l.getD i 0 ∈ (fnd r i).frm := by
 intro k
 induction k with
 | zero =>
  intro l
  simp only [chFrom, List.mem_singleton]
  constructor
  ·rintro rfl; exact ⟨rfl, fun i hi => by omega⟩
  ·rintro ⟨h, _⟩; exact List.length_eq_zero_iff.1 h
 | succ k ih =>
  intro l
  simp only [chFrom, List.mem_flatMap, List.mem_map]
  constructor
  ·rintro ⟨a, ha, m, hm, rfl⟩
   obtain ⟨h1, h2⟩ := (ih a).1 ha
   refine ⟨by simp [h1], fun i hi => ?_⟩
   rw [Go.Ab.getD_append]
   split
   ·exact h2 i (by omega)
   ·have : i = a.length := by omega
    subst this
    rw [Nat.sub_self]; exact hm
  ·rintro ⟨h1, h2⟩
   rcases List.eq_nil_or_concat l with rfl | ⟨a, x, rfl⟩
   ·simp at h1
   ·rw [List.concat_eq_append] at h1 h2 ⊢
    have hl : a.length = k := by simpa using h1
    refine ⟨a, (ih a).2 ⟨hl, fun i hi => ?_⟩, x, ?_, rfl⟩
    ·have := h2 i (by omega)
     rwa [Go.Ab.getD_append, if_pos (by omega)] at this
    ·have := h2 k (by omega)
     rw [Go.Ab.getD_append, if_neg (by omega), hl, Nat.sub_self] at this
     rw [hl]; exact this
theorem mem_froms {r : Run} {l : List Int} : l ∈ fromsOf r ↔ (l.length = r.found.length /\ ∀ i, i < r.found.length -> l.getD i 0 ∈ (fnd r i).frm) /\ canBe r l = true := by
 rw [fromsOf, List.mem_filter, choices_from, mem_chFrom]
theorem froms_in {r : Run} (ok : Ok r) {l : List Int} (h : l ∈ fromsOf r) {i : Nat} (hi : i < r.found.length) : 0 <= l.getD i 0 /\ l.getD i 0 < r.machines.length := frm_range ok hi (fromsOf_frm h hi)
theorem froms_le {r : Run} (ok : Ok r) {l : List Int} (h : l ∈ fromsOf r) {m p : Nat} (hm : m < r.machines.length) (hp : (p : Int) < r.plates) : (spanOf r l m p).lo <= (spanOf r l m p).hi := (canBe_iff ok).1 (mem_froms.1 h).2 m hm p hp
structure One (r : Run) : Prop where
 ok : Ok r
 zero : ∀ is, is = true -> rfE r is = 0
 pos : 0 < (fromsOf r).length
theorem one_ex {r : Run} (h : One r) : ∃ x, x ∈ fromsOf r := List.exists_mem_of_length_pos h.pos
theorem one_of {r : Run} (ok : okRun r = true) {x : List Int} (h : x ∈ fromsOf r) : One r := by
 have hp := List.length_pos_of_mem h
 exact ⟨ok_of ok, fun is hi => by rw [rfE, if_pos (check_zero.2 ok), if_pos hi, if_neg (by omega)], hp⟩
theorem none_of {r : Run} (ok : okRun r = true) (h : ∀ x, ¬ x ∈ fromsOf r) {is : Bool} (hi : is = true) : rfE r is = 3 := by
 have : (fromsOf r).length = 0 := by
  rw [List.length_eq_zero_iff]
  exact List.eq_nil_iff_forall_not_mem.2 h
 rw [rfE, if_pos (check_zero.2 ok), if_pos hi, if_pos this]
theorem one_known {r : Run} (h : known6 r = true) : One r := by
 simp only [known6, ready, Bool.and_eq_true, decide_eq_true_eq] at h
 have ok := check_zero.1 h.1.2
 have : 0 < (fromsOf r).length := by have := h.2; simp only [isOne, decide_eq_true_eq] at this; omega
 obtain ⟨x, hx⟩ := List.exists_mem_of_length_pos this
 exact one_of ok hx
theorem ready_ok {r : Run} (h : ready r = true) : okRun r = true := by
 simp only [ready, Bool.and_eq_true, decide_eq_true_eq] at h
 exact check_zero.1 h.2
end Go.Sh
namespace Go.Sh
theorem getD_set {α : Type} (l : List α) (d v : α) {i j : Nat} (hi : i < l.length) : (l.set i v).getD j d = if j = i then v else l.getD j d := by
 by_cases hj : j < l.length
 ·rw [Go.Ab.getD_lt _ _ (by simpa using hj), List.getElem_set, Go.Ab.getD_lt _ _ hj]
  by_cases e : i = j
  ·rw [if_pos e, if_pos e.symm]
  ·rw [if_neg e, if_neg (fun h => e h.symm)]
 ·rw [Go.Ab.getD_ge _ _ (by simp; omega), Go.Ab.getD_ge _ _ (by omega), if_neg (by omega)]
def setF (r : Run) (f : Nat) (c : Fnd) : Run := ⟨r.plates, r.last, r.machines, r.found.set f c⟩
theorem len_setF (r : Run) (f : Nat) (c : Fnd) : (setF r f c).found.length = r.found.length := List.length_set
theorem fnd_setF {r : Run} {f : Nat} (c : Fnd) (h : f < r.found.length) (j : Nat) : fnd (setF r f c) j = if j = f then c else fnd r j := getD_set _ _ _ h
theorem okRun_setF {r : Run} {f : Nat} {c : Fnd} (h : okRun r = true) (hf : f < r.found.length) (hc : okFndA r c = true) : okRun (setF r f c) = true := by
 simp only [okRun, Bool.and_eq_true] at h
 have hl := len_setF r f c
 refine okRun_of ?_ (fun j hj => ?_) (fun j hj => ?_)
 ·have h1 := h.1.1
  unfold okHead at h1 ⊢
  rw [hl]; exact h1
 ·exact Go.Ab.idx_all default h.1.2 hj
 ·rw [hl] at hj
  rw [fnd_setF c hf]
  split
  ·exact hc
  ·exact Go.Ab.idx_all default h.2 hj
theorem okFndA_at {r : Run} (h : okRun r = true) {f : Nat} (hf : f < r.found.length) : okFndA r (fnd r f) = true := by
 simp only [okRun, Bool.and_eq_true] at h
 exact Go.Ab.idx_all default h.2 hf
theorem fits_setF {r : Run} {f : Nat} {c : Fnd} (h : fits r) (hf : f < r.found.length) (hc : c.new.length <= 1125899906842624 /\ c.frm.length <= 1125899906842624) : fits (setF r f c) := by
 refine ⟨h.1, by rw [len_setF]; exact h.2.1, h.2.2.1, fun i => ?_⟩
 rw [fnd_setF c hf]
 split
 ·exact hc
 ·exact h.2.2.2 i
def setNew (r : Run) (f p : Nat) (v : Int) : Run := setF r f ⟨(fnd r f).minute, (fnd r f).new.set p v, (fnd r f).frm⟩
theorem fnd_setNew {r : Run} {f p : Nat} {v : Int} (hf : f < r.found.length) (j : Nat) : (fnd (setNew r f p v) j).minute = (fnd r j).minute /\ (fnd (setNew r f p v) j).frm = (fnd r j).frm /\ (fnd (setNew r f p v) j).new.length = (fnd r j).new.length := by
 unfold setNew
 rw [fnd_setF _ hf]
 split
 ·rename_i e; subst e; exact ⟨rfl, rfl, List.length_set⟩
 ·exact ⟨rfl, rfl, rfl⟩
theorem new_setNew {r : Run} {f p : Nat} {v : Int} (hf : f < r.found.length) (hp : p < (fnd r f).new.length) (j q : Nat) : (fnd (setNew r f p v) j).new.getD q 0 = if j = f /\ q = p then v else (fnd r j).new.getD q 0 := by
 unfold setNew
 rw [fnd_setF _ hf]
 by_cases e : j = f
 ·subst e
  rw [if_pos rfl]
  show ((fnd r j).new.set p v).getD q 0 = _
  rw [getD_set _ _ _ hp]
  by_cases e2 : q = p
  ·rw [if_pos e2, if_pos ⟨rfl, e2⟩]
  ·rw [if_neg e2, if_neg (fun h => e2 h.2)]
 ·rw [if_neg e, if_neg (fun h => e h.1)]
theorem okRun_setNew {r : Run} (h : okRun r = true) {f p : Nat} {v : Int} (hf : f < r.found.length) (hp : p < (fnd r f).new.length) (hv : -1 <= v /\ v <= 1) : okRun (setNew r f p v) = true := by
 have hF := okFndA_at h hf
 refine okRun_setF h hf ?_
 simp only [okFndA, okFnd, Bool.and_eq_true] at hF ⊢
 refine ⟨⟨⟨⟨hF.1.1.1.1, ?_⟩, hF.1.1.2⟩, hF.1.2⟩, Go.Ab.all_idx _ 0 _ fun q hq => ?_⟩
 ·rw [List.length_set]; exact hF.1.1.1.2
 ·rw [getD_set _ _ _ hp]
  rw [List.length_set] at hq
  split
  ·exact within_iff.2 hv
  ·exact Go.Ab.idx_all 0 hF.2 hq
theorem fits_setNew {r : Run} {f p : Nat} {v : Int} (h : fits r) (hf : f < r.found.length) : fits (setNew r f p v) := fits_setF h hf ⟨by rw [List.length_set]; exact (h.2.2.2 f).1, (h.2.2.2 f).2⟩
theorem spanOf_same {r o : Run} {l : List Int} {m p : Nat} (hc : chg (mach o m) p = chg (mach r m) p) (h : ∀ i, i < l.length -> l.getD i 0 = (m : Int) -> (fnd o i).minute = (fnd r i).minute /\ (fnd o i).new.getD p 0 = (fnd r i).new.getD p 0) : spanOf o l m p = spanOf r l m p := by
 refine span_ext (Int.le_antisymm ?_ ?_) (Int.le_antisymm ?_ ?_)
 ·rw [spanOf_lo, hc]
  obtain ⟨h1, h2⟩ := spanOf_lo.1 (Int.le_refl (spanOf r l m p).lo)
  exact ⟨h1, fun i hi e e2 => by rw [(h i hi e).1]; exact h2 i hi e (by rw [← (h i hi e).2]; exact e2)⟩
 ·rw [spanOf_lo, ← hc]
  obtain ⟨h1, h2⟩ := spanOf_lo.1 (Int.le_refl (spanOf o l m p).lo)
  exact ⟨h1, fun i hi e e2 => by rw [← (h i hi e).1]; exact h2 i hi e (by rw [(h i hi e).2]; exact e2)⟩
 ·rw [spanOf_hi, ← hc]
  obtain ⟨h1, h2⟩ := spanOf_hi.1 (Int.le_refl (spanOf o l m p).hi)
  exact ⟨h1, fun i hi e e2 => by rw [← (h i hi e).1]; exact h2 i hi e (by rw [(h i hi e).2]; exact e2)⟩
 ·rw [spanOf_hi, hc]
  obtain ⟨h1, h2⟩ := spanOf_hi.1 (Int.le_refl (spanOf r l m p).hi)
  exact ⟨h1, fun i hi e e2 => by rw [(h i hi e).1]; exact h2 i hi e (by rw [← (h i hi e).2]; exact e2)⟩
end Go.Sh
namespace Go.Sh
theorem nwLen_at {r : Run} {f : Nat} (h : f < r.found.length) : nwLen r f r.found.length = (fnd r f).new.length := if_pos h
theorem chLen_over (r : Run) : chLen r r.machines.length r.machines.length = (mach r r.machines.length).changes.length := by
 rw [mach, Go.Ab.getD_ge _ _ (Nat.le_refl _), chLen, if_neg (Nat.lt_irrefl _)]; rfl
theorem rec_eq {α : Type} {i j : Nat} {a : ¬ i = j -> α} {b : i = j -> α} {c : α} (h1 : ∀ h, a h = c) (h2 : ∀ h, b h = c) : (Decidable.rec a b (instDecidableEqNat i j) : α) = c := by
 cases instDecidableEqNat i j with
 | isTrue h => exact h2 h
 | isFalse h => exact h1 h
def end0 (s : Span) : Int := s.lo - 1
end Go.Sh
namespace Go.Ab
open Go Go.RowKit Go.Proofs Go.Sh Go.En
def h7 (r : Run) (m p : Int) : Hint := { X := Int, M := fun n => [(12, iv n)], I := fun n => end0 (whenS r m p) <= n /\ n <= (whenS r m p).hi + 2, mu := fun n => ((whenS r m p).hi + 2 - n).toNat, x0 := end0 (whenS r m p), nx := fun n => n + 1 }
end Go.Ab
namespace Go.Ab
open Go Go.RowKit Go.Proofs Go.Sh Go.En
end Go.Ab
namespace Go.Sh
theorem again_froms {r : Run} (hk : okRun r = true) {f p : Nat} {v : Int} (hf : f < r.found.length) (hp : (p : Int) < r.plates) (hn : (fnd r f).new.getD p 0 = -1) (hv : v = 0 ∨ v = 1) (x : List Int) :
  x ∈ fromsOf (setNew r f p v) ↔ x ∈ fromsOf r /\ (v = 1 -> (rdL r f p x).lo <= (fnd r f).minute) /\ (v = 0 -> (fnd r f).minute + 1 <= (rdL r f p x).hi) := by
 have ok := ok_of hk
 have hpl : p < (fnd r f).new.length := by have := ok.fnd f hf; omega
 have okO := ok_of (okRun_setNew hk (v := v) hf hpl (by omega))
 have hF := fun j => fnd_setNew (r := r) (p := p) (v := v) hf j
 have hN := fun j q => new_setNew (r := r) (v := v) hf hpl j q
 have hlen : (setNew r f p v).found.length = r.found.length := len_setF _ _ _
 have hfr : (x.length = (setNew r f p v).found.length /\ ∀ i, i < (setNew r f p v).found.length -> x.getD i 0 ∈ (fnd (setNew r f p v) i).frm) ↔ (x.length = r.found.length /\ ∀ i, i < r.found.length -> x.getD i 0 ∈ (fnd r i).frm) := by
  rw [hlen]
  constructor
  ·rintro ⟨a, b⟩; exact ⟨a, fun i hi => by rw [← (hF i).2.1]; exact b i hi⟩
  ·rintro ⟨a, b⟩; exact ⟨a, fun i hi => by rw [(hF i).2.1]; exact b i hi⟩
 have hother : ∀ (j q : Nat), ¬ (x.getD f 0 = (j : Int) /\ q = p) -> spanOf (setNew r f p v) x j q = spanOf r x j q := by
  intro j q hne
  refine spanOf_same rfl fun i hi e => ⟨(hF i).1, ?_⟩
  rw [hN i q]
  by_cases c : i = f /\ q = p
  ·exact absurd ⟨by rw [← c.1]; exact e, c.2⟩ hne
  ·rw [if_neg c]
 rw [mem_froms, mem_froms, hfr, canBe_iff ok, canBe_iff okO]
 constructor
 ·rintro ⟨a, b⟩
  have hin := frm_range ok hf (a.2 f hf)
  have hmi := hF f
  have hself := hN f p
  rw [if_pos ⟨rfl, rfl⟩] at hself
  have hx := b (x.getD f 0).toNat (by show _ < r.machines.length; omega) p hp
  have l1 : (spanOf r x (x.getD f 0).toNat p).lo <= (spanOf (setNew r f p v) x (x.getD f 0).toNat p).lo := by
   obtain ⟨c1, c2⟩ := spanOf_lo.1 (Int.le_refl (spanOf (setNew r f p v) x (x.getD f 0).toNat p).lo)
   refine spanOf_lo.2 ⟨c1, fun i hi e e2 => ?_⟩
   rw [← (hF i).1]
   refine c2 i hi e ?_
   rw [hN i p, if_neg (fun c => by rw [c.1, hn] at e2; omega)]; exact e2
  have l2 : (spanOf (setNew r f p v) x (x.getD f 0).toNat p).hi <= (spanOf r x (x.getD f 0).toNat p).hi := by
   obtain ⟨c1, c2⟩ := spanOf_hi.1 (Int.le_refl (spanOf (setNew r f p v) x (x.getD f 0).toNat p).hi)
   refine spanOf_hi.2 ⟨c1, fun i hi e e2 => ?_⟩
   rw [← (hF i).1]
   refine c2 i hi e ?_
   rw [hN i p, if_neg (fun c => by rw [c.1, hn] at e2; omega)]; exact e2
  refine ⟨⟨a, fun j hj q hq => ?_⟩, fun hv1 => ?_, fun hv0 => ?_⟩
  ·by_cases c : x.getD f 0 = (j : Int) /\ q = p
   ·obtain ⟨c1, rfl⟩ := c
    have : (x.getD f 0).toNat = j := by omega
    rw [this] at l1 l2 hx
    omega
   ·have := b j hj q hq
    rw [hother j q c] at this
    exact this
  ·have := (spanOf_hi.1 (Int.le_refl (spanOf (setNew r f p v) x (x.getD f 0).toNat p).hi)).2 f (by omega) (by omega) (by rw [hself]; exact hv1)
   unfold rdL
   omega
  ·have := (spanOf_lo.1 (Int.le_refl (spanOf (setNew r f p v) x (x.getD f 0).toNat p).lo)).2 f (by omega) (by omega) (by rw [hself]; exact hv0)
   unfold rdL
   omega
 ·rintro ⟨⟨a, b⟩, h1, h0⟩
  have hin := frm_range ok hf (a.2 f hf)
  have hmi := hF f
  have hself := hN f p
  rw [if_pos ⟨rfl, rfl⟩] at hself
  refine ⟨a, fun j hj q hq => ?_⟩
  by_cases c : x.getD f 0 = (j : Int) /\ q = p
  ·obtain ⟨c1, rfl⟩ := c
   have hj' : (x.getD f 0).toNat = j := by omega
   have hb := b j hj q hq
   unfold rdL at h1 h0
   rw [hj'] at h1 h0
   rcases hv with rfl | rfl
   · -- not before the copy
    have h0 := h0 rfl
    have l2 : (spanOf r x j q).hi <= (spanOf (setNew r f q 0) x j q).hi := by
     obtain ⟨c1, c2⟩ := spanOf_hi.1 (Int.le_refl (spanOf r x j q).hi)
     refine spanOf_hi.2 ⟨c1, fun i hi e e2 => ?_⟩
     rw [(hF i).1]
     refine c2 i hi e ?_
     rw [hN i q] at e2
     by_cases d : i = f
     ·subst d; rw [if_pos ⟨rfl, rfl⟩] at e2; omega
     ·rw [if_neg (fun z => d z.1)] at e2; exact e2
    have l1 : (spanOf (setNew r f q 0) x j q).lo <= (spanOf r x j q).hi := by
     obtain ⟨c1, c2⟩ := spanOf_lo.1 hb
     refine spanOf_lo.2 ⟨c1, fun i hi e e2 => ?_⟩
     rw [(hF i).1]
     rw [hN i q] at e2
     by_cases d : i = f
     ·subst d; omega
     ·rw [if_neg (fun z => d z.1)] at e2; exact c2 i hi e e2
    omega
   ·have h1 := h1 rfl
    have l1 : (spanOf (setNew r f q 1) x j q).lo <= (spanOf r x j q).lo := by
     obtain ⟨c1, c2⟩ := spanOf_lo.1 (Int.le_refl (spanOf r x j q).lo)
     refine spanOf_lo.2 ⟨c1, fun i hi e e2 => ?_⟩
     rw [(hF i).1]
     refine c2 i hi e ?_
     rw [hN i q] at e2
     by_cases d : i = f
     ·subst d; rw [if_pos ⟨rfl, rfl⟩] at e2; omega
     ·rw [if_neg (fun z => d z.1)] at e2; exact e2
    have l2 : (spanOf r x j q).lo <= (spanOf (setNew r f q 1) x j q).hi := by
     obtain ⟨c1, c2⟩ := spanOf_hi.1 hb
     refine spanOf_hi.2 ⟨c1, fun i hi e e2 => ?_⟩
     rw [(hF i).1]
     rw [hN i q] at e2
     by_cases d : i = f
     ·subst d; omega
     ·rw [if_neg (fun z => d z.1)] at e2; exact c2 i hi e e2
    omega
  ·rw [hother j q c]; exact b j hj q hq
theorem read_val {r : Run} (h : One r) {f p : Int} (hi : readIs r f p = true) : openE r (readIs r f p) = 0 ∧
  readS r f p = if (∃ x, x ∈ fromsOf r /\ (rdL r f.toNat p.toNat x).hi > (fnd r f.toNat).minute) then (if (∃ x, x ∈ fromsOf r /\ (rdL r f.toNat p.toNat x).lo <= (fnd r f.toNat).minute) then 3 else 2) else 1 := by
 rw [read_eq, open_eq, readR, h.zero _ hi]
 refine ⟨rfl, ?_⟩
 rw [if_pos rfl]
 have e1 : oldTo r (fromsOf r) f.toNat p.toNat (fromsOf r).length = true ↔ ∃ x, x ∈ fromsOf r /\ (rdL r f.toNat p.toNat x).hi > (fnd r f.toNat).minute := by
  rw [oldTo, List.take_length, List.any_eq_true]; simp only [decide_eq_true_eq]
 have e2 : newTo r (fromsOf r) f.toNat p.toNat (fromsOf r).length = true ↔ ∃ x, x ∈ fromsOf r /\ (rdL r f.toNat p.toNat x).lo <= (fnd r f.toNat).minute := by
  rw [newTo, List.take_length, List.any_eq_true]; simp only [decide_eq_true_eq]
 by_cases c1 : ∃ x, x ∈ fromsOf r /\ (rdL r f.toNat p.toNat x).hi > (fnd r f.toNat).minute
 ·rw [if_pos (e1.2 c1), if_pos c1]
  by_cases c2 : ∃ x, x ∈ fromsOf r /\ (rdL r f.toNat p.toNat x).lo <= (fnd r f.toNat).minute
  ·rw [if_pos (e2.2 c2), if_pos c2]
  ·rw [if_neg (fun h => c2 (e2.1 h)), if_neg c2]
 ·rw [if_neg (fun h => c1 (e1.1 h)), if_neg c1]
def againR (r : Run) (f p : Int) (n : Nat) : Run := setNew r f.toNat p.toNat (n : Int)
theorem again_try {r : Run} (h : One r) (hk : okRun r = true) {f p : Int} (hi : readIs r f p = true) (hn : (fnd r f.toNat).new.getD p.toNat 0 = -1) {n : Nat} (hv : n <= 1) :
  (openE (againR r f p n) true = 0 /\ (readS r f p = 3 ∨ (readS r f p = 1 /\ n = 1) ∨ readS r f p = 2 /\ n = 0)) ∨ (openE (againR r f p n) true = 3 /\ ((readS r f p = 1 /\ n = 0) ∨ readS r f p = 2 /\ n = 1)) := by
 obtain ⟨a1, a2, a3, a4, _⟩ := readIs_ok h.ok hi
 have hpl : p.toNat < (fnd r f.toNat).new.length := by have := h.ok.fnd f.toNat (by omega); omega
 have hkO : okRun (againR r f p n) = true := okRun_setNew hk (by omega) hpl (by omega)
 have hfr := again_froms hk (f := f.toNat) (p := p.toNat) (v := (n : Int)) (by omega) (by omega) hn (by omega)
 have hle : ∀ x, x ∈ fromsOf r -> (rdL r f.toNat p.toNat x).lo <= (rdL r f.toNat p.toNat x).hi := by
  intro x hx
  have := froms_in h.ok hx (i := f.toNat) (by omega)
  exact froms_le h.ok hx (by omega) (by omega)
 obtain ⟨y, hy⟩ := one_ex h
 have hyl := hle y hy
 rw [(read_val h hi).2]
 rw [open_eq]
 have e0 : (∃ x, x ∈ fromsOf (againR r f p n)) -> rfE (againR r f p n) true = 0 := fun ⟨x, hx⟩ => (one_of hkO hx).zero _ rfl
 have e3 : (¬ ∃ x, x ∈ fromsOf (againR r f p n)) -> rfE (againR r f p n) true = 3 := fun hh => none_of hkO (fun x hx => hh ⟨x, hx⟩) rfl
 rcases (by omega : n = 0 ∨ n = 1) with rfl | rfl
 ·have hex : (∃ x, x ∈ fromsOf (againR r f p 0)) ↔ ∃ x, x ∈ fromsOf r /\ (rdL r f.toNat p.toNat x).hi > (fnd r f.toNat).minute := by
   constructor
   ·rintro ⟨x, hx⟩
    obtain ⟨b1, _, b2⟩ := (hfr x).1 hx
    exact ⟨x, b1, by have := b2 rfl; omega⟩
   ·rintro ⟨x, b1, b2⟩
    exact ⟨x, (hfr x).2 ⟨b1, fun e => by omega, fun _ => by omega⟩⟩
  by_cases c : ∃ x, x ∈ fromsOf r /\ (rdL r f.toNat p.toNat x).hi > (fnd r f.toNat).minute
  ·refine .inl ⟨e0 (hex.2 c), ?_⟩
   rw [if_pos c]
   split
   ·exact .inl rfl
   ·exact .inr (.inr ⟨rfl, rfl⟩)
  ·refine .inr ⟨e3 (fun hh => c (hex.1 hh)), ?_⟩
   rw [if_neg c]; exact .inl ⟨rfl, rfl⟩
 ·have hex : (∃ x, x ∈ fromsOf (againR r f p 1)) ↔ ∃ x, x ∈ fromsOf r /\ (rdL r f.toNat p.toNat x).lo <= (fnd r f.toNat).minute := by
   constructor
   ·rintro ⟨x, hx⟩
    obtain ⟨b1, b2, _⟩ := (hfr x).1 hx
    exact ⟨x, b1, b2 rfl⟩
   ·rintro ⟨x, b1, b2⟩
    exact ⟨x, (hfr x).2 ⟨b1, fun _ => b2, fun e => by omega⟩⟩
  by_cases c : ∃ x, x ∈ fromsOf r /\ (rdL r f.toNat p.toNat x).lo <= (fnd r f.toNat).minute
  ·refine .inl ⟨e0 (hex.2 c), ?_⟩
   rw [if_pos c]
   split
   ·exact .inl rfl
   ·exact .inr (.inl ⟨rfl, rfl⟩)
  ·refine .inr ⟨e3 (fun hh => c (hex.1 hh)), ?_⟩
   rw [if_neg c]
   have : ∃ x, x ∈ fromsOf r /\ (rdL r f.toNat p.toNat x).hi > (fnd r f.toNat).minute := ⟨y, hy, by
    have : ¬ (rdL r f.toNat p.toNat y).lo <= (fnd r f.toNat).minute := fun hh => c ⟨y, hy, hh⟩
    omega⟩
   rw [if_pos this]; exact .inr ⟨rfl, rfl⟩
theorem again_h0 {r : Run} {f p : Int} (h : (bif bif !known6 r then true else !isFound r f then true else !isPlate r p) = false) : known6 r = true /\ readIs r f p = true := by
 unfold readIs
 cases h1 : known6 r <;> cases h2 : isFound r f <;> cases h3 : isPlate r p <;> simp_all
structure AgainF (r : Run) (f p : Int) : Prop where
 one : One r
 ok : okRun r = true
 is : readIs r f p = true
 fr : 0 <= f /\ f < r.found.length
 pr : 0 <= p /\ p < (fnd r f.toNat).new.length
theorem againF0 {r : Run} {f p : Int} (h : (!bif bif !known6 r then true else !isFound r f then true else !isPlate r p) = true) : AgainF r f p := by
 obtain ⟨h1, h2⟩ := again_h0 (f := f) (p := p) (by simpa using h)
 have hO := one_known h1
 obtain ⟨a1, a2, a3, a4, _⟩ := readIs_ok hO.ok h2
 have := hO.ok.fnd f.toNat (by omega)
 refine ⟨hO, ?_, h2, ⟨a1, a2⟩, a3, by omega⟩
 simp only [known6, Bool.and_eq_true] at h1
 exact ready_ok h1.1
theorem againF {r : Run} {f p : Int} (h : (bif bif bif !known6 r then true else !isFound r f then true else !isPlate r p then true else !decide ((fnd r f.toNat).new.getD p.toNat 0 = -1)) = false) : AgainF r f p /\ (fnd r f.toNat).new.getD p.toNat 0 = -1 /\ known6 r = true := by
 have h1 : (!bif bif !known6 r then true else !isFound r f then true else !isPlate r p) = true := by
  cases e : (bif bif !known6 r then true else !isFound r f then true else !isPlate r p) with
  | true => rw [e] at h; cases h
  | false => rfl
 refine ⟨againF0 h1, ?_, (again_h0 (f := f) (p := p) (by simpa using h1)).1⟩
 have h2 : (bif bif !known6 r then true else !isFound r f then true else !isPlate r p) = false := by simpa using h1
 rw [h2] at h
 simpa using h
end Go.Sh
namespace Go.Ab
open Go Go.RowKit Go.Proofs Go.Sh Go.En
def s8 (r : Run) (f p : Int) : CallSpec := { args := [vRun r, iv f, iv p], res := bv true, pre := fits r }
def c8 (r : Run) (f p : Int) (n : Nat) (id : Nat) : CallSpec := s20o r r.machines.length f.toNat id
def h8 (r : Run) (f p : Int) : Hint := { X := Nat, M := fun n => [(9, iv n)], I := fun n => n <= 2, mu := fun n => 2 - n, x0 := (0 : Nat), nx := fun n => n + 1 }
end Go.Ab
namespace Go.Ab
open Go Go.RowKit Go.Proofs Go.Sh Go.En
abbrev q8_1 (r : Run) (f : Int) (p : Int) (C : Prop) : Prop := fits r -> (!bif bif !known6 r then true else !isFound r f then true else !isPlate r p) = true -> C
abbrev q8_2 (r : Run) (f : Int) (p : Int) (C : Prop) : Prop := fits r -> (bif bif bif !known6 r then true else !isFound r f then true else !isPlate r p then true else !decide ((fnd r f.toNat).new.getD p.toNat 0 = -1)) = false -> C
abbrev q8_3 (r : Run) (f : Int) (p : Int) (C : Prop) : Prop := q8_2 r f p ((bif !decide (openE r (readIs r f p) = 0) then true else !within (readS r f p) 1 3) = false -> C)
abbrev q8_4 (r : Run) (f : Int) (p : Int) (C : Nat -> Prop) : Prop := q8_3 r f p (∀ (x54 : Nat), x54 <= 2 -> decide ((x54 : Int) <= 1) = true -> C x54)
abbrev q8_5 (r : Run) (f : Int) (p : Int) (C : Nat -> Prop) : Prop := q8_4 r f p fun x54 => (bif bif !decide (openE (againR r f p x54) true = 0) then !decide (openE (againR r f p x54) true = 3) else false then true else !decide (openE (againR r f p x54) true = 0) == bif decide (readS r f p = 3) then true else decide (readS r f p = 1) == decide ((x54 : Int) = 1)) = false -> C x54
theorem w8 (r : Run) (f : Int) (p : Int)
 (o0 : fits r -> (!known6 r) = false -> (!!known6 r) = true)
 (o1 : fits r -> (bif !known6 r then true else !isFound r f) = false -> (!bif !known6 r then true else !isFound r f) = true)
 (o2 : q8_1 r f p (0 <= f))
 (o3 : q8_1 r f p (f < (↑(r.found.length) : Int)))
 (o4 : q8_1 r f p (0 <= p))
 (o5 : q8_1 r f p (p < (↑((fnd r f.toNat).new.length) : Int)))
 (o6 : fits r -> (bif bif !known6 r then true else !isFound r f then true else !isPlate r p) = false -> (!bif bif !known6 r then true else !isFound r f then true else !isPlate r p) = true)
 (o7 : q8_2 r f p ((!decide (openE r (readIs r f p) = 0)) = false -> (!!decide (openE r (readIs r f p) = 0)) = true))
 (o8 : q8_2 r f p ((bif !decide (openE r (readIs r f p) = 0) then true else !within (readS r f p) 1 3) = true -> false = true))
 (o9 : q8_3 r f p (0 = (↑0 : Int)))
 (o10 : q8_3 r f p (0 <= 2))
 (o11 : q8_4 r f p fun x54 => small r)
 (o12 : q8_4 r f p fun x54 => 0 <= f)
 (o13 : q8_4 r f p fun x54 => f < (↑(r.found.length) : Int))
 (o14 : q8_4 r f p fun x54 => f.toNat < r.found.length)
 (o15 : q8_4 r f p fun x54 => 0 <= p)
 (o16 : q8_4 r f p fun x54 => p < (↑(nwLen r f.toNat r.found.length) : Int))
 (o17 : q8_4 r f p fun x54 => p.toNat < nwLen r f.toNat r.found.length)
 (o18 : q8_4 r f p fun x54 => chLen r r.machines.length r.machines.length = (mach r r.machines.length).changes.length)
 (o19 : q8_4 r f p fun x54 => ∀ (i60 : Nat), i60 < (mach r r.machines.length).changes.length -> cSpan (chg (mach r r.machines.length) i60) = [iv ((mach r r.machines.length).changes.getD i60 default).lo, iv ((mach r r.machines.length).changes.getD i60 default).hi])
 (o20 : q8_4 r f p fun x54 => ∀ (i62 : Nat), i62 < r.found.length -> i62 ≠ f.toNat -> cFnd (fnd r i62) = cFnd (fnd (againR r f p x54) i62))
 (o21 : q8_4 r f p fun x54 => (fnd r f.toNat).minute = (fnd (againR r f p x54) f.toNat).minute)
 (o22 : q8_4 r f p fun x54 => nwLen r f.toNat r.found.length = (fnd (againR r f p x54) f.toNat).new.length)
 (o23 : q8_4 r f p fun x54 => ∀ (i65 : Nat), i65 < (fnd (againR r f p x54) f.toNat).new.length -> Decidable.rec (fun (h : ¬i65 = p.toNat) => [iv ((fnd r f.toNat).new.getD i65 0)]) (fun (h : i65 = p.toNat) => [iv (x54 : Int)] ++ []) (instDecidableEqNat i65 p.toNat) = [iv ((fnd (againR r f p x54) f.toNat).new.getD i65 0)])
 (o24 : q8_4 r f p fun x54 => (fnd r f.toNat).frm.length = (fnd (againR r f p x54) f.toNat).frm.length)
 (o25 : q8_4 r f p fun x54 => ∀ (i67 : Nat), i67 < (fnd (againR r f p x54) f.toNat).frm.length -> [iv ((fnd r f.toNat).frm.getD i67 0)] = [iv ((fnd (againR r f p x54) f.toNat).frm.getD i67 0)])
 (o26 : q8_4 r f p fun x54 => r.plates = (againR r f p x54).plates)
 (o27 : q8_4 r f p fun x54 => r.last = (againR r f p x54).last)
 (o28 : q8_4 r f p fun x54 => r.machines.length = (againR r f p x54).machines.length)
 (o29 : q8_4 r f p fun x54 => ∀ (i69 : Nat), i69 < (againR r f p x54).machines.length -> cMach (mach r i69) = cMach (mach (againR r f p x54) i69))
 (o30 : q8_4 r f p fun x54 => r.found.length = (againR r f p x54).found.length)
 (o31 : q8_4 r f p fun x54 => fits (againR r f p x54))
 (o32 : q8_4 r f p fun x54 => decide (readS r f p = 3) = false -> (!decide (readS r f p = 3)) = true)
 (o33 : q8_4 r f p fun x54 => (bif !decide (openE (againR r f p x54) true = 0) then !decide (openE (againR r f p x54) true = 3) else false) = false -> (!bif !decide (openE (againR r f p x54) true = 0) then !decide (openE (againR r f p x54) true = 3) else false) = true)
 (o34 : q8_4 r f p fun x54 => (bif bif !decide (openE (againR r f p x54) true = 0) then !decide (openE (againR r f p x54) true = 3) else false then true else !decide (openE (againR r f p x54) true = 0) == bif decide (readS r f p = 3) then true else decide (readS r f p = 1) == decide ((x54 : Int) = 1)) = true -> false = true)
 (o35 : q8_5 r f p fun x54 => inI ((x54 : Int) + 1))
 (o36 : q8_5 r f p fun x54 => (x54 : Int) + 1 = (↑(x54 + 1) : Int))
 (o37 : q8_5 r f p fun x54 => x54 + 1 <= 2)
 (o38 : q8_5 r f p fun x54 => 2 - (x54 + 1) < 2 - x54) :
  Triple Try.prog 8 (s8 r f p) := by
 refine triple_of Try.func8 rfl Try.call8 T0_ok _ rfl rfl rfl rfl (Nat.le_of_ble_eq_true (by kernel_rfl)) (fun _ _ _ _ h => h) ?_
 intro hp C hC _ hE
 obtain ⟨P, w0, E0, av, hA⟩ := C
 subst hC
 refine swp_seq ?_
 refine sR (kt := [1, 2, 3]) (kh := [0]) (q := True /\ True /\ True) (st' := ASt.mk [(1, iv f), (2, iv p), (3, .ptr 0 [])] [(0, .cells 25 (cRun r))] 16) (by kernel_rfl) ⟨tv, tv, tv⟩ ?_
 refine swp_seq (swp_seq ?_)
 refine swp_region T0_ok mixed (cs := [(1, CallSpec.eq (s21 r) [true]), (6, CallSpec.eq (s45 r f) [true, true]), (12, CallSpec.eq (s25 r p) [true, true])]) (kt := [1, 2, 3, 40]) (kh := [0]) (q := True /\ ((AV.agg (cRun r) = AV.agg (cRun r) /\ True) /\ Triple Try.prog 21 (s21 r) /\ fits r /\ True /\ ∀ (i0 : Env), True) /\ True /\ True /\ ((!!known6 r) = true -> (True /\ True) /\ True) /\ ((!!known6 r) = true -> (True /\ True) /\ True) /\ ((!!known6 r) = true -> (True /\ ((!!known6 r) = true -> (!!known6 r) = true) /\ ((!!known6 r) = true -> (!!known6 r) = true) /\ True) /\ (AV.agg (cRun r) = AV.agg (cRun r) /\ iv f = iv f /\ True) /\ Triple Try.prog 45 (s45 r f) /\ fits r /\ True /\ ∀ (i6 : Env), True) /\ ((!!known6 r) = true -> (((!!known6 r) = true -> (!!known6 r) = true) /\ True) /\ True) /\ (((!known6 r) = true -> True) /\ ((!known6 r) = false -> (!!known6 r) = true)) /\ True /\ ((!bif !known6 r then true else !isFound r f) = true -> (True /\ True) /\ True) /\ ((!bif !known6 r then true else !isFound r f) = true -> (True /\ True) /\ True) /\ ((!bif !known6 r then true else !isFound r f) = true -> (True /\ ((!bif !known6 r then true else !isFound r f) = true -> (!bif !known6 r then true else !isFound r f) = true) /\ ((!bif !known6 r then true else !isFound r f) = true -> (!bif !known6 r then true else !isFound r f) = true) /\ True) /\ (AV.agg (cRun r) = AV.agg (cRun r) /\ iv p = iv p /\ True) /\ Triple Try.prog 25 (s25 r p) /\ fits r /\ True /\ ∀ (i16 : Env), True) /\ ((!bif !known6 r then true else !isFound r f) = true -> (((!bif !known6 r then true else !isFound r f) = true -> (!bif !known6 r then true else !isFound r f) = true) /\ True) /\ True) /\ (((bif !known6 r then true else !isFound r f) = true -> True) /\ ((bif !known6 r then true else !isFound r f) = false -> (!bif !known6 r then true else !isFound r f) = true)) /\ True /\ ((!bif bif !known6 r then true else !isFound r f then true else !isPlate r p) = true -> (True /\ True) /\ True) /\ ((!bif bif !known6 r then true else !isFound r f then true else !isPlate r p) = true -> (((!bif bif !known6 r then true else !isFound r f then true else !isPlate r p) = true -> (!bif bif !known6 r then true else !isFound r f then true else !isPlate r p) = true) /\ True) /\ True) /\ ((!bif bif !known6 r then true else !isFound r f then true else !isPlate r p) = true -> (True /\ True) /\ True) /\ ((!bif bif !known6 r then true else !isFound r f then true else !isPlate r p) = true -> (((!bif bif !known6 r then true else !isFound r f then true else !isPlate r p) = true -> (!bif bif !known6 r then true else !isFound r f then true else !isPlate r p) = true) /\ ((!bif bif !known6 r then true else !isFound r f then true else !isPlate r p) = true -> (!bif bif !known6 r then true else !isFound r f then true else !isPlate r p) = true) /\ True) /\ 0 <= f /\ f < (↑(r.found.length) : Int)) /\ ((!bif bif !known6 r then true else !isFound r f then true else !isPlate r p) = true -> (((!bif bif !known6 r then true else !isFound r f then true else !isPlate r p) = true -> (!bif bif !known6 r then true else !isFound r f then true else !isPlate r p) = true) /\ True) /\ True) /\ ((!bif bif !known6 r then true else !isFound r f then true else !isPlate r p) = true -> (((!bif bif !known6 r then true else !isFound r f then true else !isPlate r p) = true -> (!bif bif !known6 r then true else !isFound r f then true else !isPlate r p) = true) /\ True) /\ True) /\ ((!bif bif !known6 r then true else !isFound r f then true else !isPlate r p) = true -> (True /\ True) /\ True) /\ ((!bif bif !known6 r then true else !isFound r f then true else !isPlate r p) = true -> (((!bif bif !known6 r then true else !isFound r f then true else !isPlate r p) = true -> (!bif bif !known6 r then true else !isFound r f then true else !isPlate r p) = true) /\ ((!bif bif !known6 r then true else !isFound r f then true else !isPlate r p) = true -> (!bif bif !known6 r then true else !isFound r f then true else !isPlate r p) = true) /\ True) /\ 0 <= p /\ p < (↑((fnd r f.toNat).new.length) : Int)) /\ ((!bif bif !known6 r then true else !isFound r f then true else !isPlate r p) = true -> (((!bif bif !known6 r then true else !isFound r f then true else !isPlate r p) = true -> (!bif bif !known6 r then true else !isFound r f then true else !isPlate r p) = true) /\ True) /\ True) /\ ((!bif bif !known6 r then true else !isFound r f then true else !isPlate r p) = true -> (((!bif bif !known6 r then true else !isFound r f then true else !isPlate r p) = true -> (!bif bif !known6 r then true else !isFound r f then true else !isPlate r p) = true) /\ True /\ True) /\ True) /\ (((bif bif !known6 r then true else !isFound r f then true else !isPlate r p) = true -> True) /\ ((bif bif !known6 r then true else !isFound r f then true else !isPlate r p) = false -> (!bif bif !known6 r then true else !isFound r f then true else !isPlate r p) = true)) /\ True) (st' := ASt.mk [(1, iv f), (2, iv p), (3, .ptr 0 []), (40, bv (bif bif bif !known6 r then true else !isFound r f then true else !isPlate r p then true else !decide ((fnd r f.toNat).new.getD p.toNat 0 = -1)))] [(0, .cells 25 (cRun r))] 232) (by kernel_rfl) ⟨tv, ⟨⟨rfl, tv⟩, (t21 (r)), hp, tv, (fun i0 => tv)⟩, tv, tv, (fun h1 => ⟨⟨tv, tv⟩, tv⟩), (fun h2 => ⟨⟨tv, tv⟩, tv⟩), (fun h3 => ⟨⟨tv, (fun h4 => h3), (fun h5 => h3), tv⟩, ⟨rfl, rfl, tv⟩, (t45 (r) (f)), hp, tv, (fun i6 => tv)⟩), (fun h7 => ⟨⟨(fun h8 => h7), tv⟩, tv⟩), ⟨(fun h9 => tv), (fun h10 => (o0 hp h10))⟩, tv, (fun h11 => ⟨⟨tv, tv⟩, tv⟩), (fun h12 => ⟨⟨tv, tv⟩, tv⟩), (fun h13 => ⟨⟨tv, (fun h14 => h13), (fun h15 => h13), tv⟩, ⟨rfl, rfl, tv⟩, (t25 (r) (p)), hp, tv, (fun i16 => tv)⟩), (fun h17 => ⟨⟨(fun h18 => h17), tv⟩, tv⟩), ⟨(fun h19 => tv), (fun h20 => (o1 hp h20))⟩, tv, (fun h21 => ⟨⟨tv, tv⟩, tv⟩), (fun h22 => ⟨⟨(fun h23 => h22), tv⟩, tv⟩), (fun h24 => ⟨⟨tv, tv⟩, tv⟩), (fun h25 => ⟨⟨(fun h26 => h25), (fun h27 => h25), tv⟩, (o2 hp h25), (o3 hp h25)⟩), (fun h28 => ⟨⟨(fun h29 => h28), tv⟩, tv⟩), (fun h30 => ⟨⟨(fun h31 => h30), tv⟩, tv⟩), (fun h32 => ⟨⟨tv, tv⟩, tv⟩), (fun h33 => ⟨⟨(fun h34 => h33), (fun h35 => h33), tv⟩, (o4 hp h33), (o5 hp h33)⟩), (fun h36 => ⟨⟨(fun h37 => h36), tv⟩, tv⟩), (fun h38 => ⟨⟨(fun h39 => h38), tv, tv⟩, tv⟩), ⟨(fun h40 => tv), (fun h41 => (o6 hp h41))⟩, tv⟩ ?_
 refine swp_cond (bif bif bif !known6 r then true else !isFound r f then true else !isPlate r p then true else !decide ((fnd r f.toNat).new.getD p.toNat 0 = -1)) (by kernel_rfl) (fun h42 => ?_) (fun h42 => ?_)
 ·refine swp_seq ?_
  refine swp_region T0_ok mixed (cs := [(0, CallSpec.eq s19 [])]) (kt := [6]) (kh := []) (q := (True /\ Triple Try.prog 19 s19 /\ True /\ True /\ ∀ (i43 : Env), True) /\ True /\ True) (st' := ASt.mk [(6, bv true)] [] 248) (by kernel_rfl) ⟨⟨tv, (t19), tv, tv, (fun i43 => tv)⟩, tv, tv⟩ ?_
  refine swp_ret ?_
  exact ret_q [] ((True /\ True) /\ (bv true = bv true /\ nilN = []) /\ T3) (by kernel_rfl) ⟨⟨tv, tv⟩, ⟨rfl, rfl⟩, rfl, rfl, rfl⟩
 ·refine swp_skip (swp_seq ?_)
  refine swp_region T0_ok mixed (cs := [(3, CallSpec.eq (s31 r f p) [true, true, true])]) (kt := [1, 2, 3, 7, 8]) (kh := [0]) (q := True /\ True /\ True /\ ((AV.agg (cRun r) = AV.agg (cRun r) /\ iv f = iv f /\ iv p = iv p /\ True) /\ Triple Try.prog 31 (s31 r f p) /\ fits r /\ True /\ ∀ (i44 : Env), True) /\ True /\ True /\ True /\ True /\ True /\ True) (st' := ASt.mk [(1, iv f), (2, iv p), (3, .ptr 0 []), (7, iv (readS r f p)), (8, iv (openE r (readIs r f p)))] [(0, .cells 25 (cRun r))] 304) (by kernel_rfl) ⟨tv, tv, tv, ⟨⟨rfl, rfl, rfl, tv⟩, (t31 (r) (f) (p)), hp, tv, (fun i44 => tv)⟩, tv, tv, tv, tv, tv, tv⟩ ?_
  refine swp_seq (swp_seq ?_)
  refine swp_region T0_ok mixed (cs := [(4, CallSpec.eq (s24 (readS r f p) 1 3) [true, true, true])]) (kt := [1, 2, 3, 7, 55]) (kh := [0]) (q := True /\ True /\ True /\ ((!!decide (openE r (readIs r f p) = 0)) -> (True /\ True) /\ True) /\ ((!!decide (openE r (readIs r f p) = 0)) -> (True /\ ((!!decide (openE r (readIs r f p) = 0)) -> (!!decide (openE r (readIs r f p) = 0)) = true) /\ True /\ True /\ True) /\ (iv (readS r f p) = iv (readS r f p) /\ iv 1 = iv 1 /\ iv 3 = iv 3 /\ True) /\ Triple Try.prog 24 (s24 (readS r f p) 1 3) /\ True /\ True /\ ∀ (i48 : Env), True) /\ ((!!decide (openE r (readIs r f p) = 0)) -> (((!!decide (openE r (readIs r f p) = 0)) -> (!!decide (openE r (readIs r f p) = 0)) = true) /\ True) /\ True) /\ (((!decide (openE r (readIs r f p) = 0)) -> True) /\ ((!decide (openE r (readIs r f p) = 0)) = false -> (!!decide (openE r (readIs r f p) = 0)) = true)) /\ True) (st' := ASt.mk [(1, iv f), (2, iv p), (3, .ptr 0 []), (7, iv (readS r f p)), (55, bv (bif !decide (openE r (readIs r f p) = 0) then true else !within (readS r f p) 1 3))] [(0, .cells 25 (cRun r))] 360) (by kernel_rfl) ⟨tv, tv, tv, (fun h45 => ⟨⟨tv, tv⟩, tv⟩), (fun h46 => ⟨⟨tv, (fun h47 => h46), tv, tv, tv⟩, ⟨rfl, rfl, rfl, tv⟩, (t24 (readS r f p) (1) (3)), tv, tv, (fun i48 => tv)⟩), (fun h49 => ⟨⟨(fun h50 => h49), tv⟩, tv⟩), ⟨(fun h51 => tv), (fun h52 => (o7 hp h42 h52))⟩, tv⟩ ?_
  refine swp_cond (bif !decide (openE r (readIs r f p) = 0) then true else !within (readS r f p) 1 3) (by kernel_rfl) (fun h53 => ?_) (fun h53 => ?_)
  ·refine swp_seq ?_
   refine sR (kt := [6]) (kh := []) (q := True /\ True) (st' := ASt.mk [(6, bv false)] [] 368) (by kernel_rfl) ⟨tv, tv⟩ ?_
   refine swp_ret ?_
   exact ret_q [] ((True /\ True) /\ (bv false = bv true /\ nilN = []) /\ T3) (by kernel_rfl) ⟨⟨tv, tv⟩, ⟨(congrArg bv (o8 hp h42 h53)), rfl⟩, rfl, rfl, rfl⟩
  ·refine swp_skip (swp_seq (swp_seq ?_))
   refine sR (kt := [1, 2, 3, 7, 9]) (kh := [0]) (q := True /\ True) (st' := ASt.mk [(1, iv f), (2, iv p), (3, .ptr 0 []), (7, iv (readS r f p)), (9, iv 0)] [(0, .cells 25 (cRun r))] 368) (by kernel_rfl) ⟨tv, tv⟩ ?_
   refine swp_block ?_
   refine swp_loopA (Hint.ann (h8 r f p) [(1, iv f), (2, iv p), (3, AV.ptr 0 []), (7, iv (readS r f p))] [(0, OB.cells 25 (cRun r))] 10368) (ent_q hE [] [(0, .same 0)] [1, 2, 7] [0] (((iv f = iv f /\ true = true) /\ (iv p = iv p /\ true = true) /\ (some (Src.same 0) = some (Src.same 0) /\ nilP = []) /\ (iv (readS r f p) = iv (readS r f p) /\ true = true) /\ (iv 0 = iv (↑0 : Int) /\ nilN = []) /\ True) /\ ((OB.cells 25 (cRun r) = OB.cells 25 (cRun r) /\ true = true) /\ True) /\ T2) (by kernel_rfl) (by kernel_rfl) ⟨⟨⟨rfl, rfl⟩, ⟨rfl, rfl⟩, ⟨rfl, rfl⟩, ⟨rfl, rfl⟩, ⟨(congrArg iv (o9 hp h42 h53)), rfl⟩, tv⟩, ⟨⟨rfl, rfl⟩, tv⟩, rfl, rfl⟩) (o10 hp h42 h53) (fun (x54 : Nat) hx54 => ?_)
   refine swp_seq (swp_seq ?_)
   refine sR (kt := [1, 2, 3, 7, 9, 57]) (kh := [0]) (q := True /\ True /\ True) (st' := ASt.mk [(1, iv f), (2, iv p), (3, .ptr 0 []), (7, iv (readS r f p)), (9, iv (x54 : Int)), (57, bv (decide ((x54 : Int) <= 1)))] [(0, .cells 25 (cRun r))] 10384) (by kernel_rfl) ⟨tv, tv, tv⟩ ?_
   refine swp_cond (decide ((x54 : Int) <= 1)) (by kernel_rfl) (fun h55 => ?_) (fun h55 => ?_)
   ·refine swp_skip (swp_seq (swp_block (swp_seq ?_)))
    refine swp_region T0_ok mixed (cs := [(1, CallSpec.eq (c8 r f p x54 10392) [true])]) (kt := [1, 2, 3, 7, 9, 10]) (kh := [0, 10400, 10392, 10393, 10395, 10394]) (q := True /\ ((AV.agg (cRun r) = AV.agg (cRun r) /\ True) /\ Triple Try.prog 20 (c8 r f p x54 10392) /\ small r /\ True /\ ∀ (i56 : Env), True) /\ True /\ True /\ True) (st' := ASt.mk [(1, iv f), (2, iv p), (3, .ptr 0 []), (7, iv (readS r f p)), (9, iv (x54 : Int)), (10, .ptr 10400 [])] [(0, .cells 25 (cRun r)), (10400, .cells 25 [iv r.plates, iv r.last, .vec 10392, .vec 10393]), (10392, .vecx 42 2 r.machines.length (fun (k : Nat) => cMach (mach r k)) r.machines.length [.vec 10394, iv (mach r r.machines.length).rate]), (10393, .vecx 32 3 r.found.length (fun (k : Nat) => cFnd (fnd r k)) f.toNat [iv (fnd r f.toNat).minute, .vec 10395, .sl 1 (fnd r f.toNat).frm.length fun (i : Nat) => [iv ((fnd r f.toNat).frm.getD i 0)]]), (10395, .vec 3 1 (nwLen r f.toNat r.found.length) fun (p : Nat) => [iv ((fnd r f.toNat).new.getD p 0)]), (10394, .vec 37 2 (chLen r r.machines.length r.machines.length) fun (p : Nat) => cSpan (chg (mach r r.machines.length) p))] 10416) (by kernel_rfl) ⟨tv, ⟨⟨rfl, tv⟩, (t20o (r) r.machines.length f.toNat (10392)), (o11 hp h42 h53 x54 hx54 h55), tv, (fun i56 => tv)⟩, tv, tv, tv⟩ ?_
    refine swp_seq ?_
    refine sR (kt := [1, 2, 3, 7, 9, 10]) (kh := [0, 10400, 10392, 10393, 10394, 10395]) (q := True /\ True /\ True /\ (0 <= f /\ f < (↑(r.found.length) : Int)) /\ True /\ (f.toNat = f.toNat /\ f.toNat < r.found.length /\ True) /\ True /\ True /\ (0 <= p /\ p < (↑(nwLen r f.toNat r.found.length) : Int)) /\ (p.toNat < nwLen r f.toNat r.found.length /\ True) /\ True) (st' := ASt.mk [(1, iv f), (2, iv p), (3, .ptr 0 []), (7, iv (readS r f p)), (9, iv (x54 : Int)), (10, .ptr 10400 [])] [(0, .cells 25 (cRun r)), (10400, .cells 25 [iv r.plates, iv r.last, .vec 10392, .vec 10393]), (10392, .vecx 42 2 r.machines.length (fun (k : Nat) => cMach (mach r k)) r.machines.length [.vec 10394, iv (mach r r.machines.length).rate]), (10393, .vecx 32 3 r.found.length (fun (k : Nat) => cFnd (fnd r k)) f.toNat [iv (fnd r f.toNat).minute, .vec 10395, .sl 1 (fnd r f.toNat).frm.length fun (i : Nat) => [iv ((fnd r f.toNat).frm.getD i 0)]]), (10394, .vec 37 2 (chLen r r.machines.length r.machines.length) fun (p : Nat) => cSpan (chg (mach r r.machines.length) p)), (10395, .vec 3 1 (nwLen r f.toNat r.found.length) fun (j : Nat) => Decidable.rec (fun (h : ¬j = p.toNat) => [iv ((fnd r f.toNat).new.getD j 0)]) (fun (h : j = p.toNat) => [iv (x54 : Int)] ++ []) (instDecidableEqNat j p.toNat))] 10496) (by kernel_rfl) ⟨tv, tv, tv, ⟨(o12 hp h42 h53 x54 hx54 h55), (o13 hp h42 h53 x54 hx54 h55)⟩, tv, ⟨rfl, (o14 hp h42 h53 x54 hx54 h55), tv⟩, tv, tv, ⟨(o15 hp h42 h53 x54 hx54 h55), (o16 hp h42 h53 x54 hx54 h55)⟩, ⟨(o17 hp h42 h53 x54 hx54 h55), tv⟩, tv⟩ ?_
    refine swp_seq ?_
    refine swp_ent (ent_q (st2 := ASt.mk [(1, iv f), (2, iv p), (3, AV.ptr 0 []), (7, iv (readS r f p)), (9, iv (x54 : Int)), (10, AV.ptr 10400 [])] [(10392, OB.vec 42 2 r.machines.length fun (k : Nat) => cMach (mach r k)), (10393, OB.vec 32 3 r.found.length fun (k : Nat) => cFnd (fnd (againR r f p x54) k)), (0, OB.cells 25 (cRun r)), (10400, OB.cells 25 [iv r.plates, iv r.last, AV.vec 10392, AV.vec 10393])] 10496) hE [10394, 10395] [(0, .same 0), (10400, .same 10400), (10392, .same 10392), (10393, .same 10393)] [1, 2, 7, 9] [0] (((iv f = iv f /\ true = true) /\ (iv p = iv p /\ true = true) /\ (some (Src.same 0) = some (Src.same 0) /\ nilP = []) /\ (iv (readS r f p) = iv (readS r f p) /\ true = true) /\ (iv (x54 : Int) = iv (x54 : Int) /\ true = true) /\ (some (Src.same 10400) = some (Src.same 10400) /\ nilP = []) /\ True) /\ ((42 = 42 /\ 2 = 2 /\ r.machines.length = r.machines.length /\ (∀ (i57 : Nat), i57 < r.machines.length -> i57 ≠ r.machines.length -> cMach (mach r i57) = cMach (mach r i57)) /\ ((2 = 2 /\ chLen r r.machines.length r.machines.length = (mach r r.machines.length).changes.length /\ ∀ (i60 : Nat), i60 < (mach r r.machines.length).changes.length -> cSpan (chg (mach r r.machines.length) i60) = [iv ((mach r r.machines.length).changes.getD i60 default).lo, iv ((mach r r.machines.length).changes.getD i60 default).hi]) /\ (iv (mach r r.machines.length).rate = iv (mach r r.machines.length).rate /\ nilN = []) /\ True) /\ T2) /\ (32 = 32 /\ 3 = 3 /\ r.found.length = r.found.length /\ (∀ (i62 : Nat), i62 < r.found.length -> i62 ≠ f.toNat -> cFnd (fnd r i62) = cFnd (fnd (againR r f p x54) i62)) /\ ((iv (fnd r f.toNat).minute = iv (fnd (againR r f p x54) f.toNat).minute /\ nilN = []) /\ (1 = 1 /\ nwLen r f.toNat r.found.length = (fnd (againR r f p x54) f.toNat).new.length /\ ∀ (i65 : Nat), i65 < (fnd (againR r f p x54) f.toNat).new.length -> Decidable.rec (fun (h : ¬i65 = p.toNat) => [iv ((fnd r f.toNat).new.getD i65 0)]) (fun (h : i65 = p.toNat) => [iv (x54 : Int)] ++ []) (instDecidableEqNat i65 p.toNat) = [iv ((fnd (againR r f p x54) f.toNat).new.getD i65 0)]) /\ (1 = 1 /\ (fnd r f.toNat).frm.length = (fnd (againR r f p x54) f.toNat).frm.length /\ ∀ (i67 : Nat), i67 < (fnd (againR r f p x54) f.toNat).frm.length -> [iv ((fnd r f.toNat).frm.getD i67 0)] = [iv ((fnd (againR r f p x54) f.toNat).frm.getD i67 0)]) /\ True) /\ T2) /\ (OB.cells 25 (cRun r) = OB.cells 25 (cRun r) /\ true = true) /\ (25 = 25 /\ ((iv r.plates = iv r.plates /\ nilN = []) /\ (iv r.last = iv r.last /\ nilN = []) /\ some (Src.same 10392) = some (Src.same 10392) /\ some (Src.same 10393) = some (Src.same 10393) /\ True) /\ true = true) /\ True) /\ T2) (by kernel_rfl) (by kernel_rfl) ⟨⟨⟨rfl, rfl⟩, ⟨rfl, rfl⟩, ⟨rfl, rfl⟩, ⟨rfl, rfl⟩, ⟨rfl, rfl⟩, ⟨rfl, rfl⟩, tv⟩, ⟨⟨rfl, rfl, rfl, (fun i57 => (fun h58 => (fun h59 => rfl))), ⟨⟨rfl, (o18 hp h42 h53 x54 hx54 h55), (fun i60 => (fun h61 => (o19 hp h42 h53 x54 hx54 h55 i60 h61)))⟩, ⟨rfl, rfl⟩, tv⟩, rfl, rfl⟩, ⟨rfl, rfl, rfl, (fun i62 => (fun h63 => (fun h64 => (o20 hp h42 h53 x54 hx54 h55 i62 h63 h64)))), ⟨⟨(congrArg iv (o21 hp h42 h53 x54 hx54 h55)), rfl⟩, ⟨rfl, (o22 hp h42 h53 x54 hx54 h55), (fun i65 => (fun h66 => (o23 hp h42 h53 x54 hx54 h55 i65 h66)))⟩, ⟨rfl, (o24 hp h42 h53 x54 hx54 h55), (fun i67 => (fun h68 => (o25 hp h42 h53 x54 hx54 h55 i67 h68)))⟩, tv⟩, rfl, rfl⟩, ⟨rfl, rfl⟩, ⟨rfl, ⟨⟨rfl, rfl⟩, ⟨rfl, rfl⟩, rfl, rfl, tv⟩, rfl⟩, tv⟩, rfl, rfl⟩) ?_
    refine swp_ent (ent_q (st2 := ASt.mk [(1, iv f), (2, iv p), (3, AV.ptr 0 []), (7, iv (readS r f p)), (9, iv (x54 : Int)), (10, AV.ptr 10400 [])] [(10400, OB.cells 25 (cRun (againR r f p x54))), (0, OB.cells 25 (cRun r))] 10496) hE [10392, 10393] [(0, .same 0), (10400, .same 10400)] [1, 2, 7, 9] [0] (((iv f = iv f /\ true = true) /\ (iv p = iv p /\ true = true) /\ (some (Src.same 0) = some (Src.same 0) /\ nilP = []) /\ (iv (readS r f p) = iv (readS r f p) /\ true = true) /\ (iv (x54 : Int) = iv (x54 : Int) /\ true = true) /\ (some (Src.same 10400) = some (Src.same 10400) /\ nilP = []) /\ True) /\ ((25 = 25 /\ ((iv r.plates = iv (againR r f p x54).plates /\ nilN = []) /\ (iv r.last = iv (againR r f p x54).last /\ nilN = []) /\ (2 = 2 /\ r.machines.length = (againR r f p x54).machines.length /\ ∀ (i69 : Nat), i69 < (againR r f p x54).machines.length -> cMach (mach r i69) = cMach (mach (againR r f p x54) i69)) /\ (3 = 3 /\ r.found.length = (againR r f p x54).found.length /\ ∀ (i71 : Nat), i71 < (againR r f p x54).found.length -> cFnd (fnd (againR r f p x54) i71) = cFnd (fnd (againR r f p x54) i71)) /\ True) /\ true = true) /\ (OB.cells 25 (cRun r) = OB.cells 25 (cRun r) /\ true = true) /\ True) /\ T2) (by kernel_rfl) (by kernel_rfl) ⟨⟨⟨rfl, rfl⟩, ⟨rfl, rfl⟩, ⟨rfl, rfl⟩, ⟨rfl, rfl⟩, ⟨rfl, rfl⟩, ⟨rfl, rfl⟩, tv⟩, ⟨⟨rfl, ⟨⟨(congrArg iv (o26 hp h42 h53 x54 hx54 h55)), rfl⟩, ⟨(congrArg iv (o27 hp h42 h53 x54 hx54 h55)), rfl⟩, ⟨rfl, (o28 hp h42 h53 x54 hx54 h55), (fun i69 => (fun h70 => (o29 hp h42 h53 x54 hx54 h55 i69 h70)))⟩, ⟨rfl, (o30 hp h42 h53 x54 hx54 h55), (fun i71 => (fun h72 => rfl))⟩, tv⟩, rfl⟩, ⟨rfl, rfl⟩, tv⟩, rfl, rfl⟩) ?_
    refine swp_region T0_ok mixed (cs := [(1, CallSpec.eq (s41 (againR r f p x54)) [true])]) (kt := [1, 2, 3, 7, 9, 12]) (kh := [0]) (q := True /\ ((AV.agg (cRun (againR r f p x54)) = AV.agg (cRun (againR r f p x54)) /\ True) /\ Triple Try.prog 41 (s41 (againR r f p x54)) /\ fits (againR r f p x54) /\ True /\ ∀ (i73 : Env), True) /\ True /\ True /\ True /\ True /\ True /\ True /\ True) (st' := ASt.mk [(1, iv f), (2, iv p), (3, .ptr 0 []), (7, iv (readS r f p)), (9, iv (x54 : Int)), (12, iv (openE (againR r f p x54) true))] [(0, .cells 25 (cRun r))] 10560) (by kernel_rfl) ⟨tv, ⟨⟨rfl, tv⟩, (t41 (againR r f p x54)), (o31 hp h42 h53 x54 hx54 h55), tv, (fun i73 => tv)⟩, tv, tv, tv, tv, tv, tv, tv⟩ ?_
    refine swp_seq ?_
    refine sR (kt := [1, 2, 3, 7, 9, 12, 13]) (kh := [0]) (q := True /\ True /\ True /\ ((!decide (readS r f p = 3)) -> (True /\ True) /\ True) /\ ((!decide (readS r f p = 3)) -> (((!decide (readS r f p = 3)) -> (!decide (readS r f p = 3)) = true) /\ True /\ True) /\ True) /\ ((!decide (readS r f p = 3)) -> (True /\ True) /\ True) /\ ((!decide (readS r f p = 3)) -> (((!decide (readS r f p = 3)) -> (!decide (readS r f p = 3)) = true) /\ True /\ True) /\ True) /\ ((!decide (readS r f p = 3)) -> (((!decide (readS r f p = 3)) -> (!decide (readS r f p = 3)) = true) /\ ((!decide (readS r f p = 3)) -> (!decide (readS r f p = 3)) = true) /\ True) /\ True) /\ ((decide (readS r f p = 3) = true -> True) /\ (decide (readS r f p = 3) = false -> (!decide (readS r f p = 3)) = true)) /\ True /\ True) (st' := ASt.mk [(1, iv f), (2, iv p), (3, .ptr 0 []), (7, iv (readS r f p)), (9, iv (x54 : Int)), (12, iv (openE (againR r f p x54) true)), (13, bv (bif decide (readS r f p = 3) then true else decide (readS r f p = 1) == decide ((x54 : Int) = 1)))] [(0, .cells 25 (cRun r))] 10640) (by kernel_rfl) ⟨tv, tv, tv, (fun h74 => ⟨⟨tv, tv⟩, tv⟩), (fun h75 => ⟨⟨(fun h76 => h75), tv, tv⟩, tv⟩), (fun h77 => ⟨⟨tv, tv⟩, tv⟩), (fun h78 => ⟨⟨(fun h79 => h78), tv, tv⟩, tv⟩), (fun h80 => ⟨⟨(fun h81 => h80), (fun h82 => h80), tv⟩, tv⟩), ⟨(fun h83 => tv), (fun h84 => (o32 hp h42 h53 x54 hx54 h55 h84))⟩, tv, tv⟩ ?_
    refine swp_seq ?_
    refine sR (kt := [1, 2, 3, 7, 9, 96]) (kh := [0]) (q := True /\ True /\ True /\ ((!decide (openE (againR r f p x54) true = 0)) -> (True /\ True) /\ True) /\ ((!decide (openE (againR r f p x54) true = 0)) -> (((!decide (openE (againR r f p x54) true = 0)) -> (!decide (openE (againR r f p x54) true = 0)) = true) /\ True /\ True) /\ True) /\ (((!decide (openE (againR r f p x54) true = 0)) -> (!decide (openE (againR r f p x54) true = 0)) = true) /\ ((!decide (openE (againR r f p x54) true = 0)) = false -> True)) /\ True /\ ((!bif !decide (openE (againR r f p x54) true = 0) then !decide (openE (againR r f p x54) true = 3) else false) = true -> (True /\ True) /\ True) /\ ((!bif !decide (openE (againR r f p x54) true = 0) then !decide (openE (againR r f p x54) true = 3) else false) = true -> (((!bif !decide (openE (againR r f p x54) true = 0) then !decide (openE (againR r f p x54) true = 3) else false) = true -> (!bif !decide (openE (againR r f p x54) true = 0) then !decide (openE (againR r f p x54) true = 3) else false) = true) /\ True /\ True) /\ True) /\ ((!bif !decide (openE (againR r f p x54) true = 0) then !decide (openE (againR r f p x54) true = 3) else false) = true -> (True /\ True) /\ True) /\ ((!bif !decide (openE (againR r f p x54) true = 0) then !decide (openE (againR r f p x54) true = 3) else false) = true -> (((!bif !decide (openE (againR r f p x54) true = 0) then !decide (openE (againR r f p x54) true = 3) else false) = true -> (!bif !decide (openE (againR r f p x54) true = 0) then !decide (openE (againR r f p x54) true = 3) else false) = true) /\ ((!bif !decide (openE (againR r f p x54) true = 0) then !decide (openE (againR r f p x54) true = 3) else false) = true -> (!bif !decide (openE (againR r f p x54) true = 0) then !decide (openE (againR r f p x54) true = 3) else false) = true) /\ True) /\ True) /\ (((bif !decide (openE (againR r f p x54) true = 0) then !decide (openE (againR r f p x54) true = 3) else false) = true -> True) /\ ((bif !decide (openE (againR r f p x54) true = 0) then !decide (openE (againR r f p x54) true = 3) else false) = false -> (!bif !decide (openE (againR r f p x54) true = 0) then !decide (openE (againR r f p x54) true = 3) else false) = true)) /\ True) (st' := ASt.mk [(1, iv f), (2, iv p), (3, .ptr 0 []), (7, iv (readS r f p)), (9, iv (x54 : Int)), (96, bv (bif bif !decide (openE (againR r f p x54) true = 0) then !decide (openE (againR r f p x54) true = 3) else false then true else !decide (openE (againR r f p x54) true = 0) == bif decide (readS r f p = 3) then true else decide (readS r f p = 1) == decide ((x54 : Int) = 1)))] [(0, .cells 25 (cRun r))] 10736) (by kernel_rfl) ⟨tv, tv, tv, (fun h85 => ⟨⟨tv, tv⟩, tv⟩), (fun h86 => ⟨⟨(fun h87 => h86), tv, tv⟩, tv⟩), ⟨(fun h88 => h88), (fun h89 => tv)⟩, tv, (fun h90 => ⟨⟨tv, tv⟩, tv⟩), (fun h91 => ⟨⟨(fun h92 => h91), tv, tv⟩, tv⟩), (fun h93 => ⟨⟨tv, tv⟩, tv⟩), (fun h94 => ⟨⟨(fun h95 => h94), (fun h96 => h94), tv⟩, tv⟩), ⟨(fun h97 => tv), (fun h98 => (o33 hp h42 h53 x54 hx54 h55 h98))⟩, tv⟩ ?_
    refine swp_cond (bif bif !decide (openE (againR r f p x54) true = 0) then !decide (openE (againR r f p x54) true = 3) else false then true else !decide (openE (againR r f p x54) true = 0) == bif decide (readS r f p = 3) then true else decide (readS r f p = 1) == decide ((x54 : Int) = 1)) (by kernel_rfl) (fun h99 => ?_) (fun h99 => ?_)
    ·refine swp_seq ?_
     refine sR (kt := [6]) (kh := []) (q := True /\ True) (st' := ASt.mk [(6, bv false)] [] 10744) (by kernel_rfl) ⟨tv, tv⟩ ?_
     refine swp_ret ?_
     exact ret_q [] ((True /\ True) /\ (bv false = bv true /\ nilN = []) /\ T3) (by kernel_rfl) ⟨⟨tv, tv⟩, ⟨(congrArg bv (o34 hp h42 h53 x54 hx54 h55 h99)), rfl⟩, rfl, rfl, rfl⟩
    ·refine swp_skip ?_
     refine sR (kt := [1, 2, 3, 7, 9]) (kh := [0]) (q := True /\ inI ((x54 : Int) + 1) /\ True /\ True) (st' := ASt.mk [(1, iv f), (2, iv p), (3, .ptr 0 []), (7, iv (readS r f p)), (9, iv ((x54 : Int) + 1))] [(0, .cells 25 (cRun r))] 10760) (by kernel_rfl) ⟨tv, (o35 hp h42 h53 x54 hx54 h55 h99), tv, tv⟩ ?_
     exact loop_next (Hint.ann (h8 r f p) [(1, iv f), (2, iv p), (3, AV.ptr 0 []), (7, iv (readS r f p))] [(0, OB.cells 25 (cRun r))] 10368) x54 (ent_q hE [] [(0, .same 0)] [1, 2, 7] [0] (((iv f = iv f /\ true = true) /\ (iv p = iv p /\ true = true) /\ (some (Src.same 0) = some (Src.same 0) /\ nilP = []) /\ (iv (readS r f p) = iv (readS r f p) /\ true = true) /\ (iv ((x54 : Int) + 1) = iv (↑(x54 + 1) : Int) /\ nilN = []) /\ True) /\ ((OB.cells 25 (cRun r) = OB.cells 25 (cRun r) /\ true = true) /\ True) /\ T2) (by kernel_rfl) (by kernel_rfl) ⟨⟨⟨rfl, rfl⟩, ⟨rfl, rfl⟩, ⟨rfl, rfl⟩, ⟨rfl, rfl⟩, ⟨(congrArg iv (o36 hp h42 h53 x54 hx54 h55 h99)), rfl⟩, tv⟩, ⟨⟨rfl, rfl⟩, tv⟩, rfl, rfl⟩) (o37 hp h42 h53 x54 hx54 h55 h99) (o38 hp h42 h53 x54 hx54 h55 h99)
   ·refine swp_exit (swp_seq ?_)
    refine swp_region T0_ok mixed (cs := [(0, CallSpec.eq s19 [])]) (kt := [6]) (kh := []) (q := (True /\ Triple Try.prog 19 s19 /\ True /\ True /\ ∀ (i100 : Env), True) /\ True /\ True) (st' := ASt.mk [(6, bv true)] [] 10400) (by kernel_rfl) ⟨⟨tv, (t19), tv, tv, (fun i100 => tv)⟩, tv, tv⟩ ?_
    refine swp_ret ?_
    exact ret_q [] ((True /\ True) /\ (bv true = bv true /\ nilN = []) /\ T3) (by kernel_rfl) ⟨⟨tv, tv⟩, ⟨rfl, rfl⟩, rfl, rfl, rfl⟩
theorem t8 (r : Run) (f p : Int) : Triple Try.prog 8 (s8 r f p) := by
 apply w8
 case o2 | o3 | o4 | o5 => intro _ h; have h1 := againF0 h; have := h1.fr; have := h1.pr; omega
 case o8 =>
  intro _ h hh
  obtain ⟨hA, _⟩ := againF h
  obtain ⟨h1, h2⟩ := read_val hA.one hA.is
  have h3 : within (readS r f p) 1 3 = true := by
   rw [Go.Sh.within_iff, h2]
   split
   ·split <;> omega
   ·omega
  rw [h1, h3] at hh; cases hh
 case o11 =>
  intro hf h _ x _ _
  have := (againF h).2.2
  simp only [known6, ready, Bool.and_eq_true, Bool.not_eq_true'] at this
  exact far_small this.1.1 hf
 case o12 | o13 | o14 | o15 => intro _ h _ x _ _; have h1 := (againF h).1; have := h1.fr; have := h1.pr; omega
 case o16 | o17 => intro _ h _ x _ _; have h1 := (againF h).1; have := h1.fr; have := h1.pr; rw [nwLen_at (by omega)]; omega
 case o18 => intro _ h _ x _ _; exact chLen_over r
 case o20 => intro _ h _ x _ _ i _ hne; have h1 := (againF h).1.fr; rw [againR, setNew, fnd_setF _ (by omega), if_neg hne]
 case o21 => intro _ h _ x _ _; have h1 := (againF h).1.fr; exact (fnd_setNew (by omega) _).1.symm
 case o22 => intro _ h _ x _ _; have h1 := (againF h).1.fr; rw [nwLen_at (by omega)]; exact (fnd_setNew (by omega) _).2.2.symm
 case o23 =>
  intro _ h _ x _ _ i hi
  have h1 := (againF h).1; have := h1.fr; have := h1.pr
  have hc := new_setNew (r := r) (f := f.toNat) (p := p.toNat) (v := (x : Int)) (by omega) (by omega) f.toNat i
  rw [againR, hc]
  exact rec_eq (fun h => by rw [if_neg (fun e => h e.2)]) (fun h => by rw [if_pos ⟨rfl, h⟩]; rfl)
 case o24 => intro _ h _ x _ _; have h1 := (againF h).1.fr; rw [againR, (fnd_setNew (by omega) _).2.1]
 case o25 => intro _ h _ x _ _ i _; have h1 := (againF h).1.fr; rw [againR, (fnd_setNew (by omega) _).2.1]
 case o30 => intro _ h _ x _ _; exact (len_setF _ _ _).symm
 case o31 => intro hf h _ x _ _; have h1 := (againF h).1.fr; exact fits_setNew hf (by omega)
 case o34 =>
  intro _ h _ x _ hx hh
  obtain ⟨hA, hn, _⟩ := againF h
  simp only [decide_eq_true_eq] at hx
  rcases again_try hA.one hA.ok hA.is hn (n := x) (by omega) with ⟨h1, h2⟩ | ⟨h1, h2⟩
  ·rcases h2 with h2 | ⟨h2, rfl⟩ | ⟨h2, rfl⟩ <;> (rw [h1, h2] at hh; simp at hh)
  ·rcases h2 with ⟨h2, rfl⟩ | ⟨h2, rfl⟩ <;> (rw [h1, h2] at hh; simp at hh)
 all_goals (first | ((repeat intro _) <;> (try simp only [v0, v1, v2, v3, v4, v5, v6, v7, v8, v9, inI, fits, Go.Sh.small] at *) <;> first | (exact rfl) | omega | exact vz | (simp_all; done) | (simp_all; omega)) | skip)
end Go.Ab
