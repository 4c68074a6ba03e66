/- Part 5 of the proof: own library, plain forms and walks. -/
import Derived.Test.YtcbgfmalillplaaQWhere4
import Derived.Shelf.Sort.Plain
import Derived.Shelf.Slices.CompactI
import Derived.Test.YtcbgfmalillplaaProg
import Derived.Sort.Grow
import Derived.Lib.SlicesCompact
set_option linter.all false
set_option linter.deprecated false
namespace Go.Ab
open Go Go.RowKit Go.Proofs Go.Sh Go.En
abbrev q108_1 (w : WayS) (m : Nat) (p : Nat) (C : Prop) : Prop := wb w /\ m < 3 /\ 1 <= p /\ p <= 3 -> C
abbrev q108_2 (w : WayS) (m : Nat) (p : Nat) (C : Nat -> Prop) : Prop := q108_1 w m p (∀ (x0 : Nat), x0 <= p -> decide ((x0 : Int) < p) = true -> C x0)
abbrev q108_3 (w : WayS) (m : Nat) (p : Nat) (C : Nat -> Nat -> Prop) : Prop := q108_2 w m p fun x0 => ∀ (x2 : Nat), x2 <= p -> decide ((x2 : Int) < p) = true -> C x0 x2
abbrev q108_4 (w : WayS) (m : Nat) (p : Nat) (C : Nat -> Nat -> Prop) : Prop := q108_3 w m p fun x0 x2 => (!decide ((x0 : Int) = x2)) -> C x0 x2
abbrev q108_5 (w : WayS) (m : Nat) (p : Nat) (C : Nat -> Nat -> Prop) : Prop := q108_3 w m p fun x0 x2 => (!decide ((x0 : Int) = x2)) = false -> C x0 x2
abbrev q108_6 (w : WayS) (m : Nat) (p : Nat) (C : Nat -> Nat -> Prop) : Prop := q108_2 w m p fun x0 => ∀ (x2 : Nat), x2 <= p -> decide ((x2 : Int) < p) = false -> C x0 x2
abbrev q108_7 (w : WayS) (m : Nat) (p : Nat) (C : Nat -> Prop) : Prop := q108_1 w m p (∀ (x0 : Nat), x0 <= p -> decide ((x0 : Int) < p) = false -> C x0)
theorem w108 (w : WayS) (m : Nat) (p : Nat)
 (o0 : q108_1 w m p (0 <= (↑m : Int)))
 (o1 : q108_1 w m p ((m : Int) < (↑3 : Int)))
 (o2 : q108_1 w m p (0 <= (↑p : Int)))
 (o3 : q108_1 w m p ((p : Int) <= (↑3 : Int)))
 (o4 : q108_1 w m p (0 < (↑p : Int)))
 (o5 : q108_1 w m p (m < 3))
 (o6 : q108_1 w m p (0 < (↑p : Int)))
 (o7 : q108_1 w m p (m < 3))
 (o8 : q108_1 w m p ((w.whn m 0).hi = (sprTo (w.whn m) p 0).first))
 (o9 : q108_1 w m p ((w.whn m 0).lo = (sprTo (w.whn m) p 0).last))
 (o10 : q108_1 w m p (0 = (sprTo (w.whn m) p 0).high))
 (o11 : q108_1 w m p (0 = (↑0 : Int)))
 (o12 : q108_1 w m p (0 <= p))
 (o13 : q108_2 w m p fun x0 => 0 <= (x0 : Int))
 (o14 : q108_2 w m p fun x0 => (x0 : Int) < p)
 (o15 : q108_2 w m p fun x0 => m < 3)
 (o16 : q108_2 w m p fun x0 => x0 < 3)
 (o17 : q108_2 w m p fun x0 => (sprTo (w.whn m) p x0).high = sprIn (w.whn m) x0 (sprTo (w.whn m) p x0).high 0)
 (o18 : q108_2 w m p fun x0 => 0 = (↑0 : Int))
 (o19 : q108_2 w m p fun x0 => 0 <= p)
 (o20 : q108_3 w m p fun x0 x2 => 0 <= (x2 : Int))
 (o21 : q108_3 w m p fun x0 x2 => (x2 : Int) < p)
 (o22 : q108_3 w m p fun x0 x2 => m < 3)
 (o23 : q108_3 w m p fun x0 x2 => x2 < 3)
 (o24 : q108_4 w m p fun x0 x2 => inI ((w.whn m x0).hi - (w.whn m x2).lo))
 (o25 : q108_4 w m p fun x0 x2 => inI ((x2 : Int) + 1))
 (o26 : q108_4 w m p fun x0 x2 => max (sprIn (w.whn m) x0 (sprTo (w.whn m) p x0).high x2) ((w.whn m x0).hi - (w.whn m x2).lo) = sprIn (w.whn m) x0 (sprTo (w.whn m) p x0).high (x2 + 1))
 (o27 : q108_4 w m p fun x0 x2 => (x2 : Int) + 1 = (↑(x2 + 1) : Int))
 (o28 : q108_4 w m p fun x0 x2 => x2 + 1 <= p)
 (o29 : q108_4 w m p fun x0 x2 => p - (x2 + 1) < p - x2)
 (o30 : q108_5 w m p fun x0 x2 => inI ((x2 : Int) + 1))
 (o31 : q108_5 w m p fun x0 x2 => sprIn (w.whn m) x0 (sprTo (w.whn m) p x0).high x2 = sprIn (w.whn m) x0 (sprTo (w.whn m) p x0).high (x2 + 1))
 (o32 : q108_5 w m p fun x0 x2 => (x2 : Int) + 1 = (↑(x2 + 1) : Int))
 (o33 : q108_5 w m p fun x0 x2 => x2 + 1 <= p)
 (o34 : q108_5 w m p fun x0 x2 => p - (x2 + 1) < p - x2)
 (o35 : q108_6 w m p fun x0 x2 => inI ((x0 : Int) + 1))
 (o36 : q108_6 w m p fun x0 x2 => min (sprTo (w.whn m) p x0).first (w.whn m x0).hi = (sprTo (w.whn m) p (x0 + 1)).first)
 (o37 : q108_6 w m p fun x0 x2 => max (sprTo (w.whn m) p x0).last (w.whn m x0).lo = (sprTo (w.whn m) p (x0 + 1)).last)
 (o38 : q108_6 w m p fun x0 x2 => sprIn (w.whn m) x0 (sprTo (w.whn m) p x0).high x2 = (sprTo (w.whn m) p (x0 + 1)).high)
 (o39 : q108_6 w m p fun x0 x2 => (x0 : Int) + 1 = (↑(x0 + 1) : Int))
 (o40 : q108_6 w m p fun x0 x2 => x0 + 1 <= p)
 (o41 : q108_6 w m p fun x0 x2 => p - (x0 + 1) < p - x0)
 (o42 : q108_7 w m p fun x0 => inI ((sprTo (w.whn m) p x0).last - (sprTo (w.whn m) p x0).first))
 (o43 : q108_7 w m p fun x0 => max 0 ((sprTo (w.whn m) p x0).last - (sprTo (w.whn m) p x0).first) = (spread (w.whn m) p).lo)
 (o44 : q108_7 w m p fun x0 => (sprTo (w.whn m) p x0).high = (spread (w.whn m) p).hi) :
  Triple Try.prog 108 (s108 w m p) := by
 refine triple_of Try.func108 rfl Try.call108 T0_ok _ rfl rfl rfl rfl (Nat.le_of_ble_eq_true (by kernel_rfl)) (fun _ _ _ _ h => h) ?_
 intro hp C hC _ hE
 obtain ⟨P, w0, E0, av, hA⟩ := C
 subst hC
 refine swp_seq ?_
 refine sR (kt := [1, 2, 3, 6]) (kh := [0, 8]) (q := True /\ True /\ True) (st' := ASt.mk [(1, iv (m : Int)), (2, iv (p : Int)), (3, .ptr 0 []), (6, .ptr 8 [])] [(0, .cells 107 (cWay w)), (8, .cells 37 [iv 0, iv 0])] 16) (by kernel_rfl) ⟨tv, tv, tv⟩ ?_
 refine swp_seq ?_
 refine sR (kt := [6, 7]) (kh := [8, 0]) (q := True /\ True /\ (0 <= (m : Int) /\ (m : Int) < (↑3 : Int)) /\ True /\ (0 <= (p : Int) /\ (p : Int) <= (↑3 : Int)) /\ True /\ True) (st' := ASt.mk [(6, .ptr 8 []), (7, .win 0 [PS.fld 1, PS.idx m 6] 2 p)] [(8, .cells 37 [iv 0, iv 0]), (0, .cells 107 (cWay w))] 64) (by kernel_rfl) ⟨tv, tv, ⟨(o0 hp), (o1 hp)⟩, tv, ⟨(o2 hp), (o3 hp)⟩, tv, tv⟩ ?_
 refine swp_seq ?_
 refine sR (kt := [6, 7, 8, 9, 10]) (kh := [8, 0]) (q := True /\ (Int.ofNat 0 <= Int.ofNat 0 /\ 0 < (p : Int)) /\ True /\ (m < 3 /\ 0 < 3 /\ True) /\ True /\ (Int.ofNat 0 <= Int.ofNat 0 /\ 0 < (p : Int)) /\ True /\ (m < 3 /\ 0 < 3 /\ True) /\ True /\ True /\ True /\ True) (st' := ASt.mk [(6, .ptr 8 []), (7, .win 0 [PS.fld 1, PS.idx m 6] 2 p), (8, iv (w.whn m 0).hi), (9, iv (w.whn m 0).lo), (10, iv 0)] [(8, .cells 37 [iv 0, iv 0]), (0, .cells 107 (cWay w))] 152) (by kernel_rfl) ⟨tv, ⟨(by decide), (o4 hp)⟩, tv, ⟨(o5 hp), (by decide), tv⟩, tv, ⟨(by decide), (o6 hp)⟩, tv, ⟨(o7 hp), (by decide), tv⟩, tv, tv, tv, tv⟩ ?_
 refine swp_seq (swp_seq ?_)
 refine sR (kt := [6, 7, 8, 9, 10, 28, 29, 30]) (kh := [8, 0]) (q := True /\ True /\ True /\ True) (st' := ASt.mk [(6, .ptr 8 []), (7, .win 0 [PS.fld 1, PS.idx m 6] 2 p), (8, iv (w.whn m 0).hi), (9, iv (w.whn m 0).lo), (10, iv 0), (28, .win 0 [PS.fld 1, PS.idx m 6] 2 p), (29, iv (p : Int)), (30, iv 0)] [(8, .cells 37 [iv 0, iv 0]), (0, .cells 107 (cWay w))] 176) (by kernel_rfl) ⟨tv, tv, tv, tv⟩ ?_
 refine swp_block ?_
 refine swp_loopA (Hint.ann (h108a w m p) [(6, AV.ptr 8 []), (7, AV.win 0 [PS.fld 1, PS.idx m 6] 2 p), (28, AV.win 0 [PS.fld 1, PS.idx m 6] 2 p), (29, iv (p : Int))] [(8, OB.cells 37 [iv 0, iv 0]), (0, OB.cells 107 (cWay w))] 10176) (ent_q hE [] [(8, .same 8), (0, .same 0)] [29] [8, 0] (((some (Src.same 8) = some (Src.same 8) /\ nilP = []) /\ (some (Src.same 0) = some (Src.same 0) /\ [PS.fld 1, PS.idx m 6] = [PS.fld 1, PS.idx m 6] /\ 2 = 2 /\ p = p) /\ (some (Src.same 0) = some (Src.same 0) /\ [PS.fld 1, PS.idx m 6] = [PS.fld 1, PS.idx m 6] /\ 2 = 2 /\ p = p) /\ (iv (p : Int) = iv (p : Int) /\ true = true) /\ (iv (w.whn m 0).hi = iv (sprTo (w.whn m) p 0).first /\ nilN = []) /\ (iv (w.whn m 0).lo = iv (sprTo (w.whn m) p 0).last /\ nilN = []) /\ (iv 0 = iv (sprTo (w.whn m) p 0).high /\ nilN = []) /\ (iv 0 = iv (↑0 : Int) /\ nilN = []) /\ True) /\ ((OB.cells 37 [iv 0, iv 0] = OB.cells 37 [iv 0, iv 0] /\ true = true) /\ (OB.cells 107 (cWay w) = OB.cells 107 (cWay w) /\ true = true) /\ True) /\ T2) (by kernel_rfl) (by kernel_rfl) ⟨⟨⟨rfl, rfl⟩, ⟨rfl, rfl, rfl, rfl⟩, ⟨rfl, rfl, rfl, rfl⟩, ⟨rfl, rfl⟩, ⟨(congrArg iv (o8 hp)), rfl⟩, ⟨(congrArg iv (o9 hp)), rfl⟩, ⟨(congrArg iv (o10 hp)), rfl⟩, ⟨(congrArg iv (o11 hp)), rfl⟩, tv⟩, ⟨⟨rfl, rfl⟩, ⟨rfl, rfl⟩, tv⟩, rfl, rfl⟩) (o12 hp) (fun (x0 : Nat) hx0 => ?_)
 refine swp_seq ?_
 refine sR (kt := [6, 7, 28, 29, 8, 9, 10, 30, 31]) (kh := [8, 0]) (q := True /\ True) (st' := ASt.mk [(6, .ptr 8 []), (7, .win 0 [PS.fld 1, PS.idx m 6] 2 p), (28, .win 0 [PS.fld 1, PS.idx m 6] 2 p), (29, iv (p : Int)), (8, iv (sprTo (w.whn m) p x0).first), (9, iv (sprTo (w.whn m) p x0).last), (10, iv (sprTo (w.whn m) p x0).high), (30, iv (x0 : Int)), (31, bv (decide ((x0 : Int) < p)))] [(8, .cells 37 [iv 0, iv 0]), (0, .cells 107 (cWay w))] 10184) (by kernel_rfl) ⟨tv, tv⟩ ?_
 refine swp_seq ?_
 refine swp_cond (decide ((x0 : Int) < p)) (by kernel_rfl) (fun h1 => ?_) (fun h1 => ?_)
 ·refine swp_skip (swp_seq (swp_block (swp_seq ?_)))
  refine sR (kt := [6, 7, 28, 29, 8, 9, 10, 30, 12, 11]) (kh := [8, 0, 10208]) (q := True /\ (0 <= (x0 : Int) /\ (x0 : Int) < p) /\ (m < 3 /\ x0 < 3 /\ True) /\ True /\ True /\ True /\ True) (st' := ASt.mk [(6, .ptr 8 []), (7, .win 0 [PS.fld 1, PS.idx m 6] 2 p), (28, .win 0 [PS.fld 1, PS.idx m 6] 2 p), (29, iv (p : Int)), (8, iv (sprTo (w.whn m) p x0).first), (9, iv (sprTo (w.whn m) p x0).last), (10, iv (sprTo (w.whn m) p x0).high), (30, iv (x0 : Int)), (12, .ptr 10208 []), (11, iv (x0 : Int))] [(8, .cells 37 [iv 0, iv 0]), (0, .cells 107 (cWay w)), (10208, .cells 37 (cSpan (w.whn m x0)))] 10232) (by kernel_rfl) ⟨tv, ⟨(o13 hp x0 hx0 h1), (o14 hp x0 hx0 h1)⟩, ⟨(o15 hp x0 hx0 h1), (o16 hp x0 hx0 h1), tv⟩, tv, tv, tv, tv⟩ ?_
  refine swp_seq ?_
  refine sR (kt := [6, 7, 28, 29, 8, 9, 10, 30, 12, 11]) (kh := [8, 0, 10208]) (q := True /\ True /\ True /\ True /\ True /\ True /\ True /\ True /\ True /\ True /\ True) (st' := ASt.mk [(6, .ptr 8 []), (7, .win 0 [PS.fld 1, PS.idx m 6] 2 p), (28, .win 0 [PS.fld 1, PS.idx m 6] 2 p), (29, iv (p : Int)), (8, iv (min (sprTo (w.whn m) p x0).first (w.whn m x0).hi)), (9, iv (max (sprTo (w.whn m) p x0).last (w.whn m x0).lo)), (10, iv (sprTo (w.whn m) p x0).high), (30, iv (x0 : Int)), (12, .ptr 10208 []), (11, iv (x0 : Int))] [(8, .cells 37 [iv 0, iv 0]), (0, .cells 107 (cWay w)), (10208, .cells 37 (cSpan (w.whn m x0)))] 10312) (by kernel_rfl) ⟨tv, tv, tv, tv, tv, tv, tv, tv, tv, tv, tv⟩ ?_
  refine swp_seq ?_
  refine sR (kt := [6, 7, 28, 29, 8, 9, 10, 30, 12, 11, 43, 44, 45]) (kh := [8, 0, 10208]) (q := True /\ True /\ True /\ True) (st' := ASt.mk [(6, .ptr 8 []), (7, .win 0 [PS.fld 1, PS.idx m 6] 2 p), (28, .win 0 [PS.fld 1, PS.idx m 6] 2 p), (29, iv (p : Int)), (8, iv (min (sprTo (w.whn m) p x0).first (w.whn m x0).hi)), (9, iv (max (sprTo (w.whn m) p x0).last (w.whn m x0).lo)), (10, iv (sprTo (w.whn m) p x0).high), (30, iv (x0 : Int)), (12, .ptr 10208 []), (11, iv (x0 : Int)), (43, .win 0 [PS.fld 1, PS.idx m 6] 2 p), (44, iv (p : Int)), (45, iv 0)] [(8, .cells 37 [iv 0, iv 0]), (0, .cells 107 (cWay w)), (10208, .cells 37 (cSpan (w.whn m x0)))] 10336) (by kernel_rfl) ⟨tv, tv, tv, tv⟩ ?_
  refine swp_block ?_
  refine swp_loopA (Hint.ann (h108b w m p x0) [(6, AV.ptr 8 []), (7, AV.win 0 [PS.fld 1, PS.idx m 6] 2 p), (28, AV.win 0 [PS.fld 1, PS.idx m 6] 2 p), (29, iv (p : Int)), (8, iv (min (sprTo (w.whn m) p x0).first (w.whn m x0).hi)), (9, iv (max (sprTo (w.whn m) p x0).last (w.whn m x0).lo)), (30, iv (x0 : Int)), (12, AV.ptr 10208 []), (11, iv (x0 : Int)), (43, AV.win 0 [PS.fld 1, PS.idx m 6] 2 p), (44, iv (p : Int))] [(8, OB.cells 37 [iv 0, iv 0]), (0, OB.cells 107 (cWay w)), (10208, OB.cells 37 (cSpan (w.whn m x0)))] 20336) (ent_q hE [] [(8, .same 8), (0, .same 0), (10208, .same 10208)] [29, 8, 9, 30, 11, 44] [8, 0, 10208] (((some (Src.same 8) = some (Src.same 8) /\ nilP = []) /\ (some (Src.same 0) = some (Src.same 0) /\ [PS.fld 1, PS.idx m 6] = [PS.fld 1, PS.idx m 6] /\ 2 = 2 /\ p = p) /\ (some (Src.same 0) = some (Src.same 0) /\ [PS.fld 1, PS.idx m 6] = [PS.fld 1, PS.idx m 6] /\ 2 = 2 /\ p = p) /\ (iv (p : Int) = iv (p : Int) /\ true = true) /\ (iv (min (sprTo (w.whn m) p x0).first (w.whn m x0).hi) = iv (min (sprTo (w.whn m) p x0).first (w.whn m x0).hi) /\ true = true) /\ (iv (max (sprTo (w.whn m) p x0).last (w.whn m x0).lo) = iv (max (sprTo (w.whn m) p x0).last (w.whn m x0).lo) /\ true = true) /\ (iv (x0 : Int) = iv (x0 : Int) /\ true = true) /\ (some (Src.same 10208) = some (Src.same 10208) /\ nilP = []) /\ (iv (x0 : Int) = iv (x0 : Int) /\ true = true) /\ (some (Src.same 0) = some (Src.same 0) /\ [PS.fld 1, PS.idx m 6] = [PS.fld 1, PS.idx m 6] /\ 2 = 2 /\ p = p) /\ (iv (p : Int) = iv (p : Int) /\ true = true) /\ (iv (sprTo (w.whn m) p x0).high = iv (sprIn (w.whn m) x0 (sprTo (w.whn m) p x0).high 0) /\ nilN = []) /\ (iv 0 = iv (↑0 : Int) /\ nilN = []) /\ True) /\ ((OB.cells 37 [iv 0, iv 0] = OB.cells 37 [iv 0, iv 0] /\ true = true) /\ (OB.cells 107 (cWay w) = OB.cells 107 (cWay w) /\ true = true) /\ (OB.cells 37 (cSpan (w.whn m x0)) = OB.cells 37 (cSpan (w.whn m x0)) /\ true = true) /\ True) /\ T2) (by kernel_rfl) (by kernel_rfl) ⟨⟨⟨rfl, rfl⟩, ⟨rfl, rfl, rfl, rfl⟩, ⟨rfl, rfl, rfl, rfl⟩, ⟨rfl, rfl⟩, ⟨rfl, rfl⟩, ⟨rfl, rfl⟩, ⟨rfl, rfl⟩, ⟨rfl, rfl⟩, ⟨rfl, rfl⟩, ⟨rfl, rfl, rfl, rfl⟩, ⟨rfl, rfl⟩, ⟨(congrArg iv (o17 hp x0 hx0 h1)), rfl⟩, ⟨(congrArg iv (o18 hp x0 hx0 h1)), rfl⟩, tv⟩, ⟨⟨rfl, rfl⟩, ⟨rfl, rfl⟩, ⟨rfl, rfl⟩, tv⟩, rfl, rfl⟩) (o19 hp x0 hx0 h1) (fun (x2 : Nat) hx2 => ?_)
  refine swp_seq ?_
  refine sR (kt := [6, 7, 28, 29, 8, 9, 30, 12, 11, 43, 44, 10, 45, 46]) (kh := [8, 0, 10208]) (q := True /\ True) (st' := ASt.mk [(6, .ptr 8 []), (7, .win 0 [PS.fld 1, PS.idx m 6] 2 p), (28, .win 0 [PS.fld 1, PS.idx m 6] 2 p), (29, iv (p : Int)), (8, iv (min (sprTo (w.whn m) p x0).first (w.whn m x0).hi)), (9, iv (max (sprTo (w.whn m) p x0).last (w.whn m x0).lo)), (30, iv (x0 : Int)), (12, .ptr 10208 []), (11, iv (x0 : Int)), (43, .win 0 [PS.fld 1, PS.idx m 6] 2 p), (44, iv (p : Int)), (10, iv (sprIn (w.whn m) x0 (sprTo (w.whn m) p x0).high x2)), (45, iv (x2 : Int)), (46, bv (decide ((x2 : Int) < p)))] [(8, .cells 37 [iv 0, iv 0]), (0, .cells 107 (cWay w)), (10208, .cells 37 (cSpan (w.whn m x0)))] 20344) (by kernel_rfl) ⟨tv, tv⟩ ?_
  refine swp_seq ?_
  refine swp_cond (decide ((x2 : Int) < p)) (by kernel_rfl) (fun h3 => ?_) (fun h3 => ?_)
  ·refine swp_skip (swp_seq (swp_block (swp_seq ?_)))
   refine sR (kt := [6, 7, 28, 29, 8, 9, 30, 12, 11, 43, 44, 10, 45, 14, 13]) (kh := [8, 0, 10208, 20368]) (q := True /\ (0 <= (x2 : Int) /\ (x2 : Int) < p) /\ (m < 3 /\ x2 < 3 /\ True) /\ True /\ True /\ True /\ True) (st' := ASt.mk [(6, .ptr 8 []), (7, .win 0 [PS.fld 1, PS.idx m 6] 2 p), (28, .win 0 [PS.fld 1, PS.idx m 6] 2 p), (29, iv (p : Int)), (8, iv (min (sprTo (w.whn m) p x0).first (w.whn m x0).hi)), (9, iv (max (sprTo (w.whn m) p x0).last (w.whn m x0).lo)), (30, iv (x0 : Int)), (12, .ptr 10208 []), (11, iv (x0 : Int)), (43, .win 0 [PS.fld 1, PS.idx m 6] 2 p), (44, iv (p : Int)), (10, iv (sprIn (w.whn m) x0 (sprTo (w.whn m) p x0).high x2)), (45, iv (x2 : Int)), (14, .ptr 20368 []), (13, iv (x2 : Int))] [(8, .cells 37 [iv 0, iv 0]), (0, .cells 107 (cWay w)), (10208, .cells 37 (cSpan (w.whn m x0))), (20368, .cells 37 (cSpan (w.whn m x2)))] 20392) (by kernel_rfl) ⟨tv, ⟨(o20 hp x0 hx0 h1 x2 hx2 h3), (o21 hp x0 hx0 h1 x2 hx2 h3)⟩, ⟨(o22 hp x0 hx0 h1 x2 hx2 h3), (o23 hp x0 hx0 h1 x2 hx2 h3), tv⟩, tv, tv, tv, tv⟩ ?_
   refine swp_seq ?_
   refine sR (kt := [6, 7, 28, 29, 8, 9, 30, 12, 11, 43, 44, 10, 45, 14, 52]) (kh := [8, 0, 10208, 20368]) (q := True /\ True /\ True /\ True) (st' := ASt.mk [(6, .ptr 8 []), (7, .win 0 [PS.fld 1, PS.idx m 6] 2 p), (28, .win 0 [PS.fld 1, PS.idx m 6] 2 p), (29, iv (p : Int)), (8, iv (min (sprTo (w.whn m) p x0).first (w.whn m x0).hi)), (9, iv (max (sprTo (w.whn m) p x0).last (w.whn m x0).lo)), (30, iv (x0 : Int)), (12, .ptr 10208 []), (11, iv (x0 : Int)), (43, .win 0 [PS.fld 1, PS.idx m 6] 2 p), (44, iv (p : Int)), (10, iv (sprIn (w.whn m) x0 (sprTo (w.whn m) p x0).high x2)), (45, iv (x2 : Int)), (14, .ptr 20368 []), (52, bv !decide ((x0 : Int) = x2))] [(8, .cells 37 [iv 0, iv 0]), (0, .cells 107 (cWay w)), (10208, .cells 37 (cSpan (w.whn m x0))), (20368, .cells 37 (cSpan (w.whn m x2)))] 20416) (by kernel_rfl) ⟨tv, tv, tv, tv⟩ ?_
   refine swp_cond (!decide ((x0 : Int) = x2)) (by kernel_rfl) (fun h4 => ?_) (fun h4 => ?_)
   ·refine sR (kt := [6, 7, 28, 29, 8, 9, 30, 12, 11, 43, 44, 10, 45]) (kh := [8, 0, 10208]) (q := True /\ True /\ True /\ True /\ True /\ inI ((w.whn m x0).hi - (w.whn m x2).lo) /\ True /\ True /\ True) (st' := ASt.mk [(6, .ptr 8 []), (7, .win 0 [PS.fld 1, PS.idx m 6] 2 p), (28, .win 0 [PS.fld 1, PS.idx m 6] 2 p), (29, iv (p : Int)), (8, iv (min (sprTo (w.whn m) p x0).first (w.whn m x0).hi)), (9, iv (max (sprTo (w.whn m) p x0).last (w.whn m x0).lo)), (30, iv (x0 : Int)), (12, .ptr 10208 []), (11, iv (x0 : Int)), (43, .win 0 [PS.fld 1, PS.idx m 6] 2 p), (44, iv (p : Int)), (10, iv (max (sprIn (w.whn m) x0 (sprTo (w.whn m) p x0).high x2) ((w.whn m x0).hi - (w.whn m x2).lo))), (45, iv (x2 : Int))] [(8, .cells 37 [iv 0, iv 0]), (0, .cells 107 (cWay w)), (10208, .cells 37 (cSpan (w.whn m x0)))] 20480) (by kernel_rfl) ⟨tv, tv, tv, tv, tv, (o24 hp x0 hx0 h1 x2 hx2 h3 h4), tv, tv, tv⟩ ?_
    refine sR (kt := [6, 7, 28, 29, 8, 9, 30, 12, 11, 43, 44, 10, 45]) (kh := [8, 0, 10208]) (q := inI ((x2 : Int) + 1) /\ True /\ True) (st' := ASt.mk [(6, .ptr 8 []), (7, .win 0 [PS.fld 1, PS.idx m 6] 2 p), (28, .win 0 [PS.fld 1, PS.idx m 6] 2 p), (29, iv (p : Int)), (8, iv (min (sprTo (w.whn m) p x0).first (w.whn m x0).hi)), (9, iv (max (sprTo (w.whn m) p x0).last (w.whn m x0).lo)), (30, iv (x0 : Int)), (12, .ptr 10208 []), (11, iv (x0 : Int)), (43, .win 0 [PS.fld 1, PS.idx m 6] 2 p), (44, iv (p : Int)), (10, iv (max (sprIn (w.whn m) x0 (sprTo (w.whn m) p x0).high x2) ((w.whn m x0).hi - (w.whn m x2).lo))), (45, iv ((x2 : Int) + 1))] [(8, .cells 37 [iv 0, iv 0]), (0, .cells 107 (cWay w)), (10208, .cells 37 (cSpan (w.whn m x0)))] 20496) (by kernel_rfl) ⟨(o25 hp x0 hx0 h1 x2 hx2 h3 h4), tv, tv⟩ ?_
    exact loop_next (Hint.ann (h108b w m p x0) [(6, AV.ptr 8 []), (7, AV.win 0 [PS.fld 1, PS.idx m 6] 2 p), (28, AV.win 0 [PS.fld 1, PS.idx m 6] 2 p), (29, iv (p : Int)), (8, iv (min (sprTo (w.whn m) p x0).first (w.whn m x0).hi)), (9, iv (max (sprTo (w.whn m) p x0).last (w.whn m x0).lo)), (30, iv (x0 : Int)), (12, AV.ptr 10208 []), (11, iv (x0 : Int)), (43, AV.win 0 [PS.fld 1, PS.idx m 6] 2 p), (44, iv (p : Int))] [(8, OB.cells 37 [iv 0, iv 0]), (0, OB.cells 107 (cWay w)), (10208, OB.cells 37 (cSpan (w.whn m x0)))] 20336) x2 (ent_q hE [] [(8, .same 8), (0, .same 0), (10208, .same 10208)] [29, 8, 9, 30, 11, 44] [8, 0, 10208] (((some (Src.same 8) = some (Src.same 8) /\ nilP = []) /\ (some (Src.same 0) = some (Src.same 0) /\ [PS.fld 1, PS.idx m 6] = [PS.fld 1, PS.idx m 6] /\ 2 = 2 /\ p = p) /\ (some (Src.same 0) = some (Src.same 0) /\ [PS.fld 1, PS.idx m 6] = [PS.fld 1, PS.idx m 6] /\ 2 = 2 /\ p = p) /\ (iv (p : Int) = iv (p : Int) /\ true = true) /\ (iv (min (sprTo (w.whn m) p x0).first (w.whn m x0).hi) = iv (min (sprTo (w.whn m) p x0).first (w.whn m x0).hi) /\ true = true) /\ (iv (max (sprTo (w.whn m) p x0).last (w.whn m x0).lo) = iv (max (sprTo (w.whn m) p x0).last (w.whn m x0).lo) /\ true = true) /\ (iv (x0 : Int) = iv (x0 : Int) /\ true = true) /\ (some (Src.same 10208) = some (Src.same 10208) /\ nilP = []) /\ (iv (x0 : Int) = iv (x0 : Int) /\ true = true) /\ (some (Src.same 0) = some (Src.same 0) /\ [PS.fld 1, PS.idx m 6] = [PS.fld 1, PS.idx m 6] /\ 2 = 2 /\ p = p) /\ (iv (p : Int) = iv (p : Int) /\ true = true) /\ (iv (max (sprIn (w.whn m) x0 (sprTo (w.whn m) p x0).high x2) ((w.whn m x0).hi - (w.whn m x2).lo)) = iv (sprIn (w.whn m) x0 (sprTo (w.whn m) p x0).high (x2 + 1)) /\ nilN = []) /\ (iv ((x2 : Int) + 1) = iv (↑(x2 + 1) : Int) /\ nilN = []) /\ True) /\ ((OB.cells 37 [iv 0, iv 0] = OB.cells 37 [iv 0, iv 0] /\ true = true) /\ (OB.cells 107 (cWay w) = OB.cells 107 (cWay w) /\ true = true) /\ (OB.cells 37 (cSpan (w.whn m x0)) = OB.cells 37 (cSpan (w.whn m x0)) /\ true = true) /\ True) /\ T2) (by kernel_rfl) (by kernel_rfl) ⟨⟨⟨rfl, rfl⟩, ⟨rfl, rfl, rfl, rfl⟩, ⟨rfl, rfl, rfl, rfl⟩, ⟨rfl, rfl⟩, ⟨rfl, rfl⟩, ⟨rfl, rfl⟩, ⟨rfl, rfl⟩, ⟨rfl, rfl⟩, ⟨rfl, rfl⟩, ⟨rfl, rfl, rfl, rfl⟩, ⟨rfl, rfl⟩, ⟨(congrArg iv (o26 hp x0 hx0 h1 x2 hx2 h3 h4)), rfl⟩, ⟨(congrArg iv (o27 hp x0 hx0 h1 x2 hx2 h3 h4)), rfl⟩, tv⟩, ⟨⟨rfl, rfl⟩, ⟨rfl, rfl⟩, ⟨rfl, rfl⟩, tv⟩, rfl, rfl⟩) (o28 hp x0 hx0 h1 x2 hx2 h3 h4) (o29 hp x0 hx0 h1 x2 hx2 h3 h4)
   ·refine swp_skip ?_
    refine sR (kt := [6, 7, 28, 29, 8, 9, 30, 12, 11, 43, 44, 10, 45]) (kh := [8, 0, 10208]) (q := inI ((x2 : Int) + 1) /\ True /\ True) (st' := ASt.mk [(6, .ptr 8 []), (7, .win 0 [PS.fld 1, PS.idx m 6] 2 p), (28, .win 0 [PS.fld 1, PS.idx m 6] 2 p), (29, iv (p : Int)), (8, iv (min (sprTo (w.whn m) p x0).first (w.whn m x0).hi)), (9, iv (max (sprTo (w.whn m) p x0).last (w.whn m x0).lo)), (30, iv (x0 : Int)), (12, .ptr 10208 []), (11, iv (x0 : Int)), (43, .win 0 [PS.fld 1, PS.idx m 6] 2 p), (44, iv (p : Int)), (10, iv (sprIn (w.whn m) x0 (sprTo (w.whn m) p x0).high x2)), (45, iv ((x2 : Int) + 1))] [(8, .cells 37 [iv 0, iv 0]), (0, .cells 107 (cWay w)), (10208, .cells 37 (cSpan (w.whn m x0)))] 20432) (by kernel_rfl) ⟨(o30 hp x0 hx0 h1 x2 hx2 h3 h4), tv, tv⟩ ?_
    exact loop_next (Hint.ann (h108b w m p x0) [(6, AV.ptr 8 []), (7, AV.win 0 [PS.fld 1, PS.idx m 6] 2 p), (28, AV.win 0 [PS.fld 1, PS.idx m 6] 2 p), (29, iv (p : Int)), (8, iv (min (sprTo (w.whn m) p x0).first (w.whn m x0).hi)), (9, iv (max (sprTo (w.whn m) p x0).last (w.whn m x0).lo)), (30, iv (x0 : Int)), (12, AV.ptr 10208 []), (11, iv (x0 : Int)), (43, AV.win 0 [PS.fld 1, PS.idx m 6] 2 p), (44, iv (p : Int))] [(8, OB.cells 37 [iv 0, iv 0]), (0, OB.cells 107 (cWay w)), (10208, OB.cells 37 (cSpan (w.whn m x0)))] 20336) x2 (ent_q hE [] [(8, .same 8), (0, .same 0), (10208, .same 10208)] [29, 8, 9, 30, 11, 44] [8, 0, 10208] (((some (Src.same 8) = some (Src.same 8) /\ nilP = []) /\ (some (Src.same 0) = some (Src.same 0) /\ [PS.fld 1, PS.idx m 6] = [PS.fld 1, PS.idx m 6] /\ 2 = 2 /\ p = p) /\ (some (Src.same 0) = some (Src.same 0) /\ [PS.fld 1, PS.idx m 6] = [PS.fld 1, PS.idx m 6] /\ 2 = 2 /\ p = p) /\ (iv (p : Int) = iv (p : Int) /\ true = true) /\ (iv (min (sprTo (w.whn m) p x0).first (w.whn m x0).hi) = iv (min (sprTo (w.whn m) p x0).first (w.whn m x0).hi) /\ true = true) /\ (iv (max (sprTo (w.whn m) p x0).last (w.whn m x0).lo) = iv (max (sprTo (w.whn m) p x0).last (w.whn m x0).lo) /\ true = true) /\ (iv (x0 : Int) = iv (x0 : Int) /\ true = true) /\ (some (Src.same 10208) = some (Src.same 10208) /\ nilP = []) /\ (iv (x0 : Int) = iv (x0 : Int) /\ true = true) /\ (some (Src.same 0) = some (Src.same 0) /\ [PS.fld 1, PS.idx m 6] = [PS.fld 1, PS.idx m 6] /\ 2 = 2 /\ p = p) /\ (iv (p : Int) = iv (p : Int) /\ true = true) /\ (iv (sprIn (w.whn m) x0 (sprTo (w.whn m) p x0).high x2) = iv (sprIn (w.whn m) x0 (sprTo (w.whn m) p x0).high (x2 + 1)) /\ nilN = []) /\ (iv ((x2 : Int) + 1) = iv (↑(x2 + 1) : Int) /\ nilN = []) /\ True) /\ ((OB.cells 37 [iv 0, iv 0] = OB.cells 37 [iv 0, iv 0] /\ true = true) /\ (OB.cells 107 (cWay w) = OB.cells 107 (cWay w) /\ true = true) /\ (OB.cells 37 (cSpan (w.whn m x0)) = OB.cells 37 (cSpan (w.whn m x0)) /\ true = true) /\ True) /\ T2) (by kernel_rfl) (by kernel_rfl) ⟨⟨⟨rfl, rfl⟩, ⟨rfl, rfl, rfl, rfl⟩, ⟨rfl, rfl, rfl, rfl⟩, ⟨rfl, rfl⟩, ⟨rfl, rfl⟩, ⟨rfl, rfl⟩, ⟨rfl, rfl⟩, ⟨rfl, rfl⟩, ⟨rfl, rfl⟩, ⟨rfl, rfl, rfl, rfl⟩, ⟨rfl, rfl⟩, ⟨(congrArg iv (o31 hp x0 hx0 h1 x2 hx2 h3 h4)), rfl⟩, ⟨(congrArg iv (o32 hp x0 hx0 h1 x2 hx2 h3 h4)), rfl⟩, tv⟩, ⟨⟨rfl, rfl⟩, ⟨rfl, rfl⟩, ⟨rfl, rfl⟩, tv⟩, rfl, rfl⟩) (o33 hp x0 hx0 h1 x2 hx2 h3 h4) (o34 hp x0 hx0 h1 x2 hx2 h3 h4)
  ·refine swp_exit ?_
   refine sR (kt := [6, 7, 28, 29, 8, 9, 30, 10]) (kh := [8, 0]) (q := inI ((x0 : Int) + 1) /\ True /\ True) (st' := ASt.mk [(6, .ptr 8 []), (7, .win 0 [PS.fld 1, PS.idx m 6] 2 p), (28, .win 0 [PS.fld 1, PS.idx m 6] 2 p), (29, iv (p : Int)), (8, iv (min (sprTo (w.whn m) p x0).first (w.whn m x0).hi)), (9, iv (max (sprTo (w.whn m) p x0).last (w.whn m x0).lo)), (30, iv ((x0 : Int) + 1)), (10, iv (sprIn (w.whn m) x0 (sprTo (w.whn m) p x0).high x2))] [(8, .cells 37 [iv 0, iv 0]), (0, .cells 107 (cWay w))] 20360) (by kernel_rfl) ⟨(o35 hp x0 hx0 h1 x2 hx2 h3), tv, tv⟩ ?_
   exact loop_next (Hint.ann (h108a w m p) [(6, AV.ptr 8 []), (7, AV.win 0 [PS.fld 1, PS.idx m 6] 2 p), (28, AV.win 0 [PS.fld 1, PS.idx m 6] 2 p), (29, iv (p : Int))] [(8, OB.cells 37 [iv 0, iv 0]), (0, OB.cells 107 (cWay w))] 10176) x0 (ent_q hE [] [(8, .same 8), (0, .same 0)] [29] [8, 0] (((some (Src.same 8) = some (Src.same 8) /\ nilP = []) /\ (some (Src.same 0) = some (Src.same 0) /\ [PS.fld 1, PS.idx m 6] = [PS.fld 1, PS.idx m 6] /\ 2 = 2 /\ p = p) /\ (some (Src.same 0) = some (Src.same 0) /\ [PS.fld 1, PS.idx m 6] = [PS.fld 1, PS.idx m 6] /\ 2 = 2 /\ p = p) /\ (iv (p : Int) = iv (p : Int) /\ true = true) /\ (iv (min (sprTo (w.whn m) p x0).first (w.whn m x0).hi) = iv (sprTo (w.whn m) p (x0 + 1)).first /\ nilN = []) /\ (iv (max (sprTo (w.whn m) p x0).last (w.whn m x0).lo) = iv (sprTo (w.whn m) p (x0 + 1)).last /\ nilN = []) /\ (iv (sprIn (w.whn m) x0 (sprTo (w.whn m) p x0).high x2) = iv (sprTo (w.whn m) p (x0 + 1)).high /\ nilN = []) /\ (iv ((x0 : Int) + 1) = iv (↑(x0 + 1) : Int) /\ nilN = []) /\ True) /\ ((OB.cells 37 [iv 0, iv 0] = OB.cells 37 [iv 0, iv 0] /\ true = true) /\ (OB.cells 107 (cWay w) = OB.cells 107 (cWay w) /\ true = true) /\ True) /\ T2) (by kernel_rfl) (by kernel_rfl) ⟨⟨⟨rfl, rfl⟩, ⟨rfl, rfl, rfl, rfl⟩, ⟨rfl, rfl, rfl, rfl⟩, ⟨rfl, rfl⟩, ⟨(congrArg iv (o36 hp x0 hx0 h1 x2 hx2 h3)), rfl⟩, ⟨(congrArg iv (o37 hp x0 hx0 h1 x2 hx2 h3)), rfl⟩, ⟨(congrArg iv (o38 hp x0 hx0 h1 x2 hx2 h3)), rfl⟩, ⟨(congrArg iv (o39 hp x0 hx0 h1 x2 hx2 h3)), rfl⟩, tv⟩, ⟨⟨rfl, rfl⟩, ⟨rfl, rfl⟩, tv⟩, rfl, rfl⟩) (o40 hp x0 hx0 h1 x2 hx2 h3) (o41 hp x0 hx0 h1 x2 hx2 h3)
 ·refine swp_exit (swp_seq ?_)
  refine sR (kt := [6]) (kh := [8]) (q := True /\ True /\ inI ((sprTo (w.whn m) p x0).last - (sprTo (w.whn m) p x0).first) /\ True /\ True /\ True /\ True /\ True) (st' := ASt.mk [(6, .ptr 8 [])] [(8, .cells 37 [iv (max 0 ((sprTo (w.whn m) p x0).last - (sprTo (w.whn m) p x0).first)), iv (sprTo (w.whn m) p x0).high])] 10240) (by kernel_rfl) ⟨tv, tv, (o42 hp x0 hx0 h1), tv, tv, tv, tv, tv⟩ ?_
  refine swp_ret ?_
  exact ret_q [] ((True /\ True) /\ ((iv (max 0 ((sprTo (w.whn m) p x0).last - (sprTo (w.whn m) p x0).first)) = iv (spread (w.whn m) p).lo /\ nilN = []) /\ (iv (sprTo (w.whn m) p x0).high = iv (spread (w.whn m) p).hi /\ nilN = []) /\ True) /\ T3) (by kernel_rfl) ⟨⟨tv, tv⟩, ⟨⟨(congrArg iv (o43 hp x0 hx0 h1)), rfl⟩, ⟨(congrArg iv (o44 hp x0 hx0 h1)), rfl⟩, tv⟩, rfl, rfl, rfl⟩
theorem t108 (w : WayS) (m p : Nat) : Triple Try.prog 108 (s108 w m p) := by
 have gbw : wb w -> gb (w.whn m) := fun h p => h m p
 apply w108
 all_goals (first
  | ((repeat intro _) <;> (try simp only [v0, v1, v2, v3, v4, v5, v6, v7, v8, v9, inI, fits, Go.Sh.small] at *) <;> first | (exact rfl) | omega | exact vz | (simp_all; done) | (simp_all; omega))
  | (intro hp x hx hl; have h1 := hp.1 m x; have h2 := sprTo_b (gbw hp.1) p x; simp only [sb] at h1; simp only [decide_eq_true_eq, decide_eq_false_iff_not, inI] at *; omega)
  | (intro hp x hx hl k hk hkl h; have h1 := hp.1 m x; have h2 := hp.1 m k; simp only [sb] at h1 h2; simp only [inI]; omega)
  | (intro hp x hx hl k hk hkl h; rw [sprIn_succ, if_neg (show ¬ x = k from fun e => by simp [e] at h)]; done)
  | (intro hp x hx hl k hk hkl h; rw [sprIn_succ, if_pos (show x = k from by simp only [Bool.not_eq_false', decide_eq_true_eq] at h; omega)]; done)
  | (intro hp x hx hl k hk hkl; rw [sprTo_succ, show k = p by simp only [decide_eq_false_iff_not] at hkl; omega]; done)
  | (intro hp x hx hl k hk hkl; rw [sprTo_succ]; done)
  | (intro hp x hx hl; rw [show x = p by simp only [decide_eq_false_iff_not] at hl; omega] <;> rfl))
abbrev q83_1 (w : WayS) (r : Run) (p : Nat) (C : Prop) : Prop := rb r /\ wb w /\ p < 3 -> C
abbrev q83_2 (w : WayS) (r : Run) (p : Nat) (C : Nat -> Prop) : Prop := q83_1 w r p (∀ (x0 : Nat), x0 <= r.machines.length -> decide ((x0 : Int) < (↑(r.machines.length) : Int)) = true -> C x0)
theorem w83 (w : WayS) (r : Run) (p : Nat)
 (o0 : q83_1 w r p (0 = (↑0 : Int)))
 (o1 : q83_1 w r p (0 = (sumTo r (fun (m : Nat) => w.whn m p) 0).lo))
 (o2 : q83_1 w r p (0 = (sumTo r (fun (m : Nat) => w.whn m p) 0).hi))
 (o3 : q83_1 w r p (0 <= r.machines.length))
 (o4 : q83_2 w r p fun x0 => 0 <= (x0 : Int))
 (o5 : q83_2 w r p fun x0 => (x0 : Int) < (↑(r.machines.length) : Int))
 (o6 : q83_2 w r p fun x0 => 0 <= (x0 : Int))
 (o7 : q83_2 w r p fun x0 => (x0 : Int) < (↑3 : Int))
 (o8 : q83_2 w r p fun x0 => 0 <= (p : Int))
 (o9 : q83_2 w r p fun x0 => (p : Int) < (↑3 : Int))
 (o10 : q83_2 w r p fun x0 => x0 < 3)
 (o11 : q83_2 w r p fun x0 => p < 3)
 (o12 : q83_2 w r p fun x0 => inI ((mach r x0).rate * (w.whn x0 p).lo))
 (o13 : q83_2 w r p fun x0 => inI ((sumTo r (fun (m : Nat) => w.whn m p) x0).lo + (mach r x0).rate * (w.whn x0 p).lo))
 (o14 : q83_2 w r p fun x0 => 0 <= (x0 : Int))
 (o15 : q83_2 w r p fun x0 => (x0 : Int) < (↑3 : Int))
 (o16 : q83_2 w r p fun x0 => 0 <= (p : Int))
 (o17 : q83_2 w r p fun x0 => (p : Int) < (↑3 : Int))
 (o18 : q83_2 w r p fun x0 => x0 < 3)
 (o19 : q83_2 w r p fun x0 => p < 3)
 (o20 : q83_2 w r p fun x0 => inI ((mach r x0).rate * (w.whn x0 p).hi))
 (o21 : q83_2 w r p fun x0 => inI ((sumTo r (fun (m : Nat) => w.whn m p) x0).hi + (mach r x0).rate * (w.whn x0 p).hi))
 (o22 : q83_2 w r p fun x0 => inI ((x0 : Int) + 1))
 (o23 : q83_2 w r p fun x0 => (x0 : Int) + 1 = (↑(x0 + 1) : Int))
 (o24 : q83_2 w r p fun x0 => (sumTo r (fun (m : Nat) => w.whn m p) x0).lo + (mach r x0).rate * (w.whn x0 p).lo = (sumTo r (fun (m : Nat) => w.whn m p) (x0 + 1)).lo)
 (o25 : q83_2 w r p fun x0 => (sumTo r (fun (m : Nat) => w.whn m p) x0).hi + (mach r x0).rate * (w.whn x0 p).hi = (sumTo r (fun (m : Nat) => w.whn m p) (x0 + 1)).hi)
 (o26 : q83_2 w r p fun x0 => x0 + 1 <= r.machines.length)
 (o27 : q83_2 w r p fun x0 => r.machines.length - (x0 + 1) < r.machines.length - x0)
 (o28 : q83_1 w r p (∀ (x0 : Nat), x0 <= r.machines.length -> decide ((x0 : Int) < (↑(r.machines.length) : Int)) = false -> (sumTo r (fun (m : Nat) => w.whn m p) x0).lo = (oldF r p w).lo))
 (o29 : q83_1 w r p (∀ (x0 : Nat), x0 <= r.machines.length -> decide ((x0 : Int) < (↑(r.machines.length) : Int)) = false -> (sumTo r (fun (m : Nat) => w.whn m p) x0).hi = (oldF r p w).hi)) :
  Triple Try.prog 83 (s83 w r p) := by
 refine triple_of Try.func83 rfl Try.call83 T0_ok _ rfl rfl rfl rfl (Nat.le_of_ble_eq_true (by kernel_rfl)) (fun _ _ _ _ h => h) ?_
 intro hp C hC _ hE
 obtain ⟨P, w0, E0, av, hA⟩ := C
 subst hC
 refine swp_seq ?_
 refine sR (kt := [1, 2, 3, 4]) (kh := [0, 8]) (q := True /\ True /\ True) (st' := ASt.mk [(1, .rp (cRun r)), (2, .rp [iv (p : Int)]), (3, .ptr 0 []), (4, .ptr 8 [])] [(0, .cells 107 (cWay w)), (8, .cells 37 [iv 0, iv 0])] 16) (by kernel_rfl) ⟨tv, tv, tv⟩ ?_
 refine swp_seq (swp_seq ?_)
 refine sR (kt := [2, 3, 4, 8, 9, 10]) (kh := [0, 8]) (q := True /\ True /\ True /\ True /\ True) (st' := ASt.mk [(2, .rp [iv (p : Int)]), (3, .ptr 0 []), (4, .ptr 8 []), (8, .sl 2 r.machines.length fun (i : Nat) => cMach (mach r i)), (9, iv (↑(r.machines.length) : Int)), (10, iv 0)] [(0, .cells 107 (cWay w)), (8, .cells 37 [iv 0, iv 0])] 48) (by kernel_rfl) ⟨tv, tv, tv, tv, tv⟩ ?_
 refine swp_block ?_
 refine swp_loopA (Hint.ann (h83 w r p) [(2, AV.rp [iv (p : Int)]), (3, AV.ptr 0 []), (8, AV.sl 2 r.machines.length fun (i : Nat) => cMach (mach r i)), (9, iv (↑(r.machines.length) : Int))] [(0, OB.cells 107 (cWay w))] 10048) (ent_q hE [] [(0, .same 0), (5000, .same 8)] [2, 8, 9] [0] (((AV.rp [iv (p : Int)] = AV.rp [iv (p : Int)] /\ true = true) /\ (some (Src.same 0) = some (Src.same 0) /\ nilP = []) /\ (((AV.sl 2 r.machines.length fun (i : Nat) => cMach (mach r i)) = AV.sl 2 r.machines.length fun (i : Nat) => cMach (mach r i)) /\ true = true) /\ (iv (↑(r.machines.length) : Int) = iv (↑(r.machines.length) : Int) /\ true = true) /\ (iv 0 = iv (↑0 : Int) /\ nilN = []) /\ (some (Src.same 8) = some (Src.same 8) /\ nilP = []) /\ True) /\ ((OB.cells 107 (cWay w) = OB.cells 107 (cWay w) /\ true = true) /\ (37 = 37 /\ ((iv 0 = iv (sumTo r (fun (m : Nat) => w.whn m p) 0).lo /\ nilN = []) /\ (iv 0 = iv (sumTo r (fun (m : Nat) => w.whn m p) 0).hi /\ nilN = []) /\ True) /\ true = true) /\ True) /\ T2) (by kernel_rfl) (by kernel_rfl) ⟨⟨⟨rfl, rfl⟩, ⟨rfl, rfl⟩, ⟨rfl, rfl⟩, ⟨rfl, rfl⟩, ⟨(congrArg iv (o0 hp)), rfl⟩, ⟨rfl, rfl⟩, tv⟩, ⟨⟨rfl, rfl⟩, ⟨rfl, ⟨⟨(congrArg iv (o1 hp)), rfl⟩, ⟨(congrArg iv (o2 hp)), rfl⟩, tv⟩, rfl⟩, tv⟩, rfl, rfl⟩) (o3 hp) (fun (x0 : Nat) hx0 => ?_)
 refine swp_seq ?_
 refine sR (kt := [2, 3, 8, 9, 10, 4, 11]) (kh := [0, 5000]) (q := True /\ True) (st' := ASt.mk [(2, .rp [iv (p : Int)]), (3, .ptr 0 []), (8, .sl 2 r.machines.length fun (i : Nat) => cMach (mach r i)), (9, iv (↑(r.machines.length) : Int)), (10, iv (x0 : Int)), (4, .ptr 5000 []), (11, bv (decide ((x0 : Int) < (↑(r.machines.length) : Int))))] [(0, .cells 107 (cWay w)), (5000, .cells 37 (cSpan (sumTo r (fun (m : Nat) => w.whn m p) x0)))] 10056) (by kernel_rfl) ⟨tv, tv⟩ ?_
 refine swp_seq ?_
 refine swp_cond (decide ((x0 : Int) < (↑(r.machines.length) : Int))) (by kernel_rfl) (fun h1 => ?_) (fun h1 => ?_)
 ·refine swp_skip (swp_seq (swp_block (swp_seq ?_)))
  refine sR (kt := [2, 3, 8, 9, 10, 4, 6, 5]) (kh := [0, 5000, 10080]) (q := True /\ (0 <= (x0 : Int) /\ (x0 : Int) < (↑(r.machines.length) : Int)) /\ True /\ True /\ True /\ True /\ True) (st' := ASt.mk [(2, .rp [iv (p : Int)]), (3, .ptr 0 []), (8, .sl 2 r.machines.length fun (i : Nat) => cMach (mach r i)), (9, iv (↑(r.machines.length) : Int)), (10, iv (x0 : Int)), (4, .ptr 5000 []), (6, .ptr 10080 []), (5, iv (x0 : Int))] [(0, .cells 107 (cWay w)), (5000, .cells 37 (cSpan (sumTo r (fun (m : Nat) => w.whn m p) x0))), (10080, .cells 42 (cMach (mach r x0)))] 10104) (by kernel_rfl) ⟨tv, ⟨(o4 hp x0 hx0 h1), (o5 hp x0 hx0 h1)⟩, tv, tv, tv, tv, tv⟩ ?_
  refine swp_seq ?_
  refine sR (kt := [2, 3, 8, 9, 10, 4, 6, 5]) (kh := [0, 5000, 10080]) (q := True /\ True /\ True /\ True /\ True /\ True /\ True /\ (0 <= (x0 : Int) /\ (x0 : Int) < (↑3 : Int)) /\ (0 <= (p : Int) /\ (p : Int) < (↑3 : Int)) /\ True /\ (x0 < 3 /\ p < 3 /\ True) /\ inI ((mach r x0).rate * (w.whn x0 p).lo) /\ inI ((sumTo r (fun (m : Nat) => w.whn m p) x0).lo + (mach r x0).rate * (w.whn x0 p).lo) /\ True /\ True /\ True) (st' := ASt.mk [(2, .rp [iv (p : Int)]), (3, .ptr 0 []), (8, .sl 2 r.machines.length fun (i : Nat) => cMach (mach r i)), (9, iv (↑(r.machines.length) : Int)), (10, iv (x0 : Int)), (4, .ptr 5000 []), (6, .ptr 10080 []), (5, iv (x0 : Int))] [(0, .cells 107 (cWay w)), (5000, .cells 37 [iv ((sumTo r (fun (m : Nat) => w.whn m p) x0).lo + (mach r x0).rate * (w.whn x0 p).lo), iv (sumTo r (fun (m : Nat) => w.whn m p) x0).hi]), (10080, .cells 42 (cMach (mach r x0)))] 10224) (by kernel_rfl) ⟨tv, tv, tv, tv, tv, tv, tv, ⟨(o6 hp x0 hx0 h1), (o7 hp x0 hx0 h1)⟩, ⟨(o8 hp x0 hx0 h1), (o9 hp x0 hx0 h1)⟩, tv, ⟨(o10 hp x0 hx0 h1), (o11 hp x0 hx0 h1), tv⟩, (o12 hp x0 hx0 h1), (o13 hp x0 hx0 h1), tv, tv, tv⟩ ?_
  refine sR (kt := [2, 3, 8, 9, 10, 4]) (kh := [0, 5000]) (q := True /\ True /\ True /\ True /\ True /\ True /\ True /\ (0 <= (x0 : Int) /\ (x0 : Int) < (↑3 : Int)) /\ (0 <= (p : Int) /\ (p : Int) < (↑3 : Int)) /\ True /\ (x0 < 3 /\ p < 3 /\ True) /\ inI ((mach r x0).rate * (w.whn x0 p).hi) /\ inI ((sumTo r (fun (m : Nat) => w.whn m p) x0).hi + (mach r x0).rate * (w.whn x0 p).hi) /\ True /\ True /\ True) (st' := ASt.mk [(2, .rp [iv (p : Int)]), (3, .ptr 0 []), (8, .sl 2 r.machines.length fun (i : Nat) => cMach (mach r i)), (9, iv (↑(r.machines.length) : Int)), (10, iv (x0 : Int)), (4, .ptr 5000 [])] [(0, .cells 107 (cWay w)), (5000, .cells 37 [iv ((sumTo r (fun (m : Nat) => w.whn m p) x0).lo + (mach r x0).rate * (w.whn x0 p).lo), iv ((sumTo r (fun (m : Nat) => w.whn m p) x0).hi + (mach r x0).rate * (w.whn x0 p).hi)])] 10344) (by kernel_rfl) ⟨tv, tv, tv, tv, tv, tv, tv, ⟨(o14 hp x0 hx0 h1), (o15 hp x0 hx0 h1)⟩, ⟨(o16 hp x0 hx0 h1), (o17 hp x0 hx0 h1)⟩, tv, ⟨(o18 hp x0 hx0 h1), (o19 hp x0 hx0 h1), tv⟩, (o20 hp x0 hx0 h1), (o21 hp x0 hx0 h1), tv, tv, tv⟩ ?_
  refine sR (kt := [2, 3, 8, 9, 10, 4]) (kh := [0, 5000]) (q := inI ((x0 : Int) + 1) /\ True /\ True) (st' := ASt.mk [(2, .rp [iv (p : Int)]), (3, .ptr 0 []), (8, .sl 2 r.machines.length fun (i : Nat) => cMach (mach r i)), (9, iv (↑(r.machines.length) : Int)), (10, iv ((x0 : Int) + 1)), (4, .ptr 5000 [])] [(0, .cells 107 (cWay w)), (5000, .cells 37 [iv ((sumTo r (fun (m : Nat) => w.whn m p) x0).lo + (mach r x0).rate * (w.whn x0 p).lo), iv ((sumTo r (fun (m : Nat) => w.whn m p) x0).hi + (mach r x0).rate * (w.whn x0 p).hi)])] 10360) (by kernel_rfl) ⟨(o22 hp x0 hx0 h1), tv, tv⟩ ?_
  exact loop_next (Hint.ann (h83 w r p) [(2, AV.rp [iv (p : Int)]), (3, AV.ptr 0 []), (8, AV.sl 2 r.machines.length fun (i : Nat) => cMach (mach r i)), (9, iv (↑(r.machines.length) : Int))] [(0, OB.cells 107 (cWay w))] 10048) x0 (ent_q hE [] [(0, .same 0), (5000, .same 5000)] [2, 8, 9] [0] (((AV.rp [iv (p : Int)] = AV.rp [iv (p : Int)] /\ true = true) /\ (some (Src.same 0) = some (Src.same 0) /\ nilP = []) /\ (((AV.sl 2 r.machines.length fun (i : Nat) => cMach (mach r i)) = AV.sl 2 r.machines.length fun (i : Nat) => cMach (mach r i)) /\ true = true) /\ (iv (↑(r.machines.length) : Int) = iv (↑(r.machines.length) : Int) /\ true = true) /\ (iv ((x0 : Int) + 1) = iv (↑(x0 + 1) : Int) /\ nilN = []) /\ (some (Src.same 5000) = some (Src.same 5000) /\ nilP = []) /\ True) /\ ((OB.cells 107 (cWay w) = OB.cells 107 (cWay w) /\ true = true) /\ (37 = 37 /\ ((iv ((sumTo r (fun (m : Nat) => w.whn m p) x0).lo + (mach r x0).rate * (w.whn x0 p).lo) = iv (sumTo r (fun (m : Nat) => w.whn m p) (x0 + 1)).lo /\ nilN = []) /\ (iv ((sumTo r (fun (m : Nat) => w.whn m p) x0).hi + (mach r x0).rate * (w.whn x0 p).hi) = iv (sumTo r (fun (m : Nat) => w.whn m p) (x0 + 1)).hi /\ nilN = []) /\ True) /\ true = true) /\ True) /\ T2) (by kernel_rfl) (by kernel_rfl) ⟨⟨⟨rfl, rfl⟩, ⟨rfl, rfl⟩, ⟨rfl, rfl⟩, ⟨rfl, rfl⟩, ⟨(congrArg iv (o23 hp x0 hx0 h1)), rfl⟩, ⟨rfl, rfl⟩, tv⟩, ⟨⟨rfl, rfl⟩, ⟨rfl, ⟨⟨(congrArg iv (o24 hp x0 hx0 h1)), rfl⟩, ⟨(congrArg iv (o25 hp x0 hx0 h1)), rfl⟩, tv⟩, rfl⟩, tv⟩, rfl, rfl⟩) (o26 hp x0 hx0 h1) (o27 hp x0 hx0 h1)
 ·refine swp_exit (swp_seq ?_)
  refine sR (kt := [4]) (kh := [5000]) (q := True /\ True /\ True) (st' := ASt.mk [(4, .ptr 5000 [])] [(5000, .cells 37 (cSpan (sumTo r (fun (m : Nat) => w.whn m p) x0)))] 10072) (by kernel_rfl) ⟨tv, tv, tv⟩ ?_
  refine swp_ret ?_
  exact ret_q [] ((True /\ True) /\ ((iv (sumTo r (fun (m : Nat) => w.whn m p) x0).lo = iv (oldF r p w).lo /\ nilN = []) /\ (iv (sumTo r (fun (m : Nat) => w.whn m p) x0).hi = iv (oldF r p w).hi /\ nilN = []) /\ True) /\ T3) (by kernel_rfl) ⟨⟨tv, tv⟩, ⟨⟨(congrArg iv (o28 hp x0 hx0 h1)), rfl⟩, ⟨(congrArg iv (o29 hp x0 hx0 h1)), rfl⟩, tv⟩, rfl, rfl, rfl⟩
theorem t83 (w : WayS) (r : Run) (p : Nat) : Triple Try.prog 83 (s83 w r p) := by
 apply w83
 all_goals (try (first | (((repeat intro _) <;> (try simp only [v0, v1, v2, v3, v4, v5, v6, v7, v8, v9, inI, fits, Go.Sh.small] at *) <;> first | (exact rfl) | omega | exact vz | (simp_all; done) | (simp_all; omega))) | ((repeat intro _); rw [sumTo_succ]; done) | (intro hp x hx hl; rw [show x = r.machines.length by simp only [decide_eq_false_iff_not] at hl; omega] <;> rfl) | (
  intro hp x hx hl
  simp only [decide_eq_true_eq] at hl
  have h1 := hp.2.1 x p
  have h2 := sumTo_b hp.1 (f := fun m => w.whn m p) (fun m => hp.2.1 m p) x (by omega)
  have h3 := hp.1.2 x (by omega)
  have h4 := rate_mul h3 ⟨h1.1, h1.2.1⟩
  have h5 := rate_mul h3 ⟨h1.2.2.1, h1.2.2.2⟩
  have h6 := hp.1.1
  try simp only [inI]
  omega)))
abbrev q117_1 (w : WayS) (r : Run) (C : Prop) : Prop := rb r /\ wb w /\ 1 <= r.plates /\ r.plates <= 3 -> C
abbrev q117_2 (w : WayS) (r : Run) (C : Nat -> Prop) : Prop := q117_1 w r (∀ (x0 : Nat), x0 <= r.machines.length -> decide ((x0 : Int) < (↑(r.machines.length) : Int)) = true -> C x0)
theorem w117 (w : WayS) (r : Run)
 (o0 : q117_1 w r (0 = (↑0 : Int)))
 (o1 : q117_1 w r (0 = (sumTo r (fun (m : Nat) => spread (w.whn m) r.plates.toNat) 0).lo))
 (o2 : q117_1 w r (0 = (sumTo r (fun (m : Nat) => spread (w.whn m) r.plates.toNat) 0).hi))
 (o3 : q117_1 w r (0 <= r.machines.length))
 (o4 : q117_2 w r fun x0 => 0 <= (x0 : Int))
 (o5 : q117_2 w r fun x0 => (x0 : Int) < (↑(r.machines.length) : Int))
 (o6 : q117_2 w r fun x0 => r.plates = (↑(r.plates.toNat) : Int))
 (o7 : q117_2 w r fun x0 => wb w)
 (o8 : q117_2 w r fun x0 => x0 < 3)
 (o9 : q117_2 w r fun x0 => 1 <= r.plates.toNat)
 (o10 : q117_2 w r fun x0 => r.plates.toNat <= 3)
 (o11 : q117_2 w r fun x0 => inI ((mach r x0).rate * (spread (w.whn x0) r.plates.toNat).lo))
 (o12 : q117_2 w r fun x0 => inI ((sumTo r (fun (m : Nat) => spread (w.whn m) r.plates.toNat) x0).lo + (mach r x0).rate * (spread (w.whn x0) r.plates.toNat).lo))
 (o13 : q117_2 w r fun x0 => inI ((mach r x0).rate * (spread (w.whn x0) r.plates.toNat).hi))
 (o14 : q117_2 w r fun x0 => inI ((sumTo r (fun (m : Nat) => spread (w.whn m) r.plates.toNat) x0).hi + (mach r x0).rate * (spread (w.whn x0) r.plates.toNat).hi))
 (o15 : q117_2 w r fun x0 => inI ((x0 : Int) + 1))
 (o16 : q117_2 w r fun x0 => (x0 : Int) + 1 = (↑(x0 + 1) : Int))
 (o17 : q117_2 w r fun x0 => (sumTo r (fun (m : Nat) => spread (w.whn m) r.plates.toNat) x0).lo + (mach r x0).rate * (spread (w.whn x0) r.plates.toNat).lo = (sumTo r (fun (m : Nat) => spread (w.whn m) r.plates.toNat) (x0 + 1)).lo)
 (o18 : q117_2 w r fun x0 => (sumTo r (fun (m : Nat) => spread (w.whn m) r.plates.toNat) x0).hi + (mach r x0).rate * (spread (w.whn x0) r.plates.toNat).hi = (sumTo r (fun (m : Nat) => spread (w.whn m) r.plates.toNat) (x0 + 1)).hi)
 (o19 : q117_2 w r fun x0 => x0 + 1 <= r.machines.length)
 (o20 : q117_2 w r fun x0 => r.machines.length - (x0 + 1) < r.machines.length - x0)
 (o21 : q117_1 w r (∀ (x0 : Nat), x0 <= r.machines.length -> decide ((x0 : Int) < (↑(r.machines.length) : Int)) = false -> (sumTo r (fun (m : Nat) => spread (w.whn m) r.plates.toNat) x0).lo = (mixF r w).lo))
 (o22 : q117_1 w r (∀ (x0 : Nat), x0 <= r.machines.length -> decide ((x0 : Int) < (↑(r.machines.length) : Int)) = false -> (sumTo r (fun (m : Nat) => spread (w.whn m) r.plates.toNat) x0).hi = (mixF r w).hi)) :
  Triple Try.prog 117 (s117 w r) := by
 refine triple_of Try.func117 rfl Try.call117 T0_ok _ rfl rfl rfl rfl (Nat.le_of_ble_eq_true (by kernel_rfl)) (fun _ _ _ _ h => h) ?_
 intro hp C hC _ hE
 obtain ⟨P, w0, E0, av, hA⟩ := C
 subst hC
 refine swp_seq ?_
 refine sR (kt := [1, 2, 3]) (kh := [0, 8]) (q := True /\ True /\ True) (st' := ASt.mk [(1, .rp (cRun r)), (2, .ptr 0 []), (3, .ptr 8 [])] [(0, .cells 107 (cWay w)), (8, .cells 37 [iv 0, iv 0])] 16) (by kernel_rfl) ⟨tv, tv, tv⟩ ?_
 refine swp_seq (swp_seq ?_)
 refine sR (kt := [1, 2, 3, 8, 9, 10]) (kh := [0, 8]) (q := True /\ True /\ True /\ True /\ True) (st' := ASt.mk [(1, .rp (cRun r)), (2, .ptr 0 []), (3, .ptr 8 []), (8, .sl 2 r.machines.length fun (i : Nat) => cMach (mach r i)), (9, iv (↑(r.machines.length) : Int)), (10, iv 0)] [(0, .cells 107 (cWay w)), (8, .cells 37 [iv 0, iv 0])] 48) (by kernel_rfl) ⟨tv, tv, tv, tv, tv⟩ ?_
 refine swp_block ?_
 refine swp_loopA (Hint.ann (h117 w r) [(1, AV.rp (cRun r)), (2, AV.ptr 0 []), (8, AV.sl 2 r.machines.length fun (i : Nat) => cMach (mach r i)), (9, iv (↑(r.machines.length) : Int))] [(0, OB.cells 107 (cWay w))] 10048) (ent_q hE [] [(0, .same 0), (5000, .same 8)] [1, 8, 9] [0] (((AV.rp (cRun r) = AV.rp (cRun r) /\ true = true) /\ (some (Src.same 0) = some (Src.same 0) /\ nilP = []) /\ (((AV.sl 2 r.machines.length fun (i : Nat) => cMach (mach r i)) = AV.sl 2 r.machines.length fun (i : Nat) => cMach (mach r i)) /\ true = true) /\ (iv (↑(r.machines.length) : Int) = iv (↑(r.machines.length) : Int) /\ true = true) /\ (iv 0 = iv (↑0 : Int) /\ nilN = []) /\ (some (Src.same 8) = some (Src.same 8) /\ nilP = []) /\ True) /\ ((OB.cells 107 (cWay w) = OB.cells 107 (cWay w) /\ true = true) /\ (37 = 37 /\ ((iv 0 = iv (sumTo r (fun (m : Nat) => spread (w.whn m) r.plates.toNat) 0).lo /\ nilN = []) /\ (iv 0 = iv (sumTo r (fun (m : Nat) => spread (w.whn m) r.plates.toNat) 0).hi /\ nilN = []) /\ True) /\ true = true) /\ True) /\ T2) (by kernel_rfl) (by kernel_rfl) ⟨⟨⟨rfl, rfl⟩, ⟨rfl, rfl⟩, ⟨rfl, rfl⟩, ⟨rfl, rfl⟩, ⟨(congrArg iv (o0 hp)), rfl⟩, ⟨rfl, rfl⟩, tv⟩, ⟨⟨rfl, rfl⟩, ⟨rfl, ⟨⟨(congrArg iv (o1 hp)), rfl⟩, ⟨(congrArg iv (o2 hp)), rfl⟩, tv⟩, rfl⟩, tv⟩, rfl, rfl⟩) (o3 hp) (fun (x0 : Nat) hx0 => ?_)
 refine swp_seq ?_
 refine sR (kt := [1, 2, 8, 9, 10, 3, 11]) (kh := [0, 5000]) (q := True /\ True) (st' := ASt.mk [(1, .rp (cRun r)), (2, .ptr 0 []), (8, .sl 2 r.machines.length fun (i : Nat) => cMach (mach r i)), (9, iv (↑(r.machines.length) : Int)), (10, iv (x0 : Int)), (3, .ptr 5000 []), (11, bv (decide ((x0 : Int) < (↑(r.machines.length) : Int))))] [(0, .cells 107 (cWay w)), (5000, .cells 37 (cSpan (sumTo r (fun (m : Nat) => spread (w.whn m) r.plates.toNat) x0)))] 10056) (by kernel_rfl) ⟨tv, tv⟩ ?_
 refine swp_seq ?_
 refine swp_cond (decide ((x0 : Int) < (↑(r.machines.length) : Int))) (by kernel_rfl) (fun h1 => ?_) (fun h1 => ?_)
 ·refine swp_skip (swp_seq (swp_block (swp_seq ?_)))
  refine sR (kt := [1, 2, 8, 9, 10, 3, 5, 4]) (kh := [0, 5000, 10080]) (q := True /\ (0 <= (x0 : Int) /\ (x0 : Int) < (↑(r.machines.length) : Int)) /\ True /\ True /\ True /\ True /\ True) (st' := ASt.mk [(1, .rp (cRun r)), (2, .ptr 0 []), (8, .sl 2 r.machines.length fun (i : Nat) => cMach (mach r i)), (9, iv (↑(r.machines.length) : Int)), (10, iv (x0 : Int)), (3, .ptr 5000 []), (5, .ptr 10080 []), (4, iv (x0 : Int))] [(0, .cells 107 (cWay w)), (5000, .cells 37 (cSpan (sumTo r (fun (m : Nat) => spread (w.whn m) r.plates.toNat) x0))), (10080, .cells 42 (cMach (mach r x0)))] 10104) (by kernel_rfl) ⟨tv, ⟨(o4 hp x0 hx0 h1), (o5 hp x0 hx0 h1)⟩, tv, tv, tv, tv, tv⟩ ?_
  refine swp_seq ?_
  refine swp_region T0_ok mixed (cs := [(4, CallSpec.eq (c117 w r x0) [true, true, false])]) (kt := [1, 2, 8, 9, 10, 3, 5, 6]) (kh := [0, 5000, 10080, 10144]) (q := True /\ True /\ True /\ True /\ ((AV.agg (cWay w) = AV.agg (cWay w) /\ iv (x0 : Int) = iv (x0 : Int) /\ iv r.plates = iv (↑(r.plates.toNat) : Int) /\ True) /\ Triple Try.prog 108 (c117 w r x0) /\ (wb w /\ x0 < 3 /\ 1 <= r.plates.toNat /\ r.plates.toNat <= 3) /\ True /\ ∀ (i2 : Env), True) /\ True /\ True /\ True) (st' := ASt.mk [(1, .rp (cRun r)), (2, .ptr 0 []), (8, .sl 2 r.machines.length fun (i : Nat) => cMach (mach r i)), (9, iv (↑(r.machines.length) : Int)), (10, iv (x0 : Int)), (3, .ptr 5000 []), (5, .ptr 10080 []), (6, .ptr 10144 [])] [(0, .cells 107 (cWay w)), (5000, .cells 37 (cSpan (sumTo r (fun (m : Nat) => spread (w.whn m) r.plates.toNat) x0))), (10080, .cells 42 (cMach (mach r x0))), (10144, .cells 37 (cSpan (spread (w.whn x0) r.plates.toNat)))] 10160) (by kernel_rfl) ⟨tv, tv, tv, tv, ⟨⟨rfl, rfl, (congrArg iv (o6 hp x0 hx0 h1)), tv⟩, (t108 _ _ _), ⟨(o7 hp x0 hx0 h1), (o8 hp x0 hx0 h1), (o9 hp x0 hx0 h1), (o10 hp x0 hx0 h1)⟩, tv, (fun i2 => tv)⟩, tv, tv, tv⟩ ?_
  refine swp_seq ?_
  refine sR (kt := [1, 2, 8, 9, 10, 3, 5, 6]) (kh := [0, 5000, 10080, 10144]) (q := True /\ True /\ True /\ True /\ True /\ True /\ inI ((mach r x0).rate * (spread (w.whn x0) r.plates.toNat).lo) /\ inI ((sumTo r (fun (m : Nat) => spread (w.whn m) r.plates.toNat) x0).lo + (mach r x0).rate * (spread (w.whn x0) r.plates.toNat).lo) /\ True /\ True /\ True) (st' := ASt.mk [(1, .rp (cRun r)), (2, .ptr 0 []), (8, .sl 2 r.machines.length fun (i : Nat) => cMach (mach r i)), (9, iv (↑(r.machines.length) : Int)), (10, iv (x0 : Int)), (3, .ptr 5000 []), (5, .ptr 10080 []), (6, .ptr 10144 [])] [(0, .cells 107 (cWay w)), (5000, .cells 37 [iv ((sumTo r (fun (m : Nat) => spread (w.whn m) r.plates.toNat) x0).lo + (mach r x0).rate * (spread (w.whn x0) r.plates.toNat).lo), iv (sumTo r (fun (m : Nat) => spread (w.whn m) r.plates.toNat) x0).hi]), (10080, .cells 42 (cMach (mach r x0))), (10144, .cells 37 (cSpan (spread (w.whn x0) r.plates.toNat)))] 10240) (by kernel_rfl) ⟨tv, tv, tv, tv, tv, tv, (o11 hp x0 hx0 h1), (o12 hp x0 hx0 h1), tv, tv, tv⟩ ?_
  refine sR (kt := [1, 2, 8, 9, 10, 3]) (kh := [0, 5000]) (q := True /\ True /\ True /\ True /\ True /\ True /\ inI ((mach r x0).rate * (spread (w.whn x0) r.plates.toNat).hi) /\ inI ((sumTo r (fun (m : Nat) => spread (w.whn m) r.plates.toNat) x0).hi + (mach r x0).rate * (spread (w.whn x0) r.plates.toNat).hi) /\ True /\ True /\ True) (st' := ASt.mk [(1, .rp (cRun r)), (2, .ptr 0 []), (8, .sl 2 r.machines.length fun (i : Nat) => cMach (mach r i)), (9, iv (↑(r.machines.length) : Int)), (10, iv (x0 : Int)), (3, .ptr 5000 [])] [(0, .cells 107 (cWay w)), (5000, .cells 37 [iv ((sumTo r (fun (m : Nat) => spread (w.whn m) r.plates.toNat) x0).lo + (mach r x0).rate * (spread (w.whn x0) r.plates.toNat).lo), iv ((sumTo r (fun (m : Nat) => spread (w.whn m) r.plates.toNat) x0).hi + (mach r x0).rate * (spread (w.whn x0) r.plates.toNat).hi)])] 10320) (by kernel_rfl) ⟨tv, tv, tv, tv, tv, tv, (o13 hp x0 hx0 h1), (o14 hp x0 hx0 h1), tv, tv, tv⟩ ?_
  refine sR (kt := [1, 2, 8, 9, 10, 3]) (kh := [0, 5000]) (q := inI ((x0 : Int) + 1) /\ True /\ True) (st' := ASt.mk [(1, .rp (cRun r)), (2, .ptr 0 []), (8, .sl 2 r.machines.length fun (i : Nat) => cMach (mach r i)), (9, iv (↑(r.machines.length) : Int)), (10, iv ((x0 : Int) + 1)), (3, .ptr 5000 [])] [(0, .cells 107 (cWay w)), (5000, .cells 37 [iv ((sumTo r (fun (m : Nat) => spread (w.whn m) r.plates.toNat) x0).lo + (mach r x0).rate * (spread (w.whn x0) r.plates.toNat).lo), iv ((sumTo r (fun (m : Nat) => spread (w.whn m) r.plates.toNat) x0).hi + (mach r x0).rate * (spread (w.whn x0) r.plates.toNat).hi)])] 10336) (by kernel_rfl) ⟨(o15 hp x0 hx0 h1), tv, tv⟩ ?_
  exact loop_next (Hint.ann (h117 w r) [(1, AV.rp (cRun r)), (2, AV.ptr 0 []), (8, AV.sl 2 r.machines.length fun (i : Nat) => cMach (mach r i)), (9, iv (↑(r.machines.length) : Int))] [(0, OB.cells 107 (cWay w))] 10048) x0 (ent_q hE [] [(0, .same 0), (5000, .same 5000)] [1, 8, 9] [0] (((AV.rp (cRun r) = AV.rp (cRun r) /\ true = true) /\ (some (Src.same 0) = some (Src.same 0) /\ nilP = []) /\ (((AV.sl 2 r.machines.length fun (i : Nat) => cMach (mach r i)) = AV.sl 2 r.machines.length fun (i : Nat) => cMach (mach r i)) /\ true = true) /\ (iv (↑(r.machines.length) : Int) = iv (↑(r.machines.length) : Int) /\ true = true) /\ (iv ((x0 : Int) + 1) = iv (↑(x0 + 1) : Int) /\ nilN = []) /\ (some (Src.same 5000) = some (Src.same 5000) /\ nilP = []) /\ True) /\ ((OB.cells 107 (cWay w) = OB.cells 107 (cWay w) /\ true = true) /\ (37 = 37 /\ ((iv ((sumTo r (fun (m : Nat) => spread (w.whn m) r.plates.toNat) x0).lo + (mach r x0).rate * (spread (w.whn x0) r.plates.toNat).lo) = iv (sumTo r (fun (m : Nat) => spread (w.whn m) r.plates.toNat) (x0 + 1)).lo /\ nilN = []) /\ (iv ((sumTo r (fun (m : Nat) => spread (w.whn m) r.plates.toNat) x0).hi + (mach r x0).rate * (spread (w.whn x0) r.plates.toNat).hi) = iv (sumTo r (fun (m : Nat) => spread (w.whn m) r.plates.toNat) (x0 + 1)).hi /\ nilN = []) /\ True) /\ true = true) /\ True) /\ T2) (by kernel_rfl) (by kernel_rfl) ⟨⟨⟨rfl, rfl⟩, ⟨rfl, rfl⟩, ⟨rfl, rfl⟩, ⟨rfl, rfl⟩, ⟨(congrArg iv (o16 hp x0 hx0 h1)), rfl⟩, ⟨rfl, rfl⟩, tv⟩, ⟨⟨rfl, rfl⟩, ⟨rfl, ⟨⟨(congrArg iv (o17 hp x0 hx0 h1)), rfl⟩, ⟨(congrArg iv (o18 hp x0 hx0 h1)), rfl⟩, tv⟩, rfl⟩, tv⟩, rfl, rfl⟩) (o19 hp x0 hx0 h1) (o20 hp x0 hx0 h1)
 ·refine swp_exit (swp_seq ?_)
  refine sR (kt := [3]) (kh := [5000]) (q := True /\ True /\ True) (st' := ASt.mk [(3, .ptr 5000 [])] [(5000, .cells 37 (cSpan (sumTo r (fun (m : Nat) => spread (w.whn m) r.plates.toNat) x0)))] 10072) (by kernel_rfl) ⟨tv, tv, tv⟩ ?_
  refine swp_ret ?_
  exact ret_q [] ((True /\ True) /\ ((iv (sumTo r (fun (m : Nat) => spread (w.whn m) r.plates.toNat) x0).lo = iv (mixF r w).lo /\ nilN = []) /\ (iv (sumTo r (fun (m : Nat) => spread (w.whn m) r.plates.toNat) x0).hi = iv (mixF r w).hi /\ nilN = []) /\ True) /\ T3) (by kernel_rfl) ⟨⟨tv, tv⟩, ⟨⟨(congrArg iv (o21 hp x0 hx0 h1)), rfl⟩, ⟨(congrArg iv (o22 hp x0 hx0 h1)), rfl⟩, tv⟩, rfl, rfl, rfl⟩
theorem t117 (w : WayS) (r : Run) : Triple Try.prog 117 (s117 w r) := by
 apply w117
 all_goals (try (first | (((repeat intro _) <;> (try simp only [v0, v1, v2, v3, v4, v5, v6, v7, v8, v9, inI, fits, Go.Sh.small] at *) <;> first | (exact rfl) | omega | exact vz | (simp_all; done) | (simp_all; omega))) | (intro hp _ _ _; exact hp.2.1) | ((repeat intro _); rw [sumTo_succ]; done) | (intro hp x hx hl; rw [show x = r.machines.length by simp only [decide_eq_false_iff_not] at hl; omega] <;> rfl) | (
  intro hp x hx hl
  simp only [decide_eq_true_eq] at hl
  have h1 := spread_b (g := w.whn x) (fun q => hp.2.1 x q) r.plates.toNat
  have h2 := sumTo_b hp.1 (f := fun m => spread (w.whn m) r.plates.toNat) (fun m => spread_b (fun q => hp.2.1 m q) _) x (by omega)
  have h3 := hp.1.2 x (by omega)
  have h4 := rate_mul h3 ⟨h1.1, h1.2.1⟩
  have h5 := rate_mul h3 ⟨h1.2.2.1, h1.2.2.2⟩
  have h6 := hp.1.1
  try simp only [inI]
  omega)))
abbrev q84_1 (r : Run) (l : List WayS) (C : Prop) : Prop := fits r /\ rb r /\ (∀ (w : WayS), w ∈ l -> wb w) /\ 1 <= r.plates /\ r.plates <= 3 /\ 0 < l.length /\ l.length <= 65536 -> C
theorem w84 (r : Run) (l : List WayS)
 (o0 : q84_1 r l (0 < l.length))
 (o1 : q84_1 r l (l.length <= 65536))
 (o2 : ∀ (E0 : Env), fits r /\ rb r /\ (∀ (w : WayS), w ∈ l -> wb w) /\ 1 <= r.plates /\ r.plates <= 3 /\ 0 < l.length /\ l.length <= 65536 -> ∀ (i0 : Env) (i1 : List Value), Env.le E0 i0 -> i1.length = List.length [aWays l, AV.fn 0] -> (∀ (k : Nat), Rel i0 true (List.getD [aWays l, AV.clo 117 [AV.rp (cRun r)]] k AV.any) (i1.getD k undef)) -> fnokOf Try.prog 0 (fun (w : { w : WayS // w ∈ l }) => [AV.agg (cWay (Subtype.val w))]) (fun (w : { w : WayS // w ∈ l }) => vSpan (mixF r (Subtype.val w))) (Env.mk i0.1 i0.2 i0.3 fun (k : Nat) (u : Value) => ∃ (i : Nat), [aWays l, AV.fn 0][i]? = some (AV.fn k) /\ i1[i]? = some u)) :
  Triple Try.prog 84 (s84 r l) := by
 refine triple_of Try.func84 rfl Try.call84 T0_ok _ rfl rfl rfl rfl (Nat.le_of_ble_eq_true (by kernel_rfl)) (fun _ _ _ _ h => h) ?_
 intro hp C hC _ hE
 obtain ⟨P, w0, E0, av, hA⟩ := C
 subst hC
 refine swp_seq ?_
 refine sR (kt := [1, 2, 4]) (kh := [0, 8]) (q := True /\ True /\ True) (st' := ASt.mk [(1, aWays l), (2, .ptr 0 []), (4, .ptr 8 [])] [(0, .cells 25 (cRun r)), (8, .cells 37 [iv 0, iv 0])] 16) (by kernel_rfl) ⟨tv, tv, tv⟩ ?_
 refine swp_seq ?_
 refine swp_ent (ent_fz 0 25 (cRun r) (ASt.mk [(1, aWays l), (2, AV.rp (cRun r)), (4, AV.ptr 8 [])] [(8, OB.cells 37 [iv 0, iv 0])] 16) (by kernel_rfl) (by kernel_rfl) (by kernel_rfl)) ?_
 refine swp_region T0_ok mixed (cs := [(2, CallSpec.eq (c84 r l) [true, false])]) (kt := [4]) (kh := [8]) (q := True /\ True /\ ((aWays l = aWays l /\ True /\ True) /\ Triple Try.prog 81 (c84 r l) /\ (0 < l.length /\ l.length <= 65536) /\ True /\ ∀ (i0 : Env) (i1 : List Value), Env.le E0 i0 -> i1.length = List.length [aWays l, AV.fn 0] -> (∀ (k : Nat), Rel i0 true (List.getD [aWays l, AV.clo 117 [AV.rp (cRun r)]] k AV.any) (i1.getD k undef)) -> fnokOf Try.prog 0 (fun (w : { w : WayS // w ∈ l }) => [AV.agg (cWay (Subtype.val w))]) (fun (w : { w : WayS // w ∈ l }) => vSpan (mixF r (Subtype.val w))) (Env.mk i0.1 i0.2 i0.3 fun (k : Nat) (u : Value) => ∃ (i : Nat), [aWays l, AV.fn 0][i]? = some (AV.fn k) /\ i1[i]? = some u)) /\ True /\ True) (st' := ASt.mk [(4, .ptr 8 [])] [(8, .cells 37 (cSpan (hullOf l (mixF r))))] 48) (by kernel_rfl) ⟨tv, tv, ⟨⟨rfl, tv, tv⟩, (t81 _ _), ⟨(o0 hp), (o1 hp)⟩, tv, (fun i0 => (fun i1 => (fun h2 => (fun h3 => (fun h4 => (o2 E0 hp i0 i1 h2 h3 h4))))))⟩, tv, tv⟩ ?_
 refine swp_ret ?_
 exact ret_q [] ((True /\ True) /\ ((iv (hullOf l (mixF r)).lo = iv (hullOf l (mixF r)).lo /\ nilN = []) /\ (iv (hullOf l (mixF r)).hi = iv (hullOf l (mixF r)).hi /\ nilN = []) /\ True) /\ T3) (by kernel_rfl) ⟨⟨tv, tv⟩, ⟨⟨rfl, rfl⟩, ⟨rfl, rfl⟩, tv⟩, rfl, rfl, rfl⟩
theorem t84 (r : Run) (l : List WayS) : Triple Try.prog 84 (s84 r l) := by
 apply w84
 case o2 =>
  intro E0 hp E us le hlen hr
  refine fnok_arg (vals := [aWays l, .clo 117 [.rp (cRun r)]]) 1 (fun j' h => ?_) (fun E u hu w => fnok_clo (caps := [.rp (cRun r)]) (s117 w.1 r) (t117 w.1 _) rfl ⟨hp.2.1, hp.2.2.1 _ w.2, hp.2.2.2.1, hp.2.2.2.2.1⟩ (fun _ => trivial) rfl rfl rfl rfl rfl hu) E us le hlen hr
  match j', h with
  | 0, h => cases h
  | 1, _ => rfl
  | n + 2, h => simp at h
 all_goals ((repeat intro _) <;> (try simp only [v0, v1, v2, v3, v4, v5, v6, v7, v8, v9, inI, fits, Go.Sh.small] at *) <;> first | (exact rfl) | omega | exact vz | (simp_all; done) | (simp_all; omega))
abbrev q27_1 (r : Run) (C : Prop) : Prop := fits r -> (!decide (openE r true = 0)) = false -> C
theorem w27 (r : Run)
 (o0 : fits r -> (!decide (openE r true = 0)) -> 0 = (mixesS r).lo)
 (o1 : fits r -> (!decide (openE r true = 0)) -> 0 = (mixesS r).hi)
 (o2 : q27_1 r (rb r))
 (o3 : q27_1 r (∀ (i2 : WayS), i2 ∈ openL r true -> wb i2))
 (o4 : q27_1 r (1 <= r.plates))
 (o5 : q27_1 r (r.plates <= 3))
 (o6 : q27_1 r (0 < (openL r true).length))
 (o7 : q27_1 r ((openL r true).length <= 65536))
 (o8 : q27_1 r ((hullOf (openL r true) (mixF r)).lo = (mixesS r).lo))
 (o9 : q27_1 r ((hullOf (openL r true) (mixF r)).hi = (mixesS r).hi))
 (o10 : q27_1 r (0 = openE r true)) :
  Triple Try.prog 27 (s27 r) := by
 refine triple_of Try.func27 rfl Try.call27 T0_ok _ rfl rfl rfl rfl (Nat.le_of_ble_eq_true (by kernel_rfl)) (fun _ _ _ _ h => h) ?_
 intro hp C hC _ hE
 obtain ⟨P, w0, E0, av, hA⟩ := C
 subst hC
 refine swp_seq ?_
 refine sR (kt := [1, 2]) (kh := [0, 8]) (q := True /\ True /\ True /\ True) (st' := ASt.mk [(1, .ptr 0 []), (2, .ptr 8 [])] [(0, .cells 25 (cRun r)), (8, .cells 37 [iv 0, iv 0])] 24) (by kernel_rfl) ⟨tv, tv, tv, tv⟩ ?_
 refine swp_seq ?_
 refine swp_region T0_ok mixed (cs := [(1, CallSpec.eq (s78 r true) [true, true])]) (kt := [1, 2, 4, 5]) (kh := [0, 8]) (q := True /\ ((AV.agg (cRun r) = AV.agg (cRun r) /\ bv true = bv true /\ True) /\ Triple Try.prog 78 (s78 r true) /\ fits r /\ True /\ ∀ (i0 : Env), True) /\ True /\ True /\ True /\ True /\ True /\ True) (st' := ASt.mk [(1, .ptr 0 []), (2, .ptr 8 []), (4, aWays (openL r true)), (5, iv (openE r true))] [(0, .cells 25 (cRun r)), (8, .cells 37 [iv 0, iv 0])] 80) (by kernel_rfl) ⟨tv, ⟨⟨rfl, rfl, tv⟩, (t78 (r) (true)), hp, tv, (fun i0 => tv)⟩, tv, tv, tv, tv, tv, tv⟩ ?_
 refine swp_seq (swp_seq ?_)
 refine sR (kt := [1, 2, 4, 5, 12]) (kh := [0, 8]) (q := True /\ True /\ True) (st' := ASt.mk [(1, .ptr 0 []), (2, .ptr 8 []), (4, aWays (openL r true)), (5, iv (openE r true)), (12, bv !decide (openE r true = 0))] [(0, .cells 25 (cRun r)), (8, .cells 37 [iv 0, iv 0])] 96) (by kernel_rfl) ⟨tv, tv, tv⟩ ?_
 refine swp_cond (!decide (openE r true = 0)) (by kernel_rfl) (fun h1 => ?_) (fun h1 => ?_)
 ·refine swp_seq ?_
  refine sR (kt := [2, 3]) (kh := [8]) (q := True /\ True /\ True /\ True /\ True) (st' := ASt.mk [(2, .ptr 8 []), (3, iv (openE r true))] [(8, .cells 37 [iv 0, iv 0])] 128) (by kernel_rfl) ⟨tv, tv, tv, tv, tv⟩ ?_
  refine swp_ret ?_
  exact ret_q [] ((True /\ True /\ True) /\ (((iv 0 = iv (mixesS r).lo /\ nilN = []) /\ (iv 0 = iv (mixesS r).hi /\ nilN = []) /\ True) /\ (iv (openE r true) = iv (openE r true) /\ nilN = []) /\ True) /\ T3) (by kernel_rfl) ⟨⟨tv, tv, tv⟩, ⟨⟨⟨(congrArg iv (o0 hp h1)), rfl⟩, ⟨(congrArg iv (o1 hp h1)), rfl⟩, tv⟩, ⟨rfl, rfl⟩, tv⟩, rfl, rfl, rfl⟩
 ·refine swp_skip (swp_seq ?_)
  refine swp_region T0_ok mixed (cs := [(2, CallSpec.eq (c27 r) [true, true])]) (kt := [2, 3]) (kh := [8]) (q := True /\ True /\ ((AV.agg (cRun r) = AV.agg (cRun r) /\ aWays (openL r true) = aWays (openL r true) /\ True) /\ Triple Try.prog 84 (c27 r) /\ (fits r /\ rb r /\ (∀ (i2 : WayS), i2 ∈ openL r true -> wb i2) /\ 1 <= r.plates /\ r.plates <= 3 /\ 0 < (openL r true).length /\ (openL r true).length <= 65536) /\ True /\ ∀ (i4 : Env), True) /\ True /\ True /\ True) (st' := ASt.mk [(2, .ptr 8 []), (3, iv 0)] [(8, .cells 37 (cSpan (hullOf (openL r true) (mixF r))))] 136) (by kernel_rfl) ⟨tv, tv, ⟨⟨rfl, rfl, tv⟩, (t84 _ _), ⟨hp, (o2 hp h1), (fun i2 => (fun h3 => (o3 hp h1 i2 h3))), (o4 hp h1), (o5 hp h1), (o6 hp h1), (o7 hp h1)⟩, tv, (fun i4 => tv)⟩, tv, tv, tv⟩ ?_
  refine swp_ret ?_
  exact ret_q [] ((True /\ True /\ True) /\ (((iv (hullOf (openL r true) (mixF r)).lo = iv (mixesS r).lo /\ nilN = []) /\ (iv (hullOf (openL r true) (mixF r)).hi = iv (mixesS r).hi /\ nilN = []) /\ True) /\ (iv 0 = iv (openE r true) /\ nilN = []) /\ True) /\ T3) (by kernel_rfl) ⟨⟨tv, tv, tv⟩, ⟨⟨⟨(congrArg iv (o8 hp h1)), rfl⟩, ⟨(congrArg iv (o9 hp h1)), rfl⟩, tv⟩, ⟨(congrArg iv (o10 hp h1)), rfl⟩, tv⟩, rfl, rfl, rfl⟩
theorem t27 (r : Run) : Triple Try.prog 27 (s27 r) := by
 apply w27
 case o0 | o1 => intro _ h; rw [mixesS, if_neg (openBad h)]
 case o8 | o9 => intro _ h; rw [mixesS, if_pos (openF h).zero, (openF h).eq]
 all_goals (intro _ h; have F := openF h; have h1 := F.ok.plates; have h2 := F.pos; have h3 := F.len; first | omega | exact rb_of F.ok | exact F.wb | exact F.zero.symm)
abbrev q26_1 (r : Run) (p : Int) (C : Prop) : Prop := fits r -> (!decide (openE r (isPlate r p) = 0)) = false -> C
theorem w26 (r : Run) (p : Int)
 (o0 : fits r -> (!decide (openE r (isPlate r p) = 0)) -> 0 = (oldS r p).lo)
 (o1 : fits r -> (!decide (openE r (isPlate r p) = 0)) -> 0 = (oldS r p).hi)
 (o2 : q26_1 r p (0 < (openL r (isPlate r p)).length))
 (o3 : q26_1 r p ((openL r (isPlate r p)).length <= 65536))
 (o4 : ∀ (E0 : Env), fits r -> (!decide (openE r (isPlate r p) = 0)) = false -> ∀ (i3 : Env) (i4 : List Value), Env.le E0 i3 -> i4.length = List.length [aWays (openL r (isPlate r p)), AV.fn 0] -> (∀ (k : Nat), Rel i3 true (List.getD [aWays (openL r (isPlate r p)), AV.clo 83 [AV.rp (cRun r), AV.rp [iv p]]] k AV.any) (i4.getD k undef)) -> fnokOf Try.prog 0 (fun (w : { w : WayS // w ∈ openL r (isPlate r p) }) => [AV.agg (cWay (Subtype.val w))]) (fun (w : { w : WayS // w ∈ openL r (isPlate r p) }) => vSpan (oldF r p.toNat (Subtype.val w))) (Env.mk i3.1 i3.2 i3.3 fun (k : Nat) (u : Value) => ∃ (i : Nat), [aWays (openL r (isPlate r p)), AV.fn 0][i]? = some (AV.fn k) /\ i4[i]? = some u))
 (o5 : q26_1 r p ((hullOf (openL r (isPlate r p)) (oldF r p.toNat)).lo = (oldS r p).lo))
 (o6 : q26_1 r p ((hullOf (openL r (isPlate r p)) (oldF r p.toNat)).hi = (oldS r p).hi))
 (o7 : q26_1 r p (0 = openE r (isPlate r p))) :
  Triple Try.prog 26 (s26 r p) := by
 refine triple_of Try.func26 rfl Try.call26 T0_ok _ rfl rfl rfl rfl (Nat.le_of_ble_eq_true (by kernel_rfl)) (fun _ _ _ _ h => h) ?_
 intro hp C hC _ hE
 obtain ⟨P, w0, E0, av, hA⟩ := C
 subst hC
 refine swp_seq ?_
 refine sR (kt := [2, 3, 4]) (kh := [0, 8, 16]) (q := True /\ True /\ True /\ True /\ True) (st' := ASt.mk [(2, .ptr 0 []), (3, .ptr 8 []), (4, .ptr 16 [])] [(0, .cells 25 (cRun r)), (8, .cells 3 [iv p]), (16, .cells 37 [iv 0, iv 0])] 32) (by kernel_rfl) ⟨tv, tv, tv, tv, tv⟩ ?_
 refine swp_seq ?_
 refine swp_region T0_ok mixed (cs := [(3, CallSpec.eq (s80 r p) [true, true]), (4, CallSpec.eq (c26o r p) [true, true])]) (kt := [2, 3, 4, 6, 7]) (kh := [0, 8, 16]) (q := True /\ True /\ True /\ ((AV.agg (cRun r) = AV.agg (cRun r) /\ iv p = iv p /\ True) /\ Triple Try.prog 80 (s80 r p) /\ fits r /\ True /\ ∀ (i0 : Env), True) /\ ((AV.agg (cRun r) = AV.agg (cRun r) /\ bv (isPlate r p) = bv (isPlate r p) /\ True) /\ Triple Try.prog 78 (c26o r p) /\ fits r /\ True /\ ∀ (i1 : Env), True) /\ True /\ True /\ True /\ True /\ True /\ True) (st' := ASt.mk [(2, .ptr 0 []), (3, .ptr 8 []), (4, .ptr 16 []), (6, aWays (openL r (isPlate r p))), (7, iv (openE r (isPlate r p)))] [(0, .cells 25 (cRun r)), (8, .cells 3 [iv p]), (16, .cells 37 [iv 0, iv 0])] 112) (by kernel_rfl) ⟨tv, tv, tv, ⟨⟨rfl, rfl, tv⟩, (t80 (r) (p)), hp, tv, (fun i0 => tv)⟩, ⟨⟨rfl, rfl, tv⟩, (t78 _ _), hp, tv, (fun i1 => tv)⟩, tv, tv, tv, tv, tv, tv⟩ ?_
 refine swp_seq (swp_seq ?_)
 refine sR (kt := [2, 3, 4, 6, 7, 17]) (kh := [0, 8, 16]) (q := True /\ True /\ True) (st' := ASt.mk [(2, .ptr 0 []), (3, .ptr 8 []), (4, .ptr 16 []), (6, aWays (openL r (isPlate r p))), (7, iv (openE r (isPlate r p))), (17, bv !decide (openE r (isPlate r p) = 0))] [(0, .cells 25 (cRun r)), (8, .cells 3 [iv p]), (16, .cells 37 [iv 0, iv 0])] 128) (by kernel_rfl) ⟨tv, tv, tv⟩ ?_
 refine swp_cond (!decide (openE r (isPlate r p) = 0)) (by kernel_rfl) (fun h2 => ?_) (fun h2 => ?_)
 ·refine swp_seq ?_
  refine sR (kt := [4, 5]) (kh := [16]) (q := True /\ True /\ True /\ True /\ True) (st' := ASt.mk [(4, .ptr 16 []), (5, iv (openE r (isPlate r p)))] [(16, .cells 37 [iv 0, iv 0])] 160) (by kernel_rfl) ⟨tv, tv, tv, tv, tv⟩ ?_
  refine swp_ret ?_
  exact ret_q [] ((True /\ True /\ True) /\ (((iv 0 = iv (oldS r p).lo /\ nilN = []) /\ (iv 0 = iv (oldS r p).hi /\ nilN = []) /\ True) /\ (iv (openE r (isPlate r p)) = iv (openE r (isPlate r p)) /\ nilN = []) /\ True) /\ T3) (by kernel_rfl) ⟨⟨tv, tv, tv⟩, ⟨⟨⟨(congrArg iv (o0 hp h2)), rfl⟩, ⟨(congrArg iv (o1 hp h2)), rfl⟩, tv⟩, ⟨rfl, rfl⟩, tv⟩, rfl, rfl, rfl⟩
 ·refine swp_skip (swp_seq ?_)
  refine swp_ent (ent_fz 0 25 (cRun r) (ASt.mk [(2, AV.rp (cRun r)), (3, AV.ptr 8 []), (4, AV.ptr 16 []), (6, aWays (openL r (isPlate r p))), (7, iv (openE r (isPlate r p))), (17, bv !decide (openE r (isPlate r p) = 0))] [(8, OB.cells 3 [iv p]), (16, OB.cells 37 [iv 0, iv 0])] 128) (by kernel_rfl) (by kernel_rfl) (by kernel_rfl)) ?_
  refine swp_ent (ent_fz 8 3 ([iv p]) (ASt.mk [(2, AV.rp (cRun r)), (3, AV.rp [iv p]), (4, AV.ptr 16 []), (6, aWays (openL r (isPlate r p))), (7, iv (openE r (isPlate r p))), (17, bv !decide (openE r (isPlate r p) = 0))] [(16, OB.cells 37 [iv 0, iv 0])] 128) (by kernel_rfl) (by kernel_rfl) (by kernel_rfl)) ?_
  refine swp_region T0_ok mixed (cs := [(2, CallSpec.eq (c26 r p) [true, false])]) (kt := [4, 5]) (kh := [16]) (q := True /\ True /\ ((aWays (openL r (isPlate r p)) = aWays (openL r (isPlate r p)) /\ True /\ True) /\ Triple Try.prog 81 (c26 r p) /\ (0 < (openL r (isPlate r p)).length /\ (openL r (isPlate r p)).length <= 65536) /\ True /\ ∀ (i3 : Env) (i4 : List Value), Env.le E0 i3 -> i4.length = List.length [aWays (openL r (isPlate r p)), AV.fn 0] -> (∀ (k : Nat), Rel i3 true (List.getD [aWays (openL r (isPlate r p)), AV.clo 83 [AV.rp (cRun r), AV.rp [iv p]]] k AV.any) (i4.getD k undef)) -> fnokOf Try.prog 0 (fun (w : { w : WayS // w ∈ openL r (isPlate r p) }) => [AV.agg (cWay (Subtype.val w))]) (fun (w : { w : WayS // w ∈ openL r (isPlate r p) }) => vSpan (oldF r p.toNat (Subtype.val w))) (Env.mk i3.1 i3.2 i3.3 fun (k : Nat) (u : Value) => ∃ (i : Nat), [aWays (openL r (isPlate r p)), AV.fn 0][i]? = some (AV.fn k) /\ i4[i]? = some u)) /\ True /\ True /\ True) (st' := ASt.mk [(4, .ptr 16 []), (5, iv 0)] [(16, .cells 37 (cSpan (hullOf (openL r (isPlate r p)) (oldF r p.toNat))))] 168) (by kernel_rfl) ⟨tv, tv, ⟨⟨rfl, tv, tv⟩, (t81 _ _), ⟨(o2 hp h2), (o3 hp h2)⟩, tv, (fun i3 => (fun i4 => (fun h5 => (fun h6 => (fun h7 => (o4 E0 hp h2 i3 i4 h5 h6 h7))))))⟩, tv, tv, tv⟩ ?_
  refine swp_ret ?_
  exact ret_q [] ((True /\ True /\ True) /\ (((iv (hullOf (openL r (isPlate r p)) (oldF r p.toNat)).lo = iv (oldS r p).lo /\ nilN = []) /\ (iv (hullOf (openL r (isPlate r p)) (oldF r p.toNat)).hi = iv (oldS r p).hi /\ nilN = []) /\ True) /\ (iv 0 = iv (openE r (isPlate r p)) /\ nilN = []) /\ True) /\ T3) (by kernel_rfl) ⟨⟨tv, tv, tv⟩, ⟨⟨⟨(congrArg iv (o5 hp h2)), rfl⟩, ⟨(congrArg iv (o6 hp h2)), rfl⟩, tv⟩, ⟨(congrArg iv (o7 hp h2)), rfl⟩, tv⟩, rfl, rfl, rfl⟩
theorem t26 (r : Run) (p : Int) : Triple Try.prog 26 (s26 r p) := by
 apply w26
 case o0 | o1 => intro _ h; rw [oldS, if_neg (openBad h)]
 case o4 =>
  intro E0 _ h E us le hlen hr
  have F := openF h
  have hw := plateIs_ok F.ok F.isT
  refine fnok_arg (vals := [aWays (openL r (isPlate r p)), .clo 83 [.rp (cRun r), .rp [iv p]]]) 1 (fun j' h => ?_) (fun E u hu w => fnok_clo (caps := [.rp (cRun r), .rp [iv p]]) (s83 w.1 r p.toNat) (t83 w.1 _ _) ?_ ⟨rb_of F.ok, F.wb _ w.2, by omega⟩ (fun _ => trivial) rfl rfl rfl rfl rfl hu) E us le hlen hr
  ·match j', h with
   | 0, h => cases h
   | 1, _ => rfl
   | n + 2, h => simp at h
  ·show [AV.agg (cWay w), AV.rp (cRun r), AV.rp [iv (p.toNat : Int)]] = _
   rw [Int.toNat_of_nonneg hw.1]; rfl
 case o5 | o6 => intro _ h; rw [oldS, if_pos (openF h).zero, (openF h).eq]
 all_goals (intro _ h; have F := openF h; have h2 := F.pos; have h3 := F.len; first | omega | exact F.zero.symm)
abbrev q31_1 (r : Run) (f : Int) (p : Int) (C : Prop) : Prop := fits r -> (!decide (openE r (readIs r f p) = 0)) = false -> C
abbrev q31_2 (r : Run) (f : Int) (p : Int) (C : Nat -> Prop) : Prop := q31_1 r f p (∀ (x11 : Nat), x11 <= (openL r (readIs r f p)).length -> decide ((x11 : Int) < (↑((openL r (readIs r f p)).length) : Int)) = true -> C x11)
abbrev q31_3 (r : Run) (f : Int) (p : Int) (C : Nat -> Prop) : Prop := q31_2 r f p fun x11 => decide ((((openL r (readIs r f p)).getD x11 default).whn (((openL r (readIs r f p)).getD x11 default).frm.getD f.toNat 0).toNat p.toNat).hi <= (fnd r f.toNat).minute) = true -> C x11
abbrev q31_4 (r : Run) (f : Int) (p : Int) (C : Nat -> Prop) : Prop := q31_2 r f p fun x11 => decide ((((openL r (readIs r f p)).getD x11 default).whn (((openL r (readIs r f p)).getD x11 default).frm.getD f.toNat 0).toNat p.toNat).hi <= (fnd r f.toNat).minute) = false -> C x11
abbrev q31_5 (r : Run) (f : Int) (p : Int) (C : Nat -> Prop) : Prop := q31_4 r f p fun x11 => decide ((fnd r f.toNat).minute < (((openL r (readIs r f p)).getD x11 default).whn (((openL r (readIs r f p)).getD x11 default).frm.getD f.toNat 0).toNat p.toNat).lo) = true -> C x11
abbrev q31_6 (r : Run) (f : Int) (p : Int) (C : Nat -> Prop) : Prop := q31_4 r f p fun x11 => decide ((fnd r f.toNat).minute < (((openL r (readIs r f p)).getD x11 default).whn (((openL r (readIs r f p)).getD x11 default).frm.getD f.toNat 0).toNat p.toNat).lo) = false -> C x11
abbrev q31_7 (r : Run) (f : Int) (p : Int) (C : Nat -> Prop) : Prop := q31_1 r f p (∀ (x11 : Nat), x11 <= (openL r (readIs r f p)).length -> decide ((x11 : Int) < (↑((openL r (readIs r f p)).length) : Int)) = false -> C x11)
theorem w31 (r : Run) (f : Int) (p : Int)
 (o0 : fits r -> (bif isFound r f then isPlate r p else false) = readIs r f p)
 (o1 : fits r -> (!decide (openE r (readIs r f p) = 0)) -> 0 = readS r f p)
 (o2 : q31_1 r f p (0 = (↑(cnt (openL r (readIs r f p)) (rdSo r f.toNat p.toNat) 0) : Int)))
 (o3 : q31_1 r f p (0 = (↑(cnt (openL r (readIs r f p)) (rdNot r f.toNat p.toNat) 0) : Int)))
 (o4 : q31_1 r f p (0 = (↑0 : Int)))
 (o5 : q31_1 r f p (0 <= (openL r (readIs r f p)).length))
 (o6 : q31_2 r f p fun x11 => 0 <= (x11 : Int))
 (o7 : q31_2 r f p fun x11 => (x11 : Int) < (↑((openL r (readIs r f p)).length) : Int))
 (o8 : q31_2 r f p fun x11 => 0 <= f)
 (o9 : q31_2 r f p fun x11 => f < (↑(((openL r (readIs r f p)).getD x11 default).frm.length) : Int))
 (o10 : q31_2 r f p fun x11 => 0 <= ((openL r (readIs r f p)).getD x11 default).frm.getD f.toNat 0)
 (o11 : q31_2 r f p fun x11 => ((openL r (readIs r f p)).getD x11 default).frm.getD f.toNat 0 < (↑3 : Int))
 (o12 : q31_2 r f p fun x11 => 0 <= p)
 (o13 : q31_2 r f p fun x11 => p < (↑3 : Int))
 (o14 : q31_2 r f p fun x11 => (((openL r (readIs r f p)).getD x11 default).frm.getD f.toNat 0).toNat < 3)
 (o15 : q31_2 r f p fun x11 => p.toNat < 3)
 (o16 : q31_2 r f p fun x11 => 0 <= f)
 (o17 : q31_2 r f p fun x11 => f < (↑(r.found.length) : Int))
 (o18 : q31_3 r f p fun x11 => inI ((↑(cnt (openL r (readIs r f p)) (rdSo r f.toNat p.toNat) x11) : Int) + 1))
 (o19 : q31_3 r f p fun x11 => inI ((x11 : Int) + 1))
 (o20 : q31_3 r f p fun x11 => (↑(cnt (openL r (readIs r f p)) (rdSo r f.toNat p.toNat) x11) : Int) + 1 = (↑(cnt (openL r (readIs r f p)) (rdSo r f.toNat p.toNat) (x11 + 1)) : Int))
 (o21 : q31_3 r f p fun x11 => (↑(cnt (openL r (readIs r f p)) (rdNot r f.toNat p.toNat) x11) : Int) = (↑(cnt (openL r (readIs r f p)) (rdNot r f.toNat p.toNat) (x11 + 1)) : Int))
 (o22 : q31_3 r f p fun x11 => (x11 : Int) + 1 = (↑(x11 + 1) : Int))
 (o23 : q31_3 r f p fun x11 => x11 + 1 <= (openL r (readIs r f p)).length)
 (o24 : q31_3 r f p fun x11 => (openL r (readIs r f p)).length - (x11 + 1) < (openL r (readIs r f p)).length - x11)
 (o25 : q31_5 r f p fun x11 => inI ((↑(cnt (openL r (readIs r f p)) (rdNot r f.toNat p.toNat) x11) : Int) + 1))
 (o26 : q31_5 r f p fun x11 => inI ((x11 : Int) + 1))
 (o27 : q31_5 r f p fun x11 => (↑(cnt (openL r (readIs r f p)) (rdSo r f.toNat p.toNat) x11) : Int) = (↑(cnt (openL r (readIs r f p)) (rdSo r f.toNat p.toNat) (x11 + 1)) : Int))
 (o28 : q31_5 r f p fun x11 => (↑(cnt (openL r (readIs r f p)) (rdNot r f.toNat p.toNat) x11) : Int) + 1 = (↑(cnt (openL r (readIs r f p)) (rdNot r f.toNat p.toNat) (x11 + 1)) : Int))
 (o29 : q31_5 r f p fun x11 => (x11 : Int) + 1 = (↑(x11 + 1) : Int))
 (o30 : q31_5 r f p fun x11 => x11 + 1 <= (openL r (readIs r f p)).length)
 (o31 : q31_5 r f p fun x11 => (openL r (readIs r f p)).length - (x11 + 1) < (openL r (readIs r f p)).length - x11)
 (o32 : q31_6 r f p fun x11 => inI ((x11 : Int) + 1))
 (o33 : q31_6 r f p fun x11 => (↑(cnt (openL r (readIs r f p)) (rdSo r f.toNat p.toNat) x11) : Int) = (↑(cnt (openL r (readIs r f p)) (rdSo r f.toNat p.toNat) (x11 + 1)) : Int))
 (o34 : q31_6 r f p fun x11 => (↑(cnt (openL r (readIs r f p)) (rdNot r f.toNat p.toNat) x11) : Int) = (↑(cnt (openL r (readIs r f p)) (rdNot r f.toNat p.toNat) (x11 + 1)) : Int))
 (o35 : q31_6 r f p fun x11 => (x11 : Int) + 1 = (↑(x11 + 1) : Int))
 (o36 : q31_6 r f p fun x11 => x11 + 1 <= (openL r (readIs r f p)).length)
 (o37 : q31_6 r f p fun x11 => (openL r (readIs r f p)).length - (x11 + 1) < (openL r (readIs r f p)).length - x11)
 (o38 : q31_7 r f p fun x11 => known3 (↑(cnt (openL r (readIs r f p)) (rdSo r f.toNat p.toNat) x11) : Int) (↑(cnt (openL r (readIs r f p)) (rdNot r f.toNat p.toNat) x11) : Int) (↑((openL r (readIs r f p)).length) : Int) = readS r f p)
 (o39 : q31_7 r f p fun x11 => 0 = openE r (readIs r f p)) :
  Triple Try.prog 31 (s31 r f p) := by
 refine triple_of Try.func31 rfl Try.call31 T0_ok _ rfl rfl rfl rfl (Nat.le_of_ble_eq_true (by kernel_rfl)) (fun _ _ _ _ h => h) ?_
 intro hp C hC _ hE
 obtain ⟨P, w0, E0, av, hA⟩ := C
 subst hC
 refine swp_seq ?_
 refine sR (kt := [1, 2, 3]) (kh := [0]) (q := True /\ True /\ True /\ True) (st' := ASt.mk [(1, iv f), (2, iv p), (3, .ptr 0 [])] [(0, .cells 25 (cRun r))] 24) (by kernel_rfl) ⟨tv, tv, tv, tv⟩ ?_
 refine swp_seq ?_
 refine swp_region T0_ok mixed (cs := [(3, CallSpec.eq (s85 r f) [true, true]), (7, CallSpec.eq (s80 r p) [true, true]), (9, CallSpec.eq (c31o r f p) [true, false])]) (kt := [1, 2, 3, 8, 9]) (kh := [0]) (q := True /\ True /\ True /\ ((AV.agg (cRun r) = AV.agg (cRun r) /\ iv f = iv f /\ True) /\ Triple Try.prog 85 (s85 r f) /\ fits r /\ True /\ ∀ (i0 : Env), True) /\ True /\ (isFound r f = true -> (True /\ True) /\ True) /\ (isFound r f = true -> (True /\ True) /\ True) /\ (isFound r f = true -> (True /\ (isFound r f = true -> isFound r f = true) /\ (isFound r f = true -> isFound r f = true) /\ True) /\ (AV.agg (cRun r) = AV.agg (cRun r) /\ iv p = iv p /\ True) /\ Triple Try.prog 80 (s80 r p) /\ fits r /\ True /\ ∀ (i6 : Env), True) /\ ((isFound r f = true -> isFound r f = true) /\ (isFound r f = false -> True)) /\ ((AV.agg (cRun r) = AV.agg (cRun r) /\ bv (bif isFound r f then isPlate r p else false) = bv (readIs r f p) /\ True) /\ Triple Try.prog 78 (c31o r f p) /\ fits r /\ True /\ ∀ (i9 : Env), True) /\ True /\ True /\ True /\ True /\ True /\ True) (st' := ASt.mk [(1, iv f), (2, iv p), (3, .ptr 0 []), (8, aWays (openL r (readIs r f p))), (9, iv (openE r (readIs r f p)))] [(0, .cells 25 (cRun r))] 144) (by kernel_rfl) ⟨tv, tv, tv, ⟨⟨rfl, rfl, tv⟩, (t85 (r) (f)), hp, tv, (fun i0 => tv)⟩, tv, (fun h1 => ⟨⟨tv, tv⟩, tv⟩), (fun h2 => ⟨⟨tv, tv⟩, tv⟩), (fun h3 => ⟨⟨tv, (fun h4 => h3), (fun h5 => h3), tv⟩, ⟨rfl, rfl, tv⟩, (t80 (r) (p)), hp, tv, (fun i6 => tv)⟩), ⟨(fun h7 => h7), (fun h8 => tv)⟩, ⟨⟨rfl, (congrArg bv (o0 hp)), tv⟩, (t78 _ _), hp, tv, (fun i9 => tv)⟩, tv, tv, tv, tv, tv, tv⟩ ?_
 refine swp_seq (swp_seq ?_)
 refine sR (kt := [1, 2, 3, 8, 9, 30]) (kh := [0]) (q := True /\ True /\ True) (st' := ASt.mk [(1, iv f), (2, iv p), (3, .ptr 0 []), (8, aWays (openL r (readIs r f p))), (9, iv (openE r (readIs r f p))), (30, bv !decide (openE r (readIs r f p) = 0))] [(0, .cells 25 (cRun r))] 160) (by kernel_rfl) ⟨tv, tv, tv⟩ ?_
 refine swp_cond (!decide (openE r (readIs r f p) = 0)) (by kernel_rfl) (fun h10 => ?_) (fun h10 => ?_)
 ·refine swp_seq ?_
  refine sR (kt := [6, 7]) (kh := []) (q := True /\ True /\ True /\ True) (st' := ASt.mk [(6, iv 0), (7, iv (openE r (readIs r f p)))] [] 184) (by kernel_rfl) ⟨tv, tv, tv, tv⟩ ?_
  refine swp_ret ?_
  exact ret_q [] ((True /\ True /\ True) /\ ((iv 0 = iv (readS r f p) /\ nilN = []) /\ (iv (openE r (readIs r f p)) = iv (openE r (readIs r f p)) /\ nilN = []) /\ True) /\ T3) (by kernel_rfl) ⟨⟨tv, tv, tv⟩, ⟨⟨(congrArg iv (o1 hp h10)), rfl⟩, ⟨rfl, rfl⟩, tv⟩, rfl, rfl, rfl⟩
 ·refine swp_skip (swp_seq ?_)
  refine sR (kt := [1, 2, 3, 8, 10, 11]) (kh := [0]) (q := True /\ True /\ True) (st' := ASt.mk [(1, iv f), (2, iv p), (3, .ptr 0 []), (8, aWays (openL r (readIs r f p))), (10, iv 0), (11, iv 0)] [(0, .cells 25 (cRun r))] 176) (by kernel_rfl) ⟨tv, tv, tv⟩ ?_
  refine swp_seq (swp_seq ?_)
  refine sR (kt := [1, 2, 3, 8, 10, 11, 32, 33, 34]) (kh := [0]) (q := True /\ True /\ True /\ True) (st' := ASt.mk [(1, iv f), (2, iv p), (3, .ptr 0 []), (8, aWays (openL r (readIs r f p))), (10, iv 0), (11, iv 0), (32, aWays (openL r (readIs r f p))), (33, iv (↑((openL r (readIs r f p)).length) : Int)), (34, iv 0)] [(0, .cells 25 (cRun r))] 200) (by kernel_rfl) ⟨tv, tv, tv, tv⟩ ?_
  refine swp_block ?_
  refine swp_loopA (Hint.ann (h31 r f p) [(1, iv f), (2, iv p), (3, AV.ptr 0 []), (8, aWays (openL r (readIs r f p))), (32, aWays (openL r (readIs r f p))), (33, iv (↑((openL r (readIs r f p)).length) : Int))] [(0, OB.cells 25 (cRun r))] 10200) (ent_q hE [] [(0, .same 0)] [1, 2, 8, 32, 33] [0] (((iv f = iv f /\ true = true) /\ (iv p = iv p /\ true = true) /\ (some (Src.same 0) = some (Src.same 0) /\ nilP = []) /\ (aWays (openL r (readIs r f p)) = aWays (openL r (readIs r f p)) /\ true = true) /\ (aWays (openL r (readIs r f p)) = aWays (openL r (readIs r f p)) /\ true = true) /\ (iv (↑((openL r (readIs r f p)).length) : Int) = iv (↑((openL r (readIs r f p)).length) : Int) /\ true = true) /\ (iv 0 = iv (↑(cnt (openL r (readIs r f p)) (rdSo r f.toNat p.toNat) 0) : Int) /\ nilN = []) /\ (iv 0 = iv (↑(cnt (openL r (readIs r f p)) (rdNot r f.toNat p.toNat) 0) : Int) /\ nilN = []) /\ (iv 0 = iv (↑0 : Int) /\ nilN = []) /\ True) /\ ((OB.cells 25 (cRun r) = OB.cells 25 (cRun r) /\ true = true) /\ True) /\ T2) (by kernel_rfl) (by kernel_rfl) ⟨⟨⟨rfl, rfl⟩, ⟨rfl, rfl⟩, ⟨rfl, rfl⟩, ⟨rfl, rfl⟩, ⟨rfl, rfl⟩, ⟨rfl, rfl⟩, ⟨(congrArg iv (o2 hp h10)), rfl⟩, ⟨(congrArg iv (o3 hp h10)), rfl⟩, ⟨(congrArg iv (o4 hp h10)), rfl⟩, tv⟩, ⟨⟨rfl, rfl⟩, tv⟩, rfl, rfl⟩) (o5 hp h10) (fun (x11 : Nat) hx11 => ?_)
  refine swp_seq ?_
  refine sR (kt := [1, 2, 3, 8, 32, 33, 10, 11, 34, 35]) (kh := [0]) (q := True /\ True) (st' := ASt.mk [(1, iv f), (2, iv p), (3, .ptr 0 []), (8, aWays (openL r (readIs r f p))), (32, aWays (openL r (readIs r f p))), (33, iv (↑((openL r (readIs r f p)).length) : Int)), (10, iv (↑(cnt (openL r (readIs r f p)) (rdSo r f.toNat p.toNat) x11) : Int)), (11, iv (↑(cnt (openL r (readIs r f p)) (rdNot r f.toNat p.toNat) x11) : Int)), (34, iv (x11 : Int)), (35, bv (decide ((x11 : Int) < (↑((openL r (readIs r f p)).length) : Int))))] [(0, .cells 25 (cRun r))] 10208) (by kernel_rfl) ⟨tv, tv⟩ ?_
  refine swp_seq ?_
  refine swp_cond (decide ((x11 : Int) < (↑((openL r (readIs r f p)).length) : Int))) (by kernel_rfl) (fun h12 => ?_) (fun h12 => ?_)
  ·refine swp_skip (swp_seq (swp_block (swp_seq ?_)))
   refine sR (kt := [1, 2, 3, 8, 32, 33, 10, 11, 34, 13]) (kh := [0, 10224]) (q := (0 <= (x11 : Int) /\ (x11 : Int) < (↑((openL r (readIs r f p)).length) : Int)) /\ True /\ True /\ True /\ True) (st' := ASt.mk [(1, iv f), (2, iv p), (3, .ptr 0 []), (8, aWays (openL r (readIs r f p))), (32, aWays (openL r (readIs r f p))), (33, iv (↑((openL r (readIs r f p)).length) : Int)), (10, iv (↑(cnt (openL r (readIs r f p)) (rdSo r f.toNat p.toNat) x11) : Int)), (11, iv (↑(cnt (openL r (readIs r f p)) (rdNot r f.toNat p.toNat) x11) : Int)), (34, iv (x11 : Int)), (13, .ptr 10224 [])] [(0, .cells 25 (cRun r)), (10224, .cells 107 (cWay ((openL r (readIs r f p)).getD x11 default)))] 10240) (by kernel_rfl) ⟨⟨(o6 hp h10 x11 hx11 h12), (o7 hp h10 x11 hx11 h12)⟩, tv, tv, tv, tv⟩ ?_
   refine swp_seq ?_
   refine sR (kt := [1, 2, 3, 8, 32, 33, 10, 11, 34, 14, 15]) (kh := [0, 10368]) (q := True /\ True /\ True /\ (0 <= f /\ f < (↑(((openL r (readIs r f p)).getD x11 default).frm.length) : Int)) /\ True /\ True /\ True /\ (0 <= ((openL r (readIs r f p)).getD x11 default).frm.getD f.toNat 0 /\ ((openL r (readIs r f p)).getD x11 default).frm.getD f.toNat 0 < (↑3 : Int)) /\ (0 <= p /\ p < (↑3 : Int)) /\ ((((openL r (readIs r f p)).getD x11 default).frm.getD f.toNat 0).toNat < 3 /\ p.toNat < 3 /\ True) /\ True /\ True /\ True /\ (0 <= f /\ f < (↑(r.found.length) : Int)) /\ True /\ True /\ True /\ True /\ True /\ True) (st' := ASt.mk [(1, iv f), (2, iv p), (3, .ptr 0 []), (8, aWays (openL r (readIs r f p))), (32, aWays (openL r (readIs r f p))), (33, iv (↑((openL r (readIs r f p)).length) : Int)), (10, iv (↑(cnt (openL r (readIs r f p)) (rdSo r f.toNat p.toNat) x11) : Int)), (11, iv (↑(cnt (openL r (readIs r f p)) (rdNot r f.toNat p.toNat) x11) : Int)), (34, iv (x11 : Int)), (14, .ptr 10368 []), (15, iv (fnd r f.toNat).minute)] [(0, .cells 25 (cRun r)), (10368, .cells 37 (cSpan (((openL r (readIs r f p)).getD x11 default).whn (((openL r (readIs r f p)).getD x11 default).frm.getD f.toNat 0).toNat p.toNat)))] 10392) (by kernel_rfl) ⟨tv, tv, tv, ⟨(o8 hp h10 x11 hx11 h12), (o9 hp h10 x11 hx11 h12)⟩, tv, tv, tv, ⟨(o10 hp h10 x11 hx11 h12), (o11 hp h10 x11 hx11 h12)⟩, ⟨(o12 hp h10 x11 hx11 h12), (o13 hp h10 x11 hx11 h12)⟩, ⟨(o14 hp h10 x11 hx11 h12), (o15 hp h10 x11 hx11 h12), tv⟩, tv, tv, tv, ⟨(o16 hp h10 x11 hx11 h12), (o17 hp h10 x11 hx11 h12)⟩, tv, tv, tv, tv, tv, tv⟩ ?_
   refine swp_block (swp_seq ?_)
   refine sR (kt := [1, 2, 3, 8, 32, 33, 10, 11, 34, 14, 15, 54]) (kh := [0, 10368]) (q := True /\ True /\ True /\ True /\ True /\ True) (st' := ASt.mk [(1, iv f), (2, iv p), (3, .ptr 0 []), (8, aWays (openL r (readIs r f p))), (32, aWays (openL r (readIs r f p))), (33, iv (↑((openL r (readIs r f p)).length) : Int)), (10, iv (↑(cnt (openL r (readIs r f p)) (rdSo r f.toNat p.toNat) x11) : Int)), (11, iv (↑(cnt (openL r (readIs r f p)) (rdNot r f.toNat p.toNat) x11) : Int)), (34, iv (x11 : Int)), (14, .ptr 10368 []), (15, iv (fnd r f.toNat).minute), (54, bv (decide ((((openL r (readIs r f p)).getD x11 default).whn (((openL r (readIs r f p)).getD x11 default).frm.getD f.toNat 0).toNat p.toNat).hi <= (fnd r f.toNat).minute)))] [(0, .cells 25 (cRun r)), (10368, .cells 37 (cSpan (((openL r (readIs r f p)).getD x11 default).whn (((openL r (readIs r f p)).getD x11 default).frm.getD f.toNat 0).toNat p.toNat)))] 10432) (by kernel_rfl) ⟨tv, tv, tv, tv, tv, tv⟩ ?_
   refine swp_cond (decide ((((openL r (readIs r f p)).getD x11 default).whn (((openL r (readIs r f p)).getD x11 default).frm.getD f.toNat 0).toNat p.toNat).hi <= (fnd r f.toNat).minute)) (by kernel_rfl) (fun h13 => ?_) (fun h13 => ?_)
   ·refine sR (kt := [1, 2, 3, 8, 32, 33, 10, 11, 34]) (kh := [0]) (q := True /\ inI ((↑(cnt (openL r (readIs r f p)) (rdSo r f.toNat p.toNat) x11) : Int) + 1) /\ True /\ True) (st' := ASt.mk [(1, iv f), (2, iv p), (3, .ptr 0 []), (8, aWays (openL r (readIs r f p))), (32, aWays (openL r (readIs r f p))), (33, iv (↑((openL r (readIs r f p)).length) : Int)), (10, iv ((↑(cnt (openL r (readIs r f p)) (rdSo r f.toNat p.toNat) x11) : Int) + 1)), (11, iv (↑(cnt (openL r (readIs r f p)) (rdNot r f.toNat p.toNat) x11) : Int)), (34, iv (x11 : Int))] [(0, .cells 25 (cRun r))] 10456) (by kernel_rfl) ⟨tv, (o18 hp h10 x11 hx11 h12 h13), tv, tv⟩ ?_
    refine sR (kt := [1, 2, 3, 8, 32, 33, 10, 11, 34]) (kh := [0]) (q := inI ((x11 : Int) + 1) /\ True /\ True) (st' := ASt.mk [(1, iv f), (2, iv p), (3, .ptr 0 []), (8, aWays (openL r (readIs r f p))), (32, aWays (openL r (readIs r f p))), (33, iv (↑((openL r (readIs r f p)).length) : Int)), (10, iv ((↑(cnt (openL r (readIs r f p)) (rdSo r f.toNat p.toNat) x11) : Int) + 1)), (11, iv (↑(cnt (openL r (readIs r f p)) (rdNot r f.toNat p.toNat) x11) : Int)), (34, iv ((x11 : Int) + 1))] [(0, .cells 25 (cRun r))] 10472) (by kernel_rfl) ⟨(o19 hp h10 x11 hx11 h12 h13), tv, tv⟩ ?_
    exact loop_next (Hint.ann (h31 r f p) [(1, iv f), (2, iv p), (3, AV.ptr 0 []), (8, aWays (openL r (readIs r f p))), (32, aWays (openL r (readIs r f p))), (33, iv (↑((openL r (readIs r f p)).length) : Int))] [(0, OB.cells 25 (cRun r))] 10200) x11 (ent_q hE [] [(0, .same 0)] [1, 2, 8, 32, 33] [0] (((iv f = iv f /\ true = true) /\ (iv p = iv p /\ true = true) /\ (some (Src.same 0) = some (Src.same 0) /\ nilP = []) /\ (aWays (openL r (readIs r f p)) = aWays (openL r (readIs r f p)) /\ true = true) /\ (aWays (openL r (readIs r f p)) = aWays (openL r (readIs r f p)) /\ true = true) /\ (iv (↑((openL r (readIs r f p)).length) : Int) = iv (↑((openL r (readIs r f p)).length) : Int) /\ true = true) /\ (iv ((↑(cnt (openL r (readIs r f p)) (rdSo r f.toNat p.toNat) x11) : Int) + 1) = iv (↑(cnt (openL r (readIs r f p)) (rdSo r f.toNat p.toNat) (x11 + 1)) : Int) /\ nilN = []) /\ (iv (↑(cnt (openL r (readIs r f p)) (rdNot r f.toNat p.toNat) x11) : Int) = iv (↑(cnt (openL r (readIs r f p)) (rdNot r f.toNat p.toNat) (x11 + 1)) : Int) /\ nilN = []) /\ (iv ((x11 : Int) + 1) = iv (↑(x11 + 1) : Int) /\ nilN = []) /\ True) /\ ((OB.cells 25 (cRun r) = OB.cells 25 (cRun r) /\ true = true) /\ True) /\ T2) (by kernel_rfl) (by kernel_rfl) ⟨⟨⟨rfl, rfl⟩, ⟨rfl, rfl⟩, ⟨rfl, rfl⟩, ⟨rfl, rfl⟩, ⟨rfl, rfl⟩, ⟨rfl, rfl⟩, ⟨(congrArg iv (o20 hp h10 x11 hx11 h12 h13)), rfl⟩, ⟨(congrArg iv (o21 hp h10 x11 hx11 h12 h13)), rfl⟩, ⟨(congrArg iv (o22 hp h10 x11 hx11 h12 h13)), rfl⟩, tv⟩, ⟨⟨rfl, rfl⟩, tv⟩, rfl, rfl⟩) (o23 hp h10 x11 hx11 h12 h13) (o24 hp h10 x11 hx11 h12 h13)
   ·refine swp_seq ?_
    refine sR (kt := [1, 2, 3, 8, 32, 33, 10, 11, 34, 61]) (kh := [0]) (q := True /\ True /\ True /\ True /\ True /\ True) (st' := ASt.mk [(1, iv f), (2, iv p), (3, .ptr 0 []), (8, aWays (openL r (readIs r f p))), (32, aWays (openL r (readIs r f p))), (33, iv (↑((openL r (readIs r f p)).length) : Int)), (10, iv (↑(cnt (openL r (readIs r f p)) (rdSo r f.toNat p.toNat) x11) : Int)), (11, iv (↑(cnt (openL r (readIs r f p)) (rdNot r f.toNat p.toNat) x11) : Int)), (34, iv (x11 : Int)), (61, bv (decide ((fnd r f.toNat).minute < (((openL r (readIs r f p)).getD x11 default).whn (((openL r (readIs r f p)).getD x11 default).frm.getD f.toNat 0).toNat p.toNat).lo)))] [(0, .cells 25 (cRun r))] 10472) (by kernel_rfl) ⟨tv, tv, tv, tv, tv, tv⟩ ?_
    refine swp_cond (decide ((fnd r f.toNat).minute < (((openL r (readIs r f p)).getD x11 default).whn (((openL r (readIs r f p)).getD x11 default).frm.getD f.toNat 0).toNat p.toNat).lo)) (by kernel_rfl) (fun h14 => ?_) (fun h14 => ?_)
    ·refine sR (kt := [1, 2, 3, 8, 32, 33, 10, 11, 34]) (kh := [0]) (q := True /\ inI ((↑(cnt (openL r (readIs r f p)) (rdNot r f.toNat p.toNat) x11) : Int) + 1) /\ True /\ True) (st' := ASt.mk [(1, iv f), (2, iv p), (3, .ptr 0 []), (8, aWays (openL r (readIs r f p))), (32, aWays (openL r (readIs r f p))), (33, iv (↑((openL r (readIs r f p)).length) : Int)), (10, iv (↑(cnt (openL r (readIs r f p)) (rdSo r f.toNat p.toNat) x11) : Int)), (11, iv ((↑(cnt (openL r (readIs r f p)) (rdNot r f.toNat p.toNat) x11) : Int) + 1)), (34, iv (x11 : Int))] [(0, .cells 25 (cRun r))] 10496) (by kernel_rfl) ⟨tv, (o25 hp h10 x11 hx11 h12 h13 h14), tv, tv⟩ ?_
     refine sR (kt := [1, 2, 3, 8, 32, 33, 10, 11, 34]) (kh := [0]) (q := inI ((x11 : Int) + 1) /\ True /\ True) (st' := ASt.mk [(1, iv f), (2, iv p), (3, .ptr 0 []), (8, aWays (openL r (readIs r f p))), (32, aWays (openL r (readIs r f p))), (33, iv (↑((openL r (readIs r f p)).length) : Int)), (10, iv (↑(cnt (openL r (readIs r f p)) (rdSo r f.toNat p.toNat) x11) : Int)), (11, iv ((↑(cnt (openL r (readIs r f p)) (rdNot r f.toNat p.toNat) x11) : Int) + 1)), (34, iv ((x11 : Int) + 1))] [(0, .cells 25 (cRun r))] 10512) (by kernel_rfl) ⟨(o26 hp h10 x11 hx11 h12 h13 h14), tv, tv⟩ ?_
     exact loop_next (Hint.ann (h31 r f p) [(1, iv f), (2, iv p), (3, AV.ptr 0 []), (8, aWays (openL r (readIs r f p))), (32, aWays (openL r (readIs r f p))), (33, iv (↑((openL r (readIs r f p)).length) : Int))] [(0, OB.cells 25 (cRun r))] 10200) x11 (ent_q hE [] [(0, .same 0)] [1, 2, 8, 32, 33] [0] (((iv f = iv f /\ true = true) /\ (iv p = iv p /\ true = true) /\ (some (Src.same 0) = some (Src.same 0) /\ nilP = []) /\ (aWays (openL r (readIs r f p)) = aWays (openL r (readIs r f p)) /\ true = true) /\ (aWays (openL r (readIs r f p)) = aWays (openL r (readIs r f p)) /\ true = true) /\ (iv (↑((openL r (readIs r f p)).length) : Int) = iv (↑((openL r (readIs r f p)).length) : Int) /\ true = true) /\ (iv (↑(cnt (openL r (readIs r f p)) (rdSo r f.toNat p.toNat) x11) : Int) = iv (↑(cnt (openL r (readIs r f p)) (rdSo r f.toNat p.toNat) (x11 + 1)) : Int) /\ nilN = []) /\ (iv ((↑(cnt (openL r (readIs r f p)) (rdNot r f.toNat p.toNat) x11) : Int) + 1) = iv (↑(cnt (openL r (readIs r f p)) (rdNot r f.toNat p.toNat) (x11 + 1)) : Int) /\ nilN = []) /\ (iv ((x11 : Int) + 1) = iv (↑(x11 + 1) : Int) /\ nilN = []) /\ True) /\ ((OB.cells 25 (cRun r) = OB.cells 25 (cRun r) /\ true = true) /\ True) /\ T2) (by kernel_rfl) (by kernel_rfl) ⟨⟨⟨rfl, rfl⟩, ⟨rfl, rfl⟩, ⟨rfl, rfl⟩, ⟨rfl, rfl⟩, ⟨rfl, rfl⟩, ⟨rfl, rfl⟩, ⟨(congrArg iv (o27 hp h10 x11 hx11 h12 h13 h14)), rfl⟩, ⟨(congrArg iv (o28 hp h10 x11 hx11 h12 h13 h14)), rfl⟩, ⟨(congrArg iv (o29 hp h10 x11 hx11 h12 h13 h14)), rfl⟩, tv⟩, ⟨⟨rfl, rfl⟩, tv⟩, rfl, rfl⟩) (o30 hp h10 x11 hx11 h12 h13 h14) (o31 hp h10 x11 hx11 h12 h13 h14)
    ·refine swp_skip ?_
     refine sR (kt := [1, 2, 3, 8, 32, 33, 10, 11, 34]) (kh := [0]) (q := inI ((x11 : Int) + 1) /\ True /\ True) (st' := ASt.mk [(1, iv f), (2, iv p), (3, .ptr 0 []), (8, aWays (openL r (readIs r f p))), (32, aWays (openL r (readIs r f p))), (33, iv (↑((openL r (readIs r f p)).length) : Int)), (10, iv (↑(cnt (openL r (readIs r f p)) (rdSo r f.toNat p.toNat) x11) : Int)), (11, iv (↑(cnt (openL r (readIs r f p)) (rdNot r f.toNat p.toNat) x11) : Int)), (34, iv ((x11 : Int) + 1))] [(0, .cells 25 (cRun r))] 10488) (by kernel_rfl) ⟨(o32 hp h10 x11 hx11 h12 h13 h14), tv, tv⟩ ?_
     exact loop_next (Hint.ann (h31 r f p) [(1, iv f), (2, iv p), (3, AV.ptr 0 []), (8, aWays (openL r (readIs r f p))), (32, aWays (openL r (readIs r f p))), (33, iv (↑((openL r (readIs r f p)).length) : Int))] [(0, OB.cells 25 (cRun r))] 10200) x11 (ent_q hE [] [(0, .same 0)] [1, 2, 8, 32, 33] [0] (((iv f = iv f /\ true = true) /\ (iv p = iv p /\ true = true) /\ (some (Src.same 0) = some (Src.same 0) /\ nilP = []) /\ (aWays (openL r (readIs r f p)) = aWays (openL r (readIs r f p)) /\ true = true) /\ (aWays (openL r (readIs r f p)) = aWays (openL r (readIs r f p)) /\ true = true) /\ (iv (↑((openL r (readIs r f p)).length) : Int) = iv (↑((openL r (readIs r f p)).length) : Int) /\ true = true) /\ (iv (↑(cnt (openL r (readIs r f p)) (rdSo r f.toNat p.toNat) x11) : Int) = iv (↑(cnt (openL r (readIs r f p)) (rdSo r f.toNat p.toNat) (x11 + 1)) : Int) /\ nilN = []) /\ (iv (↑(cnt (openL r (readIs r f p)) (rdNot r f.toNat p.toNat) x11) : Int) = iv (↑(cnt (openL r (readIs r f p)) (rdNot r f.toNat p.toNat) (x11 + 1)) : Int) /\ nilN = []) /\ (iv ((x11 : Int) + 1) = iv (↑(x11 + 1) : Int) /\ nilN = []) /\ True) /\ ((OB.cells 25 (cRun r) = OB.cells 25 (cRun r) /\ true = true) /\ True) /\ T2) (by kernel_rfl) (by kernel_rfl) ⟨⟨⟨rfl, rfl⟩, ⟨rfl, rfl⟩, ⟨rfl, rfl⟩, ⟨rfl, rfl⟩, ⟨rfl, rfl⟩, ⟨rfl, rfl⟩, ⟨(congrArg iv (o33 hp h10 x11 hx11 h12 h13 h14)), rfl⟩, ⟨(congrArg iv (o34 hp h10 x11 hx11 h12 h13 h14)), rfl⟩, ⟨(congrArg iv (o35 hp h10 x11 hx11 h12 h13 h14)), rfl⟩, tv⟩, ⟨⟨rfl, rfl⟩, tv⟩, rfl, rfl⟩) (o36 hp h10 x11 hx11 h12 h13 h14) (o37 hp h10 x11 hx11 h12 h13 h14)
  ·refine swp_exit (swp_seq ?_)
   refine swp_region T0_ok mixed (cs := [(4, CallSpec.eq (s86 (↑(cnt (openL r (readIs r f p)) (rdSo r f.toNat p.toNat) x11) : Int) (↑(cnt (openL r (readIs r f p)) (rdNot r f.toNat p.toNat) x11) : Int) (↑((openL r (readIs r f p)).length) : Int)) [true, true, true])]) (kt := [6, 7]) (kh := []) (q := True /\ True /\ True /\ True /\ ((iv (↑(cnt (openL r (readIs r f p)) (rdSo r f.toNat p.toNat) x11) : Int) = iv (↑(cnt (openL r (readIs r f p)) (rdSo r f.toNat p.toNat) x11) : Int) /\ iv (↑(cnt (openL r (readIs r f p)) (rdNot r f.toNat p.toNat) x11) : Int) = iv (↑(cnt (openL r (readIs r f p)) (rdNot r f.toNat p.toNat) x11) : Int) /\ iv (↑((openL r (readIs r f p)).length) : Int) = iv (↑((openL r (readIs r f p)).length) : Int) /\ True) /\ Triple Try.prog 86 (s86 (↑(cnt (openL r (readIs r f p)) (rdSo r f.toNat p.toNat) x11) : Int) (↑(cnt (openL r (readIs r f p)) (rdNot r f.toNat p.toNat) x11) : Int) (↑((openL r (readIs r f p)).length) : Int)) /\ True /\ True /\ ∀ (i15 : Env), True) /\ True /\ True /\ True) (st' := ASt.mk [(6, iv (known3 (↑(cnt (openL r (readIs r f p)) (rdSo r f.toNat p.toNat) x11) : Int) (↑(cnt (openL r (readIs r f p)) (rdNot r f.toNat p.toNat) x11) : Int) (↑((openL r (readIs r f p)).length) : Int))), (7, iv 0)] [] 10264) (by kernel_rfl) ⟨tv, tv, tv, tv, ⟨⟨rfl, rfl, rfl, tv⟩, (t86 ((↑(cnt (openL r (readIs r f p)) (rdSo r f.toNat p.toNat) x11) : Int)) ((↑(cnt (openL r (readIs r f p)) (rdNot r f.toNat p.toNat) x11) : Int)) ((↑((openL r (readIs r f p)).length) : Int))), tv, tv, (fun i15 => tv)⟩, tv, tv, tv⟩ ?_
   refine swp_ret ?_
   exact ret_q [] ((True /\ True /\ True) /\ ((iv (known3 (↑(cnt (openL r (readIs r f p)) (rdSo r f.toNat p.toNat) x11) : Int) (↑(cnt (openL r (readIs r f p)) (rdNot r f.toNat p.toNat) x11) : Int) (↑((openL r (readIs r f p)).length) : Int)) = iv (readS r f p) /\ nilN = []) /\ (iv 0 = iv (openE r (readIs r f p)) /\ nilN = []) /\ True) /\ T3) (by kernel_rfl) ⟨⟨tv, tv, tv⟩, ⟨⟨(congrArg iv (o38 hp h10 x11 hx11 h12)), rfl⟩, ⟨(congrArg iv (o39 hp h10 x11 hx11 h12)), rfl⟩, tv⟩, rfl, rfl, rfl⟩
theorem t31 (r : Run) (f p : Int) : Triple Try.prog 31 (s31 r f p) := by
 apply w31
 case o0 => intro _; unfold readIs; cases isFound r f <;> rfl
 case o1 => intro _ h; rw [readS, if_neg (openBad h)]
 case o38 => intro _ h x hx hl; have F := openF h; rw [readS, if_pos F.zero, show x = (openL r (readIs r f p)).length by simp only [decide_eq_false_iff_not] at hl; omega, F.eq]
 all_goals (first | (((repeat intro _) <;> (try simp only [v0, v1, v2, v3, v4, v5, v6, v7, v8, v9, inI, fits, Go.Sh.small] at *) <;> first | (exact rfl) | omega | exact vz | (simp_all; done) | (simp_all; omega))) | (
  intro _ h
  have F := openF h
  first | exact F.zero.symm | (intro _ _ _; exact F.zero.symm) | (
   intro x hx hl
   simp only [decide_eq_true_eq] at hl
   have h1 := readIs_ok F.ok F.isT
   have h2 := F.frm x (by omega)
   have h3 := F.mach x (by omega) f.toNat (by omega)
   have h4 := F.len
   have h5 := cnt_le (openL r (readIs r f p)) (rdSo r f.toNat p.toNat) x
   have h6 := cnt_le (openL r (readIs r f p)) (rdNot r f.toNat p.toNat) x
   first
   | omega
   | ((repeat intro _); simp only [inI]; omega)
   | (intro e; exact cnt_t (by omega) e)
   | (intro e; exact cnt_f (by omega) e)
   | (intro e; exact cnt_f (by omega) (rdNot_t e))
   | (intro e e2; exact cnt_f (by omega) e)
   | (intro e e2; exact cnt_t (by omega) (rdNot_f e e2))
   | (intro e e2; exact cnt_f (by omega) (rdNot_f e e2)))))
abbrev q38_1 (r : Run) (a : Int) (b : Int) (C : Prop) : Prop := fits r -> (!decide (openE r (sameIs r a b) = 0)) = false -> C
abbrev q38_2 (r : Run) (a : Int) (b : Int) (C : Nat -> Prop) : Prop := q38_1 r a b (∀ (x11 : Nat), x11 <= (openL r (sameIs r a b)).length -> decide ((x11 : Int) < (↑((openL r (sameIs r a b)).length) : Int)) = true -> C x11)
abbrev q38_3 (r : Run) (a : Int) (b : Int) (C : Nat -> Prop) : Prop := q38_2 r a b fun x11 => decide (((openL r (sameIs r a b)).getD x11 default).frm.getD a.toNat 0 = ((openL r (sameIs r a b)).getD x11 default).frm.getD b.toNat 0) = true -> C x11
abbrev q38_4 (r : Run) (a : Int) (b : Int) (C : Nat -> Prop) : Prop := q38_2 r a b fun x11 => decide (((openL r (sameIs r a b)).getD x11 default).frm.getD a.toNat 0 = ((openL r (sameIs r a b)).getD x11 default).frm.getD b.toNat 0) = false -> C x11
abbrev q38_5 (r : Run) (a : Int) (b : Int) (C : Nat -> Prop) : Prop := q38_1 r a b (∀ (x11 : Nat), x11 <= (openL r (sameIs r a b)).length -> decide ((x11 : Int) < (↑((openL r (sameIs r a b)).length) : Int)) = false -> C x11)
theorem w38 (r : Run) (a : Int) (b : Int)
 (o0 : fits r -> (bif isFound r a then isFound r b else false) = sameIs r a b)
 (o1 : fits r -> (!decide (openE r (sameIs r a b) = 0)) -> 0 = sameS r a b)
 (o2 : q38_1 r a b (0 = (↑(cnt (openL r (sameIs r a b)) (smSo a.toNat b.toNat) 0) : Int)))
 (o3 : q38_1 r a b (0 = (↑0 : Int)))
 (o4 : q38_1 r a b (0 <= (openL r (sameIs r a b)).length))
 (o5 : q38_2 r a b fun x11 => 0 <= (x11 : Int))
 (o6 : q38_2 r a b fun x11 => (x11 : Int) < (↑((openL r (sameIs r a b)).length) : Int))
 (o7 : q38_2 r a b fun x11 => 0 <= a)
 (o8 : q38_2 r a b fun x11 => a < (↑(((openL r (sameIs r a b)).getD x11 default).frm.length) : Int))
 (o9 : q38_2 r a b fun x11 => 0 <= b)
 (o10 : q38_2 r a b fun x11 => b < (↑(((openL r (sameIs r a b)).getD x11 default).frm.length) : Int))
 (o11 : q38_3 r a b fun x11 => inI ((↑(cnt (openL r (sameIs r a b)) (smSo a.toNat b.toNat) x11) : Int) + 1))
 (o12 : q38_3 r a b fun x11 => inI ((x11 : Int) + 1))
 (o13 : q38_3 r a b fun x11 => (↑(cnt (openL r (sameIs r a b)) (smSo a.toNat b.toNat) x11) : Int) + 1 = (↑(cnt (openL r (sameIs r a b)) (smSo a.toNat b.toNat) (x11 + 1)) : Int))
 (o14 : q38_3 r a b fun x11 => (x11 : Int) + 1 = (↑(x11 + 1) : Int))
 (o15 : q38_3 r a b fun x11 => x11 + 1 <= (openL r (sameIs r a b)).length)
 (o16 : q38_3 r a b fun x11 => (openL r (sameIs r a b)).length - (x11 + 1) < (openL r (sameIs r a b)).length - x11)
 (o17 : q38_4 r a b fun x11 => inI ((x11 : Int) + 1))
 (o18 : q38_4 r a b fun x11 => (↑(cnt (openL r (sameIs r a b)) (smSo a.toNat b.toNat) x11) : Int) = (↑(cnt (openL r (sameIs r a b)) (smSo a.toNat b.toNat) (x11 + 1)) : Int))
 (o19 : q38_4 r a b fun x11 => (x11 : Int) + 1 = (↑(x11 + 1) : Int))
 (o20 : q38_4 r a b fun x11 => x11 + 1 <= (openL r (sameIs r a b)).length)
 (o21 : q38_4 r a b fun x11 => (openL r (sameIs r a b)).length - (x11 + 1) < (openL r (sameIs r a b)).length - x11)
 (o22 : q38_5 r a b fun x11 => inI ((↑((openL r (sameIs r a b)).length) : Int) - (↑(cnt (openL r (sameIs r a b)) (smSo a.toNat b.toNat) x11) : Int)))
 (o23 : q38_5 r a b fun x11 => known3 (↑(cnt (openL r (sameIs r a b)) (smSo a.toNat b.toNat) x11) : Int) ((↑((openL r (sameIs r a b)).length) : Int) - (↑(cnt (openL r (sameIs r a b)) (smSo a.toNat b.toNat) x11) : Int)) (↑((openL r (sameIs r a b)).length) : Int) = sameS r a b)
 (o24 : q38_5 r a b fun x11 => 0 = openE r (sameIs r a b)) :
  Triple Try.prog 38 (s38 r a b) := by
 refine triple_of Try.func38 rfl Try.call38 T0_ok _ rfl rfl rfl rfl (Nat.le_of_ble_eq_true (by kernel_rfl)) (fun _ _ _ _ h => h) ?_
 intro hp C hC _ hE
 obtain ⟨P, w0, E0, av, hA⟩ := C
 subst hC
 refine swp_seq ?_
 refine sR (kt := [1, 2, 3]) (kh := [0]) (q := True /\ True /\ True /\ True) (st' := ASt.mk [(1, iv a), (2, iv b), (3, .ptr 0 [])] [(0, .cells 25 (cRun r))] 24) (by kernel_rfl) ⟨tv, tv, tv, tv⟩ ?_
 refine swp_seq ?_
 refine swp_region T0_ok mixed (cs := [(3, CallSpec.eq (s85 r a) [true, true]), (7, CallSpec.eq (s85 r b) [true, true]), (9, CallSpec.eq (c38o r a b) [true, false])]) (kt := [1, 2, 8, 9]) (kh := []) (q := True /\ True /\ True /\ ((AV.agg (cRun r) = AV.agg (cRun r) /\ iv a = iv a /\ True) /\ Triple Try.prog 85 (s85 r a) /\ fits r /\ True /\ ∀ (i0 : Env), True) /\ True /\ (isFound r a = true -> (True /\ True) /\ True) /\ (isFound r a = true -> (True /\ True) /\ True) /\ (isFound r a = true -> (True /\ (isFound r a = true -> isFound r a = true) /\ (isFound r a = true -> isFound r a = true) /\ True) /\ (AV.agg (cRun r) = AV.agg (cRun r) /\ iv b = iv b /\ True) /\ Triple Try.prog 85 (s85 r b) /\ fits r /\ True /\ ∀ (i6 : Env), True) /\ ((isFound r a = true -> isFound r a = true) /\ (isFound r a = false -> True)) /\ ((AV.agg (cRun r) = AV.agg (cRun r) /\ bv (bif isFound r a then isFound r b else false) = bv (sameIs r a b) /\ True) /\ Triple Try.prog 78 (c38o r a b) /\ fits r /\ True /\ ∀ (i9 : Env), True) /\ True /\ True /\ True /\ True /\ True /\ True) (st' := ASt.mk [(1, iv a), (2, iv b), (8, aWays (openL r (sameIs r a b))), (9, iv (openE r (sameIs r a b)))] [] 144) (by kernel_rfl) ⟨tv, tv, tv, ⟨⟨rfl, rfl, tv⟩, (t85 (r) (a)), hp, tv, (fun i0 => tv)⟩, tv, (fun h1 => ⟨⟨tv, tv⟩, tv⟩), (fun h2 => ⟨⟨tv, tv⟩, tv⟩), (fun h3 => ⟨⟨tv, (fun h4 => h3), (fun h5 => h3), tv⟩, ⟨rfl, rfl, tv⟩, (t85 (r) (b)), hp, tv, (fun i6 => tv)⟩), ⟨(fun h7 => h7), (fun h8 => tv)⟩, ⟨⟨rfl, (congrArg bv (o0 hp)), tv⟩, (t78 _ _), hp, tv, (fun i9 => tv)⟩, tv, tv, tv, tv, tv, tv⟩ ?_
 refine swp_seq (swp_seq ?_)
 refine sR (kt := [1, 2, 8, 9, 27]) (kh := []) (q := True /\ True /\ True) (st' := ASt.mk [(1, iv a), (2, iv b), (8, aWays (openL r (sameIs r a b))), (9, iv (openE r (sameIs r a b))), (27, bv !decide (openE r (sameIs r a b) = 0))] [] 160) (by kernel_rfl) ⟨tv, tv, tv⟩ ?_
 refine swp_cond (!decide (openE r (sameIs r a b) = 0)) (by kernel_rfl) (fun h10 => ?_) (fun h10 => ?_)
 ·refine swp_seq ?_
  refine sR (kt := [6, 7]) (kh := []) (q := True /\ True /\ True /\ True) (st' := ASt.mk [(6, iv 0), (7, iv (openE r (sameIs r a b)))] [] 184) (by kernel_rfl) ⟨tv, tv, tv, tv⟩ ?_
  refine swp_ret ?_
  exact ret_q [] ((True /\ True /\ True) /\ ((iv 0 = iv (sameS r a b) /\ nilN = []) /\ (iv (openE r (sameIs r a b)) = iv (openE r (sameIs r a b)) /\ nilN = []) /\ True) /\ T3) (by kernel_rfl) ⟨⟨tv, tv, tv⟩, ⟨⟨(congrArg iv (o1 hp h10)), rfl⟩, ⟨rfl, rfl⟩, tv⟩, rfl, rfl, rfl⟩
 ·refine swp_skip (swp_seq ?_)
  refine sR (kt := [1, 2, 8, 10]) (kh := []) (q := True /\ True) (st' := ASt.mk [(1, iv a), (2, iv b), (8, aWays (openL r (sameIs r a b))), (10, iv 0)] [] 168) (by kernel_rfl) ⟨tv, tv⟩ ?_
  refine swp_seq (swp_seq ?_)
  refine sR (kt := [1, 2, 8, 10, 29, 30, 31]) (kh := []) (q := True /\ True /\ True /\ True) (st' := ASt.mk [(1, iv a), (2, iv b), (8, aWays (openL r (sameIs r a b))), (10, iv 0), (29, aWays (openL r (sameIs r a b))), (30, iv (↑((openL r (sameIs r a b)).length) : Int)), (31, iv 0)] [] 192) (by kernel_rfl) ⟨tv, tv, tv, tv⟩ ?_
  refine swp_block ?_
  refine swp_loopA (Hint.ann (h38 r a b) [(1, iv a), (2, iv b), (8, aWays (openL r (sameIs r a b))), (29, aWays (openL r (sameIs r a b))), (30, iv (↑((openL r (sameIs r a b)).length) : Int))] [] 10192) (ent_q hE [] [] [1, 2, 8, 29, 30] [] (((iv a = iv a /\ true = true) /\ (iv b = iv b /\ true = true) /\ (aWays (openL r (sameIs r a b)) = aWays (openL r (sameIs r a b)) /\ true = true) /\ (aWays (openL r (sameIs r a b)) = aWays (openL r (sameIs r a b)) /\ true = true) /\ (iv (↑((openL r (sameIs r a b)).length) : Int) = iv (↑((openL r (sameIs r a b)).length) : Int) /\ true = true) /\ (iv 0 = iv (↑(cnt (openL r (sameIs r a b)) (smSo a.toNat b.toNat) 0) : Int) /\ nilN = []) /\ (iv 0 = iv (↑0 : Int) /\ nilN = []) /\ True) /\ True /\ T2) (by kernel_rfl) (by kernel_rfl) ⟨⟨⟨rfl, rfl⟩, ⟨rfl, rfl⟩, ⟨rfl, rfl⟩, ⟨rfl, rfl⟩, ⟨rfl, rfl⟩, ⟨(congrArg iv (o2 hp h10)), rfl⟩, ⟨(congrArg iv (o3 hp h10)), rfl⟩, tv⟩, tv, rfl, rfl⟩) (o4 hp h10) (fun (x11 : Nat) hx11 => ?_)
  refine swp_seq ?_
  refine sR (kt := [1, 2, 8, 29, 30, 10, 31, 32]) (kh := []) (q := True /\ True) (st' := ASt.mk [(1, iv a), (2, iv b), (8, aWays (openL r (sameIs r a b))), (29, aWays (openL r (sameIs r a b))), (30, iv (↑((openL r (sameIs r a b)).length) : Int)), (10, iv (↑(cnt (openL r (sameIs r a b)) (smSo a.toNat b.toNat) x11) : Int)), (31, iv (x11 : Int)), (32, bv (decide ((x11 : Int) < (↑((openL r (sameIs r a b)).length) : Int))))] [] 10200) (by kernel_rfl) ⟨tv, tv⟩ ?_
  refine swp_seq ?_
  refine swp_cond (decide ((x11 : Int) < (↑((openL r (sameIs r a b)).length) : Int))) (by kernel_rfl) (fun h12 => ?_) (fun h12 => ?_)
  ·refine swp_skip (swp_seq (swp_block (swp_seq ?_)))
   refine sR (kt := [1, 2, 8, 29, 30, 10, 31, 12]) (kh := [10216]) (q := (0 <= (x11 : Int) /\ (x11 : Int) < (↑((openL r (sameIs r a b)).length) : Int)) /\ True /\ True /\ True /\ True) (st' := ASt.mk [(1, iv a), (2, iv b), (8, aWays (openL r (sameIs r a b))), (29, aWays (openL r (sameIs r a b))), (30, iv (↑((openL r (sameIs r a b)).length) : Int)), (10, iv (↑(cnt (openL r (sameIs r a b)) (smSo a.toNat b.toNat) x11) : Int)), (31, iv (x11 : Int)), (12, .ptr 10216 [])] [(10216, .cells 107 (cWay ((openL r (sameIs r a b)).getD x11 default)))] 10232) (by kernel_rfl) ⟨⟨(o5 hp h10 x11 hx11 h12), (o6 hp h10 x11 hx11 h12)⟩, tv, tv, tv, tv⟩ ?_
   refine swp_seq ?_
   refine sR (kt := [1, 2, 8, 29, 30, 10, 31, 45]) (kh := []) (q := True /\ True /\ True /\ (0 <= a /\ a < (↑(((openL r (sameIs r a b)).getD x11 default).frm.length) : Int)) /\ True /\ True /\ True /\ True /\ (0 <= b /\ b < (↑(((openL r (sameIs r a b)).getD x11 default).frm.length) : Int)) /\ True /\ True /\ True) (st' := ASt.mk [(1, iv a), (2, iv b), (8, aWays (openL r (sameIs r a b))), (29, aWays (openL r (sameIs r a b))), (30, iv (↑((openL r (sameIs r a b)).length) : Int)), (10, iv (↑(cnt (openL r (sameIs r a b)) (smSo a.toNat b.toNat) x11) : Int)), (31, iv (x11 : Int)), (45, bv (decide (((openL r (sameIs r a b)).getD x11 default).frm.getD a.toNat 0 = ((openL r (sameIs r a b)).getD x11 default).frm.getD b.toNat 0)))] [] 10320) (by kernel_rfl) ⟨tv, tv, tv, ⟨(o7 hp h10 x11 hx11 h12), (o8 hp h10 x11 hx11 h12)⟩, tv, tv, tv, tv, ⟨(o9 hp h10 x11 hx11 h12), (o10 hp h10 x11 hx11 h12)⟩, tv, tv, tv⟩ ?_
   refine swp_cond (decide (((openL r (sameIs r a b)).getD x11 default).frm.getD a.toNat 0 = ((openL r (sameIs r a b)).getD x11 default).frm.getD b.toNat 0)) (by kernel_rfl) (fun h13 => ?_) (fun h13 => ?_)
   ·refine sR (kt := [1, 2, 8, 29, 30, 10, 31]) (kh := []) (q := True /\ inI ((↑(cnt (openL r (sameIs r a b)) (smSo a.toNat b.toNat) x11) : Int) + 1) /\ True /\ True) (st' := ASt.mk [(1, iv a), (2, iv b), (8, aWays (openL r (sameIs r a b))), (29, aWays (openL r (sameIs r a b))), (30, iv (↑((openL r (sameIs r a b)).length) : Int)), (10, iv ((↑(cnt (openL r (sameIs r a b)) (smSo a.toNat b.toNat) x11) : Int) + 1)), (31, iv (x11 : Int))] [] 10344) (by kernel_rfl) ⟨tv, (o11 hp h10 x11 hx11 h12 h13), tv, tv⟩ ?_
    refine sR (kt := [1, 2, 8, 29, 30, 10, 31]) (kh := []) (q := inI ((x11 : Int) + 1) /\ True /\ True) (st' := ASt.mk [(1, iv a), (2, iv b), (8, aWays (openL r (sameIs r a b))), (29, aWays (openL r (sameIs r a b))), (30, iv (↑((openL r (sameIs r a b)).length) : Int)), (10, iv ((↑(cnt (openL r (sameIs r a b)) (smSo a.toNat b.toNat) x11) : Int) + 1)), (31, iv ((x11 : Int) + 1))] [] 10360) (by kernel_rfl) ⟨(o12 hp h10 x11 hx11 h12 h13), tv, tv⟩ ?_
    exact loop_next (Hint.ann (h38 r a b) [(1, iv a), (2, iv b), (8, aWays (openL r (sameIs r a b))), (29, aWays (openL r (sameIs r a b))), (30, iv (↑((openL r (sameIs r a b)).length) : Int))] [] 10192) x11 (ent_q hE [] [] [1, 2, 8, 29, 30] [] (((iv a = iv a /\ true = true) /\ (iv b = iv b /\ true = true) /\ (aWays (openL r (sameIs r a b)) = aWays (openL r (sameIs r a b)) /\ true = true) /\ (aWays (openL r (sameIs r a b)) = aWays (openL r (sameIs r a b)) /\ true = true) /\ (iv (↑((openL r (sameIs r a b)).length) : Int) = iv (↑((openL r (sameIs r a b)).length) : Int) /\ true = true) /\ (iv ((↑(cnt (openL r (sameIs r a b)) (smSo a.toNat b.toNat) x11) : Int) + 1) = iv (↑(cnt (openL r (sameIs r a b)) (smSo a.toNat b.toNat) (x11 + 1)) : Int) /\ nilN = []) /\ (iv ((x11 : Int) + 1) = iv (↑(x11 + 1) : Int) /\ nilN = []) /\ True) /\ True /\ T2) (by kernel_rfl) (by kernel_rfl) ⟨⟨⟨rfl, rfl⟩, ⟨rfl, rfl⟩, ⟨rfl, rfl⟩, ⟨rfl, rfl⟩, ⟨rfl, rfl⟩, ⟨(congrArg iv (o13 hp h10 x11 hx11 h12 h13)), rfl⟩, ⟨(congrArg iv (o14 hp h10 x11 hx11 h12 h13)), rfl⟩, tv⟩, tv, rfl, rfl⟩) (o15 hp h10 x11 hx11 h12 h13) (o16 hp h10 x11 hx11 h12 h13)
   ·refine swp_skip ?_
    refine sR (kt := [1, 2, 8, 29, 30, 10, 31]) (kh := []) (q := inI ((x11 : Int) + 1) /\ True /\ True) (st' := ASt.mk [(1, iv a), (2, iv b), (8, aWays (openL r (sameIs r a b))), (29, aWays (openL r (sameIs r a b))), (30, iv (↑((openL r (sameIs r a b)).length) : Int)), (10, iv (↑(cnt (openL r (sameIs r a b)) (smSo a.toNat b.toNat) x11) : Int)), (31, iv ((x11 : Int) + 1))] [] 10336) (by kernel_rfl) ⟨(o17 hp h10 x11 hx11 h12 h13), tv, tv⟩ ?_
    exact loop_next (Hint.ann (h38 r a b) [(1, iv a), (2, iv b), (8, aWays (openL r (sameIs r a b))), (29, aWays (openL r (sameIs r a b))), (30, iv (↑((openL r (sameIs r a b)).length) : Int))] [] 10192) x11 (ent_q hE [] [] [1, 2, 8, 29, 30] [] (((iv a = iv a /\ true = true) /\ (iv b = iv b /\ true = true) /\ (aWays (openL r (sameIs r a b)) = aWays (openL r (sameIs r a b)) /\ true = true) /\ (aWays (openL r (sameIs r a b)) = aWays (openL r (sameIs r a b)) /\ true = true) /\ (iv (↑((openL r (sameIs r a b)).length) : Int) = iv (↑((openL r (sameIs r a b)).length) : Int) /\ true = true) /\ (iv (↑(cnt (openL r (sameIs r a b)) (smSo a.toNat b.toNat) x11) : Int) = iv (↑(cnt (openL r (sameIs r a b)) (smSo a.toNat b.toNat) (x11 + 1)) : Int) /\ nilN = []) /\ (iv ((x11 : Int) + 1) = iv (↑(x11 + 1) : Int) /\ nilN = []) /\ True) /\ True /\ T2) (by kernel_rfl) (by kernel_rfl) ⟨⟨⟨rfl, rfl⟩, ⟨rfl, rfl⟩, ⟨rfl, rfl⟩, ⟨rfl, rfl⟩, ⟨rfl, rfl⟩, ⟨(congrArg iv (o18 hp h10 x11 hx11 h12 h13)), rfl⟩, ⟨(congrArg iv (o19 hp h10 x11 hx11 h12 h13)), rfl⟩, tv⟩, tv, rfl, rfl⟩) (o20 hp h10 x11 hx11 h12 h13) (o21 hp h10 x11 hx11 h12 h13)
  ·refine swp_exit (swp_seq ?_)
   refine swp_region T0_ok mixed (cs := [(7, CallSpec.eq (s86 (↑(cnt (openL r (sameIs r a b)) (smSo a.toNat b.toNat) x11) : Int) ((↑((openL r (sameIs r a b)).length) : Int) - (↑(cnt (openL r (sameIs r a b)) (smSo a.toNat b.toNat) x11) : Int)) (↑((openL r (sameIs r a b)).length) : Int)) [true, true, true])]) (kt := [6, 7]) (kh := []) (q := True /\ True /\ True /\ True /\ inI ((↑((openL r (sameIs r a b)).length) : Int) - (↑(cnt (openL r (sameIs r a b)) (smSo a.toNat b.toNat) x11) : Int)) /\ True /\ True /\ ((iv (↑(cnt (openL r (sameIs r a b)) (smSo a.toNat b.toNat) x11) : Int) = iv (↑(cnt (openL r (sameIs r a b)) (smSo a.toNat b.toNat) x11) : Int) /\ iv ((↑((openL r (sameIs r a b)).length) : Int) - (↑(cnt (openL r (sameIs r a b)) (smSo a.toNat b.toNat) x11) : Int)) = iv ((↑((openL r (sameIs r a b)).length) : Int) - (↑(cnt (openL r (sameIs r a b)) (smSo a.toNat b.toNat) x11) : Int)) /\ iv (↑((openL r (sameIs r a b)).length) : Int) = iv (↑((openL r (sameIs r a b)).length) : Int) /\ True) /\ Triple Try.prog 86 (s86 (↑(cnt (openL r (sameIs r a b)) (smSo a.toNat b.toNat) x11) : Int) ((↑((openL r (sameIs r a b)).length) : Int) - (↑(cnt (openL r (sameIs r a b)) (smSo a.toNat b.toNat) x11) : Int)) (↑((openL r (sameIs r a b)).length) : Int)) /\ True /\ True /\ ∀ (i14 : Env), True) /\ True /\ True /\ True) (st' := ASt.mk [(6, iv (known3 (↑(cnt (openL r (sameIs r a b)) (smSo a.toNat b.toNat) x11) : Int) ((↑((openL r (sameIs r a b)).length) : Int) - (↑(cnt (openL r (sameIs r a b)) (smSo a.toNat b.toNat) x11) : Int)) (↑((openL r (sameIs r a b)).length) : Int))), (7, iv 0)] [] 10280) (by kernel_rfl) ⟨tv, tv, tv, tv, (o22 hp h10 x11 hx11 h12), tv, tv, ⟨⟨rfl, rfl, rfl, tv⟩, (t86 ((↑(cnt (openL r (sameIs r a b)) (smSo a.toNat b.toNat) x11) : Int)) ((↑((openL r (sameIs r a b)).length) : Int) - (↑(cnt (openL r (sameIs r a b)) (smSo a.toNat b.toNat) x11) : Int)) ((↑((openL r (sameIs r a b)).length) : Int))), tv, tv, (fun i14 => tv)⟩, tv, tv, tv⟩ ?_
   refine swp_ret ?_
   exact ret_q [] ((True /\ True /\ True) /\ ((iv (known3 (↑(cnt (openL r (sameIs r a b)) (smSo a.toNat b.toNat) x11) : Int) ((↑((openL r (sameIs r a b)).length) : Int) - (↑(cnt (openL r (sameIs r a b)) (smSo a.toNat b.toNat) x11) : Int)) (↑((openL r (sameIs r a b)).length) : Int)) = iv (sameS r a b) /\ nilN = []) /\ (iv 0 = iv (openE r (sameIs r a b)) /\ nilN = []) /\ True) /\ T3) (by kernel_rfl) ⟨⟨tv, tv, tv⟩, ⟨⟨(congrArg iv (o23 hp h10 x11 hx11 h12)), rfl⟩, ⟨(congrArg iv (o24 hp h10 x11 hx11 h12)), rfl⟩, tv⟩, rfl, rfl, rfl⟩
theorem t38 (r : Run) (a b : Int) : Triple Try.prog 38 (s38 r a b) := by
 apply w38
 case o0 => intro _; unfold sameIs; cases isFound r a <;> rfl
 case o1 => intro _ h; rw [sameS, if_neg (openBad h)]
 case o23 => intro _ h x hx hl; have F := openF h; rw [sameS, if_pos F.zero, show x = (openL r (sameIs r a b)).length by simp only [decide_eq_false_iff_not] at hl; omega, F.eq]
 all_goals (first | (((repeat intro _) <;> (try simp only [v0, v1, v2, v3, v4, v5, v6, v7, v8, v9, inI, fits, Go.Sh.small] at *) <;> first | (exact rfl) | omega | exact vz | (simp_all; done) | (simp_all; omega))) | (
  intro _ h
  have F := openF h
  first | exact F.zero.symm | (intro _ _ _; exact F.zero.symm) | (
   intro x hx hl
   simp only [decide_eq_true_eq, decide_eq_false_iff_not] at hl
   have h1 := sameIs_ok F.isT
   have h4 := F.len
   have h5 := cnt_le (openL r (sameIs r a b)) (smSo a.toNat b.toNat) x
   first
   | omega
   | (have h2 := F.frm x (by omega); omega)
   | ((repeat intro _); simp only [inI]; omega)
   | (intro e; exact cnt_t (by omega) e)
   | (intro e; exact cnt_f (by omega) e))))
end Go.Ab
namespace Go.Sh
def askE (r : Run) (is : Bool) : Int := if check r = 0 then (if is then 0 else 1) else 60
def rfE (r : Run) (is : Bool) : Int := if check r = 0 then (if is then (if (fromsOf r).length = 0 then 3 else 0) else 1) else 60
def rfL (r : Run) (is : Bool) : List (List Int) := if rfE r is = 0 then fromsOf r else []
theorem check_two (r : Run) : check r = 0 ∨ check r = 60 := by unfold check; split; exact .inl rfl; exact .inr rfl
theorem fromsOf_len {r : Run} (ok : Ok r) : (fromsOf r).length <= 729 := Nat.le_trans (List.length_filter_le _ _) (choices_len ok (Nat.zero_le _))
theorem fromsOf_mem {r : Run} {l : List Int} (h : l ∈ fromsOf r) : l.length = r.found.length := choices_mem (List.mem_filter.1 h).1
theorem choicesN_frm {r : Run} : ∀ k first l, first.length + k <= r.found.length -> l ∈ choicesN r k first -> (∀ i, i < first.length -> l.getD i 0 = first.getD i 0) /\ ∀ i, first.length <= i -> i < first.length + k -> l.getD i 0 ∈ (fnd r i).frm := by
 intro k
 induction k with
 | zero => intro first l _ h; simp [choicesN] at h; rw [h]; exact ⟨fun _ _ => rfl, fun i h1 h2 => by omega⟩
 | succ k ih =>
  intro first l hk h
  rw [choicesN, List.mem_flatMap] at h
  obtain ⟨m, hm, h⟩ := h
  obtain ⟨h1, h2⟩ := ih (first ++ [m]) l (by simp; omega) h
  simp only [List.length_append, List.length_cons, List.length_nil] at h1 h2
  refine ⟨fun i hi => ?_, fun i h3 h4 => ?_⟩
  ·rw [h1 i (by omega), Go.Ab.getD_append, if_pos hi]
  ·by_cases e : i = first.length
   ·subst e
    rw [h1 first.length (by omega), Go.Ab.getD_append, if_neg (Nat.lt_irrefl _), Nat.sub_self]
    exact hm
   ·exact h2 i (by omega) (by omega)
theorem fromsOf_frm {r : Run} {l : List Int} (h : l ∈ fromsOf r) {i : Nat} (hi : i < r.found.length) : l.getD i 0 ∈ (fnd r i).frm :=
 (choicesN_frm _ [] l (by simp) (List.mem_filter.1 h).1).2 i (Nat.zero_le _) (by simpa using hi)
theorem frm_range {r : Run} (ok : Ok r) {i : Nat} (hi : i < r.found.length) {x : Int} (h : x ∈ (fnd r i).frm) : 0 <= x /\ x < r.machines.length := by
 obtain ⟨k, hk, e⟩ := List.getElem_of_mem h
 have h2 := ok.frm i hi k hk
 rw [Go.Ab.getD_lt _ _ hk, e] at h2
 exact h2
structure KnowF (r : Run) (is : Bool) : Prop where
 zero : rfE r is = 0
 okb : okRun r = true
 ok : Ok r
 isT : is = true
 eq : rfL r is = fromsOf r
 pos : 0 < (rfL r is).length
 len : (rfL r is).length <= 729
 frm : ∀ x, x < (rfL r is).length -> ((rfL r is).getD x []).length = r.found.length
 mach : ∀ x, x < (rfL r is).length -> ∀ i, i < r.found.length -> 0 <= ((rfL r is).getD x []).getD i 0 /\ ((rfL r is).getD x []).getD i 0 < r.machines.length /\ r.machines.length <= 3
theorem rfE_zero {r : Run} {is : Bool} (h : rfE r is = 0) : check r = 0 /\ is = true /\ 0 < (fromsOf r).length := by
 unfold rfE at h
 split at h
 ·split at h
  ·split at h
   ·cases h
   ·rename_i h1 h2 h3; exact ⟨h1, h2, by omega⟩
  ·cases h
 ·cases h
theorem knowF {r : Run} {is : Bool} (h : (!decide (rfE r is = 0)) = false) : KnowF r is := by
 have h0 : rfE r is = 0 := by simpa using h
 obtain ⟨h1, h2, h3⟩ := rfE_zero h0
 have hb := check_zero.1 h1
 have ok := ok_of hb
 have he : rfL r is = fromsOf r := by rw [rfL, if_pos h0]
 refine ⟨h0, hb, ok, h2, he, by rw [he]; exact h3, by rw [he]; exact fromsOf_len ok, fun x hx => ?_, fun x hx i hi => ?_⟩
 ·rw [he] at hx ⊢
  exact fromsOf_mem (Go.Ab.getD_mem _ [] hx)
 ·rw [he] at hx ⊢
  have := frm_range ok hi (fromsOf_frm (Go.Ab.getD_mem _ [] hx) hi)
  exact ⟨this.1, this.2, ok.machines.2⟩
theorem knowBad {r : Run} {is : Bool} (h : (!decide (rfE r is = 0)) = true) : rfE r is ≠ 0 := by simpa using h
def rhullTo (l : List (List Int)) (F : List Int -> Span) (n : Nat) : Span := (List.range n).foldl (fun o i => hull2 o (F (l.getD i []))) (F (l.getD 0 []))
def rhull (l : List (List Int)) (F : List Int -> Span) : Span := rhullTo l F l.length
theorem rhullTo_succ (l : List (List Int)) (F : List Int -> Span) (n : Nat) : rhullTo l F (n + 1) = hull2 (rhullTo l F n) (F (l.getD n [])) := Go.Ab.foldl_range_succ _ _ _
def whenR (r : Run) (m p : Int) : Span := if rfE r (whenIs r m p) = 0 then rhull (fromsOf r) (fun l => spanOf r l m.toNat p.toNat) else ⟨0, 0⟩
def anyF (l : List (List Int)) (f m n : Nat) : Bool := (l.take n).any (fun x => decide (x.getD f 0 = (m : Int)))
theorem anyF_succ {l : List (List Int)} {f m n : Nat} (h : n < l.length) : anyF l f m (n + 1) = (anyF l f m n || decide ((l.getD n []).getD f 0 = (m : Int))) := by
 unfold anyF; rw [Go.Ab.take_succ _ [] h, List.any_append]; simp
def whTo (l : List (List Int)) (f n : Nat) : List Int := ((List.range n).filter (fun m => anyF l f m l.length)).map (fun m : Nat => (m : Int))
def whereOf (r : Run) (l : List (List Int)) (f : Nat) : List Int := whTo l f r.machines.length
theorem whTo_t {l : List (List Int)} {f n : Nat} (h : anyF l f n l.length = true) : whTo l f (n + 1) = whTo l f n ++ [(n : Int)] := by
 unfold whTo; rw [List.range_succ, List.filter_append, List.map_append]; simp [h]
theorem whTo_f {l : List (List Int)} {f n : Nat} (h : anyF l f n l.length = false) : whTo l f (n + 1) = whTo l f n := by
 unfold whTo; rw [List.range_succ, List.filter_append, List.map_append]; simp [h]
theorem whTo_len (l : List (List Int)) (f n : Nat) : (whTo l f n).length <= n := by
 unfold whTo
 rw [List.length_map]
 exact Nat.le_trans (List.length_filter_le _ _) (by simp)
def whereR (r : Run) (f : Int) : List Int := if rfE r (isFound r f) = 0 then whereOf r (fromsOf r) f.toNat else []
def cntL (l : List (List Int)) (P : List Int -> Bool) (n : Nat) : Nat := (l.take n).countP P
theorem cntL_succ {l : List (List Int)} {P : List Int -> Bool} {n : Nat} (h : n < l.length) : cntL l P (n + 1) = cntL l P n + if P (l.getD n []) then 1 else 0 := by
 unfold cntL; rw [Go.Ab.take_succ _ [] h, List.countP_append, List.countP_singleton]
theorem cntL_t {l : List (List Int)} {P : List Int -> Bool} {n : Nat} (h : n < l.length) (hp : P (l.getD n []) = true) : (cntL l P n : Int) + 1 = cntL l P (n + 1) := by rw [cntL_succ h, if_pos hp]; rfl
theorem cntL_f {l : List (List Int)} {P : List Int -> Bool} {n : Nat} (h : n < l.length) (hp : P (l.getD n []) = false) : (cntL l P n : Int) = cntL l P (n + 1) := by rw [cntL_succ h, hp]; rfl
theorem cntL_le (l : List (List Int)) (P : List Int -> Bool) (n : Nat) : cntL l P n <= n := by
 unfold cntL
 exact Nat.le_trans (List.countP_le_length) (by rw [List.length_take]; omega)
def smL (a b : Nat) (x : List Int) : Bool := decide (x.getD a 0 = x.getD b 0)
def sameR (r : Run) (a b : Int) : Int := if rfE r (sameIs r a b) = 0 then knownOf (cntL (fromsOf r) (smL a.toNat b.toNat) (fromsOf r).length) (fromsOf r).length else 0
def usedTo (l : List Int) (n : Nat) : Nat := (List.range n).countP (fun m : Nat => isIn l (m : Int))
theorem usedTo_t {l : List Int} {n : Nat} (h : isIn l (n : Int) = true) : (usedTo l n : Int) + 1 = usedTo l (n + 1) := by
 unfold usedTo; rw [List.range_succ, List.countP_append, List.countP_singleton, h]; rfl
theorem usedTo_f {l : List Int} {n : Nat} (h : isIn l (n : Int) = false) : (usedTo l n : Int) = usedTo l (n + 1) := by
 unfold usedTo; rw [List.range_succ, List.countP_append, List.countP_singleton, h]; rfl
theorem usedTo_le (l : List Int) (n : Nat) : usedTo l n <= n := by
 unfold usedTo; exact Nat.le_trans List.countP_le_length (by simp)
def fewTo (r : Run) (l : List (List Int)) (n : Nat) : Int := (List.range n).foldl (fun o i => min o (usedTo (l.getD i []) r.machines.length : Int)) r.machines.length
theorem fewTo_succ (r : Run) (l : List (List Int)) (n : Nat) : fewTo r l (n + 1) = min (fewTo r l n) (usedTo (l.getD n []) r.machines.length : Int) := Go.Ab.foldl_range_succ _ _ _
def fewR (r : Run) : Int := if rfE r true = 0 then fewTo r (fromsOf r) (fromsOf r).length else 0
def oldL (r : Run) (p : Nat) (l : List Int) : Span := sumTo r (fun m => spanOf r l m p) r.machines.length
def minIn (g : Nat -> Span) (i : Nat) (o : Span) (k : Nat) : Span := (List.range k).foldl (fun o q => if i = q then o else ⟨max o.lo ((g i).lo - (g q).hi), max o.hi ((g i).hi - (g q).lo)⟩) o
def minTo (g : Nat -> Span) (n i : Nat) : Span := (List.range i).foldl (fun o p => minIn g p o n) ⟨0, 0⟩
def minutes (g : Nat -> Span) (n : Nat) : Span := minTo g n n
def mixL (r : Run) (l : List Int) : Span := sumTo r (fun m => minutes (spanOf r l m) r.plates.toNat) r.machines.length
def nvTo (r : Run) (l : List (List Int)) (m n : Nat) : Bool := (l.take n).all (fun x => decide ((minutes (spanOf r x m) r.plates.toNat).hi = 0))
def suTo (r : Run) (l : List (List Int)) (m n : Nat) : Bool := (l.take n).all (fun x => decide ((minutes (spanOf r x m) r.plates.toNat).lo > 0))
def skipL (f : Nat) (m : Int) (x : List Int) : Bool := decide (0 <= m) && !decide (x.getD f 0 = m)
def allStep (r : Run) (l : List (List Int)) (f : Nat) (m : Int) (s : Bool × Span) (i : Nat) : Bool × Span := if skipL f m (l.getD i []) then s else (true, if s.1 then hull2 s.2 (mixL r (l.getD i [])) else mixL r (l.getD i []))
def allTo (r : Run) (l : List (List Int)) (f : Nat) (m : Int) (n : Nat) : Bool × Span := (List.range n).foldl (allStep r l f m) (false, ⟨0, 0⟩)
@[reducible] def bb (s : Span) : Prop := 0 <= s.lo /\ s.lo <= 27000 /\ 0 <= s.hi /\ s.hi <= 27000
def rdL (r : Run) (f p : Nat) (x : List Int) : Span := spanOf r x (x.getD f 0).toNat p
def oldTo (r : Run) (l : List (List Int)) (f p n : Nat) : Bool := (l.take n).any (fun x => decide ((rdL r f p x).hi > (fnd r f).minute))
def newTo (r : Run) (l : List (List Int)) (f p n : Nat) : Bool := (l.take n).any (fun x => decide ((rdL r f p x).lo <= (fnd r f).minute))
structure Trth where
 minutes : List (List Int)
 frm : List Int
 deriving DecidableEq, Inhabited
def tmin (t : Trth) (m : Nat) : List Int := t.minutes.getD m []
end Go.Sh
namespace Go.En
open Go Go.Ab Go.Sh
end Go.En
namespace Go.Ab
open Go Go.RowKit Go.Proofs Go.Sh Go.En
def s89 (a b : Span) : CallSpec := { args := [vSpan a, vSpan b], res := vSpan (hull2 a b) }
def s118 (r : Run) (is : Bool) : CallSpec := { args := [vRun r, bv is], res := iv (askE r is), pre := fits r }
def s87 (r : Run) (is : Bool) : CallSpec := { args := [vRun r, bv is], res := .tup [aIntss (rfL r is), iv (rfE r is)], pre := fits r }
def c34o (r : Run) (m p : Int) : CallSpec := s87 r (whenIs r m p)
def c34a (r : Run) (m p : Int) : CallSpec := s88 r ((rfL r (whenIs r m p)).getD 0 []) m.toNat p.toNat
def c34b (r : Run) (m p : Int) (i : Nat) : CallSpec := s88 r ((rfL r (whenIs r m p)).getD i []) m.toNat p.toNat
def s34 (r : Run) (m p : Int) : CallSpec := { args := [vRun r, iv m, iv p], res := .tup [vSpan (whenR r m p), iv (rfE r (whenIs r m p))], pre := fits r }
def h34 (r : Run) (m p : Int) : Hint := { X := Nat, M := fun i => [(11, iv i), (10, .ptr 5000 [])], H := fun i => [(5000, .cells 37 (cSpan (rhullTo (rfL r (whenIs r m p)) (fun l => spanOf r l m.toNat p.toNat) i)))], I := fun i => i <= (rfL r (whenIs r m p)).length, mu := fun i => (rfL r (whenIs r m p)).length - i, x0 := (0 : Nat), nx := fun i => i + 1 }
def s91 (r : Run) (l : List (List Int)) (f : Nat) : CallSpec := { args := [vRun r, aIntss l, iv f], res := aInts (whereOf r l f), pre := r.machines.length <= 3 /\ l.length <= 65536 /\ ∀ x, x < l.length -> f < (l.getD x []).length }
def h91a (r : Run) (l : List (List Int)) (f : Nat) : Hint := { X := Nat, M := fun m => [(8, iv m), (7, .vec 5000)], H := fun m => [(5000, .vec 3 1 (whTo l f m).length (fun k => [iv ((whTo l f m).getD k 0)]))], I := fun m => m <= r.machines.length, mu := fun m => r.machines.length - m, x0 := (0 : Nat), nx := fun m => m + 1 }
def h91b (r : Run) (l : List (List Int)) (f : Nat) (m : Nat) : Hint := { X := Nat, M := fun i => [(10, iv i), (9, bv (anyF l f m i))], I := fun i => i <= l.length, mu := fun i => l.length - i, x0 := (0 : Nat), nx := fun i => i + 1 }
def s36 (r : Run) (f : Int) : CallSpec := { args := [vRun r, iv f], res := .tup [aInts (whereR r f), iv (rfE r (isFound r f))], pre := fits r }
def c36o (r : Run) (f : Int) : CallSpec := s87 r (isFound r f)
def c36 (r : Run) (f : Int) : CallSpec := s91 r (rfL r (isFound r f)) f.toNat
def s39 (r : Run) (a b : Int) : CallSpec := { args := [vRun r, iv a, iv b], res := .tup [iv (sameR r a b), iv (rfE r (sameIs r a b))], pre := fits r }
def c39o (r : Run) (a b : Int) : CallSpec := s87 r (sameIs r a b)
def h39 (r : Run) (a b : Int) : Hint := { X := Nat, M := fun i => [(10, iv (cntL (rfL r (sameIs r a b)) (smL a.toNat b.toNat) i)), (11, iv i)], I := fun i => i <= (rfL r (sameIs r a b)).length, mu := fun i => (rfL r (sameIs r a b)).length - i, x0 := (0 : Nat), nx := fun i => i + 1 }
def s40 (r : Run) : CallSpec := { args := [vRun r], res := .tup [iv (fewR r), iv (rfE r true)], pre := fits r }
def h40a (r : Run) : Hint := { X := Nat, M := fun i => [(7, iv i), (6, iv (fewTo r (rfL r true) i))], I := fun i => i <= (rfL r true).length, mu := fun i => (rfL r true).length - i, x0 := (0 : Nat), nx := fun i => i + 1 }
def h40b (r : Run) (i : Nat) : Hint := { X := Nat, M := fun m => [(9, iv m), (8, iv (usedTo ((rfL r true).getD i []) m))], I := fun m => m <= r.machines.length, mu := fun m => r.machines.length - m, x0 := (0 : Nat), nx := fun m => m + 1 }
def h109 (r : Run) (l : List Int) (p : Nat) : Hint := { X := Nat, M := fun i => [(8, iv i), (7, .ptr 5000 [])], H := fun i => [(5000, .cells 37 (cSpan (sumTo r (fun m => spanOf r l m p) i)))], I := fun i => i <= r.machines.length, mu := fun i => r.machines.length - i, x0 := (0 : Nat), nx := fun i => i + 1 }
def h66 (r : Run) (p : Int) : Hint := { X := Nat, M := fun i => [(9, iv i), (8, .ptr 5000 [])], H := fun i => [(5000, .cells 37 (cSpan (rhullTo (rfL r (isPlate r p)) (oldL r p.toNat) i)))], I := fun i => i <= (rfL r (isPlate r p)).length, mu := fun i => (rfL r (isPlate r p)).length - i, x0 := (0 : Nat), nx := fun i => i + 1 }
def h67 (r : Run) (m : Int) : Hint := { X := Nat, M := fun i => [(8, bv (nvTo r (rfL r (isMachine r m)) m.toNat i)), (9, bv (suTo r (rfL r (isMachine r m)) m.toNat i)), (10, iv i)], I := fun i => i <= (rfL r (isMachine r m)).length, mu := fun i => (rfL r (isMachine r m)).length - i, x0 := (0 : Nat), nx := fun i => i + 1 }
def h111 (r : Run) (l : List (List Int)) (f : Nat) (m : Int) : Hint := { X := Nat, M := fun i => [(9, bv (allTo r l f m i).1), (11, iv i), (10, .ptr 5000 [])], H := fun i => [(5000, .cells 37 (cSpan (allTo r l f m i).2))], I := fun i => i <= l.length, mu := fun i => l.length - i, x0 := (0 : Nat), nx := fun i => i + 1 }
def h32 (r : Run) (f p : Int) : Hint := { X := Nat, M := fun i => [(10, bv (oldTo r (rfL r (readIs r f p)) f.toNat p.toNat i)), (11, bv (newTo r (rfL r (readIs r f p)) f.toNat p.toNat i)), (12, iv i)], I := fun i => i <= (rfL r (readIs r f p)).length, mu := fun i => (rfL r (readIs r f p)).length - i, x0 := (0 : Nat), nx := fun i => i + 1 }
def h70 (t : Trth) : Hint := { X := Nat, M := fun i => [(4, iv i), (3, .ptr 5000 [])], H := fun i => [(5000, .cells 56 [.vec 5001, .vec 5002]), (5001, .vec 30 1 i (fun k => [aInts (tmin t k)])), (5002, .vec 3 1 t.frm.length (fun k => [iv (t.frm.getD k 0)]))], I := fun i => i <= t.minutes.length, mu := fun i => t.minutes.length - i, x0 := (0 : Nat), nx := fun i => i + 1 }
end Go.Ab
namespace Go.Ab
open Go Go.RowKit Go.Proofs Go.Sh Go.En
theorem w89 (a : Span) (b : Span)
  (o0 : min (Span.lo a) (Span.lo b) = Span.lo (hull2 a b))
  (o1 : max a.hi b.hi = (hull2 a b).hi) :
  Triple Try.prog 89 (s89 a b) := by
 refine triple_of Try.func89 rfl Try.call89 T0_ok _ rfl rfl rfl rfl (Nat.le_of_ble_eq_true (by kernel_rfl)) (fun _ _ _ _ h => h) ?_
 intro _ C hC _ hE
 obtain ⟨P, w0, E0, av, hA⟩ := C
 subst hC
 refine swp_seq ?_
 refine sR (kt := [2, 3, 4]) (kh := [0, 8, 16]) (q := True /\ True /\ True /\ True) (st' := ASt.mk [(2, .ptr 0 []), (3, .ptr 8 []), (4, .ptr 16 [])] [(0, .cells 37 (cSpan a)), (8, .cells 37 (cSpan b)), (16, .cells 37 [iv 0, iv 0])] 24) (by kernel_rfl) ⟨tv, tv, tv, tv⟩ ?_
 refine swp_seq ?_
 refine sR (kt := [4]) (kh := [16]) (q := True /\ True /\ True /\ True /\ True /\ True /\ True /\ True /\ True /\ True /\ True /\ True /\ True) (st' := ASt.mk [(4, .ptr 16 [])] [(16, .cells 37 [iv (min a.lo b.lo), iv (max a.hi b.hi)])] 120) (by kernel_rfl) ⟨tv, tv, tv, tv, tv, tv, tv, tv, tv, tv, tv, tv, tv⟩ ?_
 refine swp_ret ?_
 exact ret_q [] ((True /\ True) /\ ((iv (min a.lo b.lo) = iv (hull2 a b).lo /\ nilN = []) /\ (iv (max a.hi b.hi) = iv (hull2 a b).hi /\ nilN = []) /\ True) /\ T3) (by kernel_rfl) ⟨⟨tv, tv⟩, ⟨⟨(congrArg iv (o0)), rfl⟩, ⟨(congrArg iv (o1)), rfl⟩, tv⟩, rfl, rfl, rfl⟩
theorem t89 (a b : Span) : Triple Try.prog 89 (s89 a b) := by
 apply w89 <;> rfl
theorem w118 (r : Run) (is : Bool)
 (o0 : fits r -> (!decide (check r = 0)) -> check r = askE r is)
 (o1 : fits r -> (!decide (check r = 0)) = false -> (!is) = true -> 1 = askE r is)
 (o2 : fits r -> (!decide (check r = 0)) = false -> (!is) = false -> 0 = askE r is) :
  Triple Try.prog 118 (s118 r is) := by
 refine triple_of Try.func118 rfl Try.call118 T0_ok _ rfl rfl rfl rfl (Nat.le_of_ble_eq_true (by kernel_rfl)) (fun _ _ _ _ h => h) ?_
 intro hp C hC _ hE
 obtain ⟨P, w0, E0, av, hA⟩ := C
 subst hC
 refine swp_seq ?_
 refine sR (kt := [1, 2]) (kh := [0]) (q := True /\ True /\ True) (st' := ASt.mk [(1, bv is), (2, .ptr 0 [])] [(0, .cells 25 (cRun r))] 16) (by kernel_rfl) ⟨tv, tv, tv⟩ ?_
 refine swp_seq (swp_seq ?_)
 refine swp_region T0_ok mixed (cs := [(1, CallSpec.eq (s63 r) [true])]) (kt := [1, 5]) (kh := []) (q := True /\ ((AV.agg (cRun r) = AV.agg (cRun r) /\ True) /\ Triple Try.prog 63 (s63 r) /\ fits r /\ True /\ ∀ (i0 : Env), True) /\ True /\ True) (st' := ASt.mk [(1, bv is), (5, iv (check r))] [] 40) (by kernel_rfl) ⟨tv, ⟨⟨rfl, tv⟩, (t63 (r)), hp, tv, (fun i0 => tv)⟩, tv, tv⟩ ?_
 refine swp_seq ?_
 refine sR (kt := [1, 5, 9]) (kh := []) (q := True /\ True /\ True) (st' := ASt.mk [(1, bv is), (5, iv (check r)), (9, bv !decide (check r = 0))] [] 56) (by kernel_rfl) ⟨tv, tv, tv⟩ ?_
 refine swp_cond (!decide (check r = 0)) (by kernel_rfl) (fun h1 => ?_) (fun h1 => ?_)
 ·refine swp_seq ?_
  refine sR (kt := [4]) (kh := []) (q := True /\ True /\ True) (st' := ASt.mk [(4, iv (check r))] [] 72) (by kernel_rfl) ⟨tv, tv, tv⟩ ?_
  refine swp_ret ?_
  exact ret_q [] ((True /\ True) /\ (iv (check r) = iv (askE r is) /\ nilN = []) /\ T3) (by kernel_rfl) ⟨⟨tv, tv⟩, ⟨(congrArg iv (o0 hp h1)), rfl⟩, rfl, rfl, rfl⟩
 ·refine swp_skip (swp_seq (swp_seq ?_))
  refine sR (kt := [12]) (kh := []) (q := True /\ True /\ True) (st' := ASt.mk [(12, bv !is)] [] 72) (by kernel_rfl) ⟨tv, tv, tv⟩ ?_
  refine swp_cond (!is) (by kernel_rfl) (fun h2 => ?_) (fun h2 => ?_)
  ·refine swp_seq ?_
   refine sR (kt := [4]) (kh := []) (q := True /\ True) (st' := ASt.mk [(4, iv 1)] [] 80) (by kernel_rfl) ⟨tv, tv⟩ ?_
   refine swp_ret ?_
   exact ret_q [] ((True /\ True) /\ (iv 1 = iv (askE r is) /\ nilN = []) /\ T3) (by kernel_rfl) ⟨⟨tv, tv⟩, ⟨(congrArg iv (o1 hp h1 h2)), rfl⟩, rfl, rfl, rfl⟩
  ·refine swp_skip (swp_seq ?_)
   refine sR (kt := [4]) (kh := []) (q := True /\ True) (st' := ASt.mk [(4, iv 0)] [] 80) (by kernel_rfl) ⟨tv, tv⟩ ?_
   refine swp_ret ?_
   exact ret_q [] ((True /\ True) /\ (iv 0 = iv (askE r is) /\ nilN = []) /\ T3) (by kernel_rfl) ⟨⟨tv, tv⟩, ⟨(congrArg iv (o2 hp h1 h2)), rfl⟩, rfl, rfl, rfl⟩
theorem t118 (r : Run) (is : Bool) : Triple Try.prog 118 (s118 r is) := by
 apply w118
 all_goals (intro _; (repeat intro _); rcases check_two r with e | e <;> simp_all [askE])
abbrev q87_1 (r : Run) (is : Bool) (C : Prop) : Prop := fits r -> (!decide (askE r is = 0)) = false -> C
abbrev q87_2 (r : Run) (is : Bool) (C : Prop) : Prop := q87_1 r is (decide ((↑((fromsOf r).length) : Int) = 0) = false -> C)
theorem w87 (r : Run) (is : Bool)
 (o0 : fits r -> (!decide (askE r is = 0)) -> (rfL r is).length = 0)
 (o1 : fits r -> (!decide (askE r is = 0)) -> askE r is = rfE r is)
 (o2 : q87_1 r is (okRun r = true))
 (o3 : q87_1 r is (decide ((↑((fromsOf r).length) : Int) = 0) = true -> (rfL r is).length = 0))
 (o4 : q87_1 r is (decide ((↑((fromsOf r).length) : Int) = 0) = true -> 3 = rfE r is))
 (o5 : q87_2 r is ((fromsOf r).length = (rfL r is).length))
 (o6 : q87_2 r is (∀ (i4 : Nat), i4 < (rfL r is).length -> [aInts ((fromsOf r).getD i4 [])] = [aInts ((rfL r is).getD i4 [])]))
 (o7 : q87_2 r is (0 = rfE r is)) :
  Triple Try.prog 87 (s87 r is) := by
 refine triple_of Try.func87 rfl Try.call87 T0_ok _ rfl rfl rfl rfl (Nat.le_of_ble_eq_true (by kernel_rfl)) (fun _ _ _ _ h => h) ?_
 intro hp C hC _ hE
 obtain ⟨P, w0, E0, av, hA⟩ := C
 subst hC
 refine swp_seq ?_
 refine sR (kt := [1, 2]) (kh := [0]) (q := True /\ True /\ True /\ True) (st' := ASt.mk [(1, bv is), (2, .ptr 0 [])] [(0, .cells 25 (cRun r))] 24) (by kernel_rfl) ⟨tv, tv, tv, tv⟩ ?_
 refine swp_seq (swp_seq ?_)
 refine swp_region T0_ok mixed (cs := [(2, CallSpec.eq (s118 r is) [true, true])]) (kt := [2, 6]) (kh := [0]) (q := True /\ True /\ ((AV.agg (cRun r) = AV.agg (cRun r) /\ bv is = bv is /\ True) /\ Triple Try.prog 118 (s118 r is) /\ fits r /\ True /\ ∀ (i0 : Env), True) /\ True /\ True) (st' := ASt.mk [(2, .ptr 0 []), (6, iv (askE r is))] [(0, .cells 25 (cRun r))] 56) (by kernel_rfl) ⟨tv, tv, ⟨⟨rfl, rfl, tv⟩, (t118 (r) (is)), hp, tv, (fun i0 => tv)⟩, tv, tv⟩ ?_
 refine swp_seq ?_
 refine sR (kt := [2, 6, 12]) (kh := [0]) (q := True /\ True /\ True) (st' := ASt.mk [(2, .ptr 0 []), (6, iv (askE r is)), (12, bv !decide (askE r is = 0))] [(0, .cells 25 (cRun r))] 72) (by kernel_rfl) ⟨tv, tv, tv⟩ ?_
 refine swp_cond (!decide (askE r is = 0)) (by kernel_rfl) (fun h1 => ?_) (fun h1 => ?_)
 ·refine swp_seq ?_
  refine sR (kt := [4, 5]) (kh := []) (q := True /\ True /\ True /\ True) (st' := ASt.mk [(4, nilv), (5, iv (askE r is))] [] 96) (by kernel_rfl) ⟨tv, tv, tv, tv⟩ ?_
  refine swp_ret ?_
  exact ret_q [] ((True /\ True /\ True) /\ ((rfL r is).length = 0 /\ (iv (askE r is) = iv (rfE r is) /\ nilN = []) /\ True) /\ T3) (by kernel_rfl) ⟨⟨tv, tv, tv⟩, ⟨(o0 hp h1), ⟨(congrArg iv (o1 hp h1)), rfl⟩, tv⟩, rfl, rfl, rfl⟩
 ·refine swp_skip (swp_seq ?_)
  refine swp_region T0_ok mixed (cs := [(1, CallSpec.eq (s93 r) [true])]) (kt := [7]) (kh := []) (q := True /\ ((AV.agg (cRun r) = AV.agg (cRun r) /\ True) /\ Triple Try.prog 93 (s93 r) /\ okRun r = true /\ True /\ ∀ (i2 : Env), True) /\ True /\ True) (st' := ASt.mk [(7, aIntss (fromsOf r))] [] 96) (by kernel_rfl) ⟨tv, ⟨⟨rfl, tv⟩, (t93 (r)), (o2 hp h1), tv, (fun i2 => tv)⟩, tv, tv⟩ ?_
  refine swp_seq (swp_seq ?_)
  refine sR (kt := [7, 18]) (kh := []) (q := True /\ True /\ True /\ True) (st' := ASt.mk [(7, aIntss (fromsOf r)), (18, bv (decide ((↑((fromsOf r).length) : Int) = 0)))] [] 120) (by kernel_rfl) ⟨tv, tv, tv, tv⟩ ?_
  refine swp_cond (decide ((↑((fromsOf r).length) : Int) = 0)) (by kernel_rfl) (fun h3 => ?_) (fun h3 => ?_)
  ·refine swp_seq ?_
   refine sR (kt := [4, 5]) (kh := []) (q := True /\ True /\ True) (st' := ASt.mk [(4, nilv), (5, iv 3)] [] 136) (by kernel_rfl) ⟨tv, tv, tv⟩ ?_
   refine swp_ret ?_
   exact ret_q [] ((True /\ True /\ True) /\ ((rfL r is).length = 0 /\ (iv 3 = iv (rfE r is) /\ nilN = []) /\ True) /\ T3) (by kernel_rfl) ⟨⟨tv, tv, tv⟩, ⟨(o3 hp h1 h3), ⟨(congrArg iv (o4 hp h1 h3)), rfl⟩, tv⟩, rfl, rfl, rfl⟩
  ·refine swp_skip (swp_seq ?_)
   refine sR (kt := [4, 5]) (kh := []) (q := True /\ True /\ True /\ True) (st' := ASt.mk [(4, aIntss (fromsOf r)), (5, iv 0)] [] 144) (by kernel_rfl) ⟨tv, tv, tv, tv⟩ ?_
   refine swp_ret ?_
   exact ret_q [] ((True /\ True /\ True) /\ ((1 = 1 /\ (fromsOf r).length = (rfL r is).length /\ ∀ (i4 : Nat), i4 < (rfL r is).length -> [aInts ((fromsOf r).getD i4 [])] = [aInts ((rfL r is).getD i4 [])]) /\ (iv 0 = iv (rfE r is) /\ nilN = []) /\ True) /\ T3) (by kernel_rfl) ⟨⟨tv, tv, tv⟩, ⟨⟨rfl, (o5 hp h1 h3), (fun i4 => (fun h5 => (o6 hp h1 h3 i4 h5)))⟩, ⟨(congrArg iv (o7 hp h1 h3)), rfl⟩, tv⟩, rfl, rfl, rfl⟩
theorem t87 (r : Run) (is : Bool) : Triple Try.prog 87 (s87 r is) := by
 apply w87
 all_goals (intro _; (repeat intro _); rcases check_two r with e | e <;> cases is <;> first | (exact check_zero.1 e) | (simp_all [askE, rfE, rfL]; done) | skip)
abbrev q34_1 (r : Run) (m : Int) (p : Int) (C : Prop) : Prop := fits r -> (!decide (rfE r (whenIs r m p) = 0)) = false -> C
abbrev q34_2 (r : Run) (m : Int) (p : Int) (C : Nat -> Prop) : Prop := q34_1 r m p (∀ (x12 : Nat), x12 <= (rfL r (whenIs r m p)).length -> decide ((x12 : Int) < (↑((rfL r (whenIs r m p)).length) : Int)) = true -> C x12)
abbrev q34_3 (r : Run) (m : Int) (p : Int) (C : Nat -> Prop) : Prop := q34_1 r m p (∀ (x12 : Nat), x12 <= (rfL r (whenIs r m p)).length -> decide ((x12 : Int) < (↑((rfL r (whenIs r m p)).length) : Int)) = false -> C x12)
theorem w34 (r : Run) (m : Int) (p : Int)
 (o0 : fits r -> (bif isMachine r m then isPlate r p else false) = whenIs r m p)
 (o1 : fits r -> (!decide (rfE r (whenIs r m p) = 0)) -> 0 = (whenR r m p).lo)
 (o2 : fits r -> (!decide (rfE r (whenIs r m p) = 0)) -> 0 = (whenR r m p).hi)
 (o3 : q34_1 r m p (0 < (↑((rfL r (whenIs r m p)).length) : Int)))
 (o4 : q34_1 r m p (m = (↑(m.toNat) : Int)))
 (o5 : q34_1 r m p (p = (↑(p.toNat) : Int)))
 (o6 : q34_1 r m p (okRun r = true))
 (o7 : q34_1 r m p (m.toNat < r.machines.length))
 (o8 : q34_1 r m p ((↑(p.toNat) : Int) < r.plates))
 (o9 : q34_1 r m p (((rfL r (whenIs r m p)).getD 0 []).length <= r.found.length))
 (o10 : q34_1 r m p (0 = (↑0 : Int)))
 (o11 : q34_1 r m p ((spanOf r ((rfL r (whenIs r m p)).getD 0 []) m.toNat p.toNat).lo = (rhullTo (rfL r (whenIs r m p)) (fun (l : List Int) => spanOf r l m.toNat p.toNat) 0).lo))
 (o12 : q34_1 r m p ((spanOf r ((rfL r (whenIs r m p)).getD 0 []) m.toNat p.toNat).hi = (rhullTo (rfL r (whenIs r m p)) (fun (l : List Int) => spanOf r l m.toNat p.toNat) 0).hi))
 (o13 : q34_1 r m p (0 <= (rfL r (whenIs r m p)).length))
 (o14 : q34_2 r m p fun x12 => 0 <= (x12 : Int))
 (o15 : q34_2 r m p fun x12 => (x12 : Int) < (↑((rfL r (whenIs r m p)).length) : Int))
 (o16 : q34_2 r m p fun x12 => m = (↑(m.toNat) : Int))
 (o17 : q34_2 r m p fun x12 => p = (↑(p.toNat) : Int))
 (o18 : q34_2 r m p fun x12 => okRun r = true)
 (o19 : q34_2 r m p fun x12 => m.toNat < r.machines.length)
 (o20 : q34_2 r m p fun x12 => (↑(p.toNat) : Int) < r.plates)
 (o21 : q34_2 r m p fun x12 => ((rfL r (whenIs r m p)).getD x12 []).length <= r.found.length)
 (o22 : q34_2 r m p fun x12 => inI ((x12 : Int) + 1))
 (o23 : q34_2 r m p fun x12 => (x12 : Int) + 1 = (↑(x12 + 1) : Int))
 (o24 : q34_2 r m p fun x12 => (hull2 (rhullTo (rfL r (whenIs r m p)) (fun (l : List Int) => spanOf r l m.toNat p.toNat) x12) (spanOf r ((rfL r (whenIs r m p)).getD x12 []) m.toNat p.toNat)).lo = (rhullTo (rfL r (whenIs r m p)) (fun (l : List Int) => spanOf r l m.toNat p.toNat) (x12 + 1)).lo)
 (o25 : q34_2 r m p fun x12 => (hull2 (rhullTo (rfL r (whenIs r m p)) (fun (l : List Int) => spanOf r l m.toNat p.toNat) x12) (spanOf r ((rfL r (whenIs r m p)).getD x12 []) m.toNat p.toNat)).hi = (rhullTo (rfL r (whenIs r m p)) (fun (l : List Int) => spanOf r l m.toNat p.toNat) (x12 + 1)).hi)
 (o26 : q34_2 r m p fun x12 => x12 + 1 <= (rfL r (whenIs r m p)).length)
 (o27 : q34_2 r m p fun x12 => (rfL r (whenIs r m p)).length - (x12 + 1) < (rfL r (whenIs r m p)).length - x12)
 (o28 : q34_3 r m p fun x12 => (rhullTo (rfL r (whenIs r m p)) (fun (l : List Int) => spanOf r l m.toNat p.toNat) x12).lo = (whenR r m p).lo)
 (o29 : q34_3 r m p fun x12 => (rhullTo (rfL r (whenIs r m p)) (fun (l : List Int) => spanOf r l m.toNat p.toNat) x12).hi = (whenR r m p).hi)
 (o30 : q34_3 r m p fun x12 => 0 = rfE r (whenIs r m p)) :
  Triple Try.prog 34 (s34 r m p) := by
 refine triple_of Try.func34 rfl Try.call34 T0_ok _ rfl rfl rfl rfl (Nat.le_of_ble_eq_true (by kernel_rfl)) (fun _ _ _ _ h => h) ?_
 intro hp C hC _ hE
 obtain ⟨P, w0, E0, av, hA⟩ := C
 subst hC
 refine swp_seq ?_
 refine sR (kt := [1, 2, 3, 6]) (kh := [0, 8]) (q := True /\ True /\ True /\ True) (st' := ASt.mk [(1, iv m), (2, iv p), (3, .ptr 0 []), (6, .ptr 8 [])] [(0, .cells 25 (cRun r)), (8, .cells 37 [iv 0, iv 0])] 24) (by kernel_rfl) ⟨tv, tv, tv, tv⟩ ?_
 refine swp_seq ?_
 refine swp_region T0_ok mixed (cs := [(3, CallSpec.eq (s18 r m) [true, true]), (7, CallSpec.eq (s25 r p) [true, true]), (9, CallSpec.eq (c34o r m p) [true, false])]) (kt := [1, 2, 3, 6, 8, 9]) (kh := [0, 8]) (q := True /\ True /\ True /\ ((AV.agg (cRun r) = AV.agg (cRun r) /\ iv m = iv m /\ True) /\ Triple Try.prog 18 (s18 r m) /\ fits r /\ True /\ ∀ (i0 : Env), True) /\ True /\ (isMachine r m = true -> (True /\ True) /\ True) /\ (isMachine r m = true -> (True /\ True) /\ True) /\ (isMachine r m = true -> (True /\ (isMachine r m = true -> isMachine r m = true) /\ (isMachine r m = true -> isMachine r m = true) /\ True) /\ (AV.agg (cRun r) = AV.agg (cRun r) /\ iv p = iv p /\ True) /\ Triple Try.prog 25 (s25 r p) /\ fits r /\ True /\ ∀ (i6 : Env), True) /\ ((isMachine r m = true -> isMachine r m = true) /\ (isMachine r m = false -> True)) /\ ((AV.agg (cRun r) = AV.agg (cRun r) /\ bv (bif isMachine r m then isPlate r p else false) = bv (whenIs r m p) /\ True) /\ Triple Try.prog 87 (c34o r m p) /\ fits r /\ True /\ ∀ (i9 : Env), True) /\ True /\ True /\ True /\ True /\ True /\ True) (st' := ASt.mk [(1, iv m), (2, iv p), (3, .ptr 0 []), (6, .ptr 8 []), (8, aIntss (rfL r (whenIs r m p))), (9, iv (rfE r (whenIs r m p)))] [(0, .cells 25 (cRun r)), (8, .cells 37 [iv 0, iv 0])] 144) (by kernel_rfl) ⟨tv, tv, tv, ⟨⟨rfl, rfl, tv⟩, (t18 (r) (m)), hp, tv, (fun i0 => tv)⟩, tv, (fun h1 => ⟨⟨tv, tv⟩, tv⟩), (fun h2 => ⟨⟨tv, tv⟩, tv⟩), (fun h3 => ⟨⟨tv, (fun h4 => h3), (fun h5 => h3), tv⟩, ⟨rfl, rfl, tv⟩, (t25 (r) (p)), hp, tv, (fun i6 => tv)⟩), ⟨(fun h7 => h7), (fun h8 => tv)⟩, ⟨⟨rfl, (congrArg bv (o0 hp)), tv⟩, (t87 _ _), hp, tv, (fun i9 => tv)⟩, tv, tv, tv, tv, tv, tv⟩ ?_
 refine swp_seq (swp_seq ?_)
 refine sR (kt := [1, 2, 3, 6, 8, 9, 26]) (kh := [0, 8]) (q := True /\ True /\ True) (st' := ASt.mk [(1, iv m), (2, iv p), (3, .ptr 0 []), (6, .ptr 8 []), (8, aIntss (rfL r (whenIs r m p))), (9, iv (rfE r (whenIs r m p))), (26, bv !decide (rfE r (whenIs r m p) = 0))] [(0, .cells 25 (cRun r)), (8, .cells 37 [iv 0, iv 0])] 160) (by kernel_rfl) ⟨tv, tv, tv⟩ ?_
 refine swp_cond (!decide (rfE r (whenIs r m p) = 0)) (by kernel_rfl) (fun h10 => ?_) (fun h10 => ?_)
 ·refine swp_seq ?_
  refine sR (kt := [6, 7]) (kh := [8]) (q := True /\ True /\ True /\ True /\ True) (st' := ASt.mk [(6, .ptr 8 []), (7, iv (rfE r (whenIs r m p)))] [(8, .cells 37 [iv 0, iv 0])] 192) (by kernel_rfl) ⟨tv, tv, tv, tv, tv⟩ ?_
  refine swp_ret ?_
  exact ret_q [] ((True /\ True /\ True) /\ (((iv 0 = iv (whenR r m p).lo /\ nilN = []) /\ (iv 0 = iv (whenR r m p).hi /\ nilN = []) /\ True) /\ (iv (rfE r (whenIs r m p)) = iv (rfE r (whenIs r m p)) /\ nilN = []) /\ True) /\ T3) (by kernel_rfl) ⟨⟨tv, tv, tv⟩, ⟨⟨⟨(congrArg iv (o1 hp h10)), rfl⟩, ⟨(congrArg iv (o2 hp h10)), rfl⟩, tv⟩, ⟨rfl, rfl⟩, tv⟩, rfl, rfl, rfl⟩
 ·refine swp_skip (swp_seq ?_)
  refine swp_region T0_ok mixed (cs := [(6, CallSpec.eq (c34a r m p) [true, true, false, false])]) (kt := [1, 2, 3, 6, 8, 10]) (kh := [0, 8, 216]) (q := True /\ True /\ (Int.ofNat 0 <= Int.ofNat 0 /\ 0 < (↑((rfL r (whenIs r m p)).length) : Int)) /\ True /\ True /\ True /\ ((AV.agg (cRun r) = AV.agg (cRun r) /\ aInts ((rfL r (whenIs r m p)).getD 0 []) = aInts ((rfL r (whenIs r m p)).getD 0 []) /\ iv m = iv (↑(m.toNat) : Int) /\ iv p = iv (↑(p.toNat) : Int) /\ True) /\ Triple Try.prog 88 (c34a r m p) /\ (okRun r = true /\ m.toNat < r.machines.length /\ (↑(p.toNat) : Int) < r.plates /\ ((rfL r (whenIs r m p)).getD 0 []).length <= r.found.length) /\ True /\ ∀ (i11 : Env), True) /\ True /\ True /\ True) (st' := ASt.mk [(1, iv m), (2, iv p), (3, .ptr 0 []), (6, .ptr 8 []), (8, aIntss (rfL r (whenIs r m p))), (10, .ptr 216 [])] [(0, .cells 25 (cRun r)), (8, .cells 37 [iv 0, iv 0]), (216, .cells 37 (cSpan (spanOf r ((rfL r (whenIs r m p)).getD 0 []) m.toNat p.toNat)))] 232) (by kernel_rfl) ⟨tv, tv, ⟨(by decide), (o3 hp h10)⟩, tv, tv, tv, ⟨⟨rfl, rfl, (congrArg iv (o4 hp h10)), (congrArg iv (o5 hp h10)), tv⟩, (t88 _ _ _ _), ⟨(o6 hp h10), (o7 hp h10), (o8 hp h10), (o9 hp h10)⟩, tv, (fun i11 => tv)⟩, tv, tv, tv⟩ ?_
  refine swp_seq (swp_seq ?_)
  refine sR (kt := [1, 2, 3, 6, 8, 10, 11]) (kh := [0, 8, 216]) (q := True /\ True) (st' := ASt.mk [(1, iv m), (2, iv p), (3, .ptr 0 []), (6, .ptr 8 []), (8, aIntss (rfL r (whenIs r m p))), (10, .ptr 216 []), (11, iv 0)] [(0, .cells 25 (cRun r)), (8, .cells 37 [iv 0, iv 0]), (216, .cells 37 (cSpan (spanOf r ((rfL r (whenIs r m p)).getD 0 []) m.toNat p.toNat)))] 240) (by kernel_rfl) ⟨tv, tv⟩ ?_
  refine swp_block ?_
  refine swp_loopA (Hint.ann (h34 r m p) [(1, iv m), (2, iv p), (3, AV.ptr 0 []), (6, AV.ptr 8 []), (8, aIntss (rfL r (whenIs r m p)))] [(0, OB.cells 25 (cRun r)), (8, OB.cells 37 [iv 0, iv 0])] 10240) (ent_q hE [] [(0, .same 0), (8, .same 8), (5000, .same 216)] [1, 2, 8] [0, 8] (((iv m = iv m /\ true = true) /\ (iv p = iv p /\ true = true) /\ (some (Src.same 0) = some (Src.same 0) /\ nilP = []) /\ (some (Src.same 8) = some (Src.same 8) /\ nilP = []) /\ (aIntss (rfL r (whenIs r m p)) = aIntss (rfL r (whenIs r m p)) /\ true = true) /\ (iv 0 = iv (↑0 : Int) /\ nilN = []) /\ (some (Src.same 216) = some (Src.same 216) /\ nilP = []) /\ True) /\ ((OB.cells 25 (cRun r) = OB.cells 25 (cRun r) /\ true = true) /\ (OB.cells 37 [iv 0, iv 0] = OB.cells 37 [iv 0, iv 0] /\ true = true) /\ (37 = 37 /\ ((iv (spanOf r ((rfL r (whenIs r m p)).getD 0 []) m.toNat p.toNat).lo = iv (rhullTo (rfL r (whenIs r m p)) (fun (l : List Int) => spanOf r l m.toNat p.toNat) 0).lo /\ nilN = []) /\ (iv (spanOf r ((rfL r (whenIs r m p)).getD 0 []) m.toNat p.toNat).hi = iv (rhullTo (rfL r (whenIs r m p)) (fun (l : List Int) => spanOf r l m.toNat p.toNat) 0).hi /\ nilN = []) /\ True) /\ true = true) /\ True) /\ T2) (by kernel_rfl) (by kernel_rfl) ⟨⟨⟨rfl, rfl⟩, ⟨rfl, rfl⟩, ⟨rfl, rfl⟩, ⟨rfl, rfl⟩, ⟨rfl, rfl⟩, ⟨(congrArg iv (o10 hp h10)), rfl⟩, ⟨rfl, rfl⟩, tv⟩, ⟨⟨rfl, rfl⟩, ⟨rfl, rfl⟩, ⟨rfl, ⟨⟨(congrArg iv (o11 hp h10)), rfl⟩, ⟨(congrArg iv (o12 hp h10)), rfl⟩, tv⟩, rfl⟩, tv⟩, rfl, rfl⟩) (o13 hp h10) (fun (x12 : Nat) hx12 => ?_)
  refine swp_seq (swp_seq ?_)
  refine sR (kt := [1, 2, 3, 6, 8, 11, 10, 39]) (kh := [0, 8, 5000]) (q := True /\ True /\ True /\ True /\ True) (st' := ASt.mk [(1, iv m), (2, iv p), (3, .ptr 0 []), (6, .ptr 8 []), (8, aIntss (rfL r (whenIs r m p))), (11, iv (x12 : Int)), (10, .ptr 5000 []), (39, bv (decide ((x12 : Int) < (↑((rfL r (whenIs r m p)).length) : Int))))] [(0, .cells 25 (cRun r)), (8, .cells 37 [iv 0, iv 0]), (5000, .cells 37 (cSpan (rhullTo (rfL r (whenIs r m p)) (fun (l : List Int) => spanOf r l m.toNat p.toNat) x12)))] 10272) (by kernel_rfl) ⟨tv, tv, tv, tv, tv⟩ ?_
  refine swp_cond (decide ((x12 : Int) < (↑((rfL r (whenIs r m p)).length) : Int))) (by kernel_rfl) (fun h13 => ?_) (fun h13 => ?_)
  ·refine swp_skip (swp_seq (swp_block ?_))
   refine swp_region T0_ok mixed (cs := [(8, CallSpec.eq (c34b r m p x12) [true, true, false, false]), (9, CallSpec.eq (s89 (rhullTo (rfL r (whenIs r m p)) (fun (l : List Int) => spanOf r l m.toNat p.toNat) x12) (spanOf r ((rfL r (whenIs r m p)).getD x12 []) m.toNat p.toNat)) [true, true])]) (kt := [1, 2, 3, 6, 8, 11, 10]) (kh := [0, 8, 5000]) (q := True /\ True /\ True /\ True /\ (0 <= (x12 : Int) /\ (x12 : Int) < (↑((rfL r (whenIs r m p)).length) : Int)) /\ True /\ True /\ True /\ ((AV.agg (cRun r) = AV.agg (cRun r) /\ aInts ((rfL r (whenIs r m p)).getD x12 []) = aInts ((rfL r (whenIs r m p)).getD x12 []) /\ iv m = iv (↑(m.toNat) : Int) /\ iv p = iv (↑(p.toNat) : Int) /\ True) /\ Triple Try.prog 88 (c34b r m p x12) /\ (okRun r = true /\ m.toNat < r.machines.length /\ (↑(p.toNat) : Int) < r.plates /\ ((rfL r (whenIs r m p)).getD x12 []).length <= r.found.length) /\ True /\ ∀ (i14 : Env), True) /\ ((AV.agg (cSpan (rhullTo (rfL r (whenIs r m p)) (fun (l : List Int) => spanOf r l m.toNat p.toNat) x12)) = AV.agg (cSpan (rhullTo (rfL r (whenIs r m p)) (fun (l : List Int) => spanOf r l m.toNat p.toNat) x12)) /\ AV.agg (cSpan (spanOf r ((rfL r (whenIs r m p)).getD x12 []) m.toNat p.toNat)) = AV.agg (cSpan (spanOf r ((rfL r (whenIs r m p)).getD x12 []) m.toNat p.toNat)) /\ True) /\ Triple Try.prog 89 (s89 (rhullTo (rfL r (whenIs r m p)) (fun (l : List Int) => spanOf r l m.toNat p.toNat) x12) (spanOf r ((rfL r (whenIs r m p)).getD x12 []) m.toNat p.toNat)) /\ True /\ True /\ ∀ (i15 : Env), True) /\ True /\ True) (st' := ASt.mk [(1, iv m), (2, iv p), (3, .ptr 0 []), (6, .ptr 8 []), (8, aIntss (rfL r (whenIs r m p))), (11, iv (x12 : Int)), (10, .ptr 5000 [])] [(0, .cells 25 (cRun r)), (8, .cells 37 [iv 0, iv 0]), (5000, .cells 37 (cSpan (hull2 (rhullTo (rfL r (whenIs r m p)) (fun (l : List Int) => spanOf r l m.toNat p.toNat) x12) (spanOf r ((rfL r (whenIs r m p)).getD x12 []) m.toNat p.toNat))))] 10360) (by kernel_rfl) ⟨tv, tv, tv, tv, ⟨(o14 hp h10 x12 hx12 h13), (o15 hp h10 x12 hx12 h13)⟩, tv, tv, tv, ⟨⟨rfl, rfl, (congrArg iv (o16 hp h10 x12 hx12 h13)), (congrArg iv (o17 hp h10 x12 hx12 h13)), tv⟩, (t88 _ _ _ _), ⟨(o18 hp h10 x12 hx12 h13), (o19 hp h10 x12 hx12 h13), (o20 hp h10 x12 hx12 h13), (o21 hp h10 x12 hx12 h13)⟩, tv, (fun i14 => tv)⟩, ⟨⟨rfl, rfl, tv⟩, (t89 (rhullTo (rfL r (whenIs r m p)) (fun (l : List Int) => spanOf r l m.toNat p.toNat) x12) (spanOf r ((rfL r (whenIs r m p)).getD x12 []) m.toNat p.toNat)), tv, tv, (fun i15 => tv)⟩, tv, tv⟩ ?_
   refine sR (kt := [1, 2, 3, 6, 8, 11, 10]) (kh := [0, 8, 5000]) (q := True /\ inI ((x12 : Int) + 1) /\ True /\ True) (st' := ASt.mk [(1, iv m), (2, iv p), (3, .ptr 0 []), (6, .ptr 8 []), (8, aIntss (rfL r (whenIs r m p))), (11, iv ((x12 : Int) + 1)), (10, .ptr 5000 [])] [(0, .cells 25 (cRun r)), (8, .cells 37 [iv 0, iv 0]), (5000, .cells 37 (cSpan (hull2 (rhullTo (rfL r (whenIs r m p)) (fun (l : List Int) => spanOf r l m.toNat p.toNat) x12) (spanOf r ((rfL r (whenIs r m p)).getD x12 []) m.toNat p.toNat))))] 10384) (by kernel_rfl) ⟨tv, (o22 hp h10 x12 hx12 h13), tv, tv⟩ ?_
   exact loop_next (Hint.ann (h34 r m p) [(1, iv m), (2, iv p), (3, AV.ptr 0 []), (6, AV.ptr 8 []), (8, aIntss (rfL r (whenIs r m p)))] [(0, OB.cells 25 (cRun r)), (8, OB.cells 37 [iv 0, iv 0])] 10240) x12 (ent_q hE [] [(0, .same 0), (8, .same 8), (5000, .same 5000)] [1, 2, 8] [0, 8] (((iv m = iv m /\ true = true) /\ (iv p = iv p /\ true = true) /\ (some (Src.same 0) = some (Src.same 0) /\ nilP = []) /\ (some (Src.same 8) = some (Src.same 8) /\ nilP = []) /\ (aIntss (rfL r (whenIs r m p)) = aIntss (rfL r (whenIs r m p)) /\ true = true) /\ (iv ((x12 : Int) + 1) = iv (↑(x12 + 1) : Int) /\ nilN = []) /\ (some (Src.same 5000) = some (Src.same 5000) /\ nilP = []) /\ True) /\ ((OB.cells 25 (cRun r) = OB.cells 25 (cRun r) /\ true = true) /\ (OB.cells 37 [iv 0, iv 0] = OB.cells 37 [iv 0, iv 0] /\ true = true) /\ (37 = 37 /\ ((iv (hull2 (rhullTo (rfL r (whenIs r m p)) (fun (l : List Int) => spanOf r l m.toNat p.toNat) x12) (spanOf r ((rfL r (whenIs r m p)).getD x12 []) m.toNat p.toNat)).lo = iv (rhullTo (rfL r (whenIs r m p)) (fun (l : List Int) => spanOf r l m.toNat p.toNat) (x12 + 1)).lo /\ nilN = []) /\ (iv (hull2 (rhullTo (rfL r (whenIs r m p)) (fun (l : List Int) => spanOf r l m.toNat p.toNat) x12) (spanOf r ((rfL r (whenIs r m p)).getD x12 []) m.toNat p.toNat)).hi = iv (rhullTo (rfL r (whenIs r m p)) (fun (l : List Int) => spanOf r l m.toNat p.toNat) (x12 + 1)).hi /\ nilN = []) /\ True) /\ true = true) /\ True) /\ T2) (by kernel_rfl) (by kernel_rfl) ⟨⟨⟨rfl, rfl⟩, ⟨rfl, rfl⟩, ⟨rfl, rfl⟩, ⟨rfl, rfl⟩, ⟨rfl, rfl⟩, ⟨(congrArg iv (o23 hp h10 x12 hx12 h13)), rfl⟩, ⟨rfl, rfl⟩, tv⟩, ⟨⟨rfl, rfl⟩, ⟨rfl, rfl⟩, ⟨rfl, ⟨⟨(congrArg iv (o24 hp h10 x12 hx12 h13)), rfl⟩, ⟨(congrArg iv (o25 hp h10 x12 hx12 h13)), rfl⟩, tv⟩, rfl⟩, tv⟩, rfl, rfl⟩) (o26 hp h10 x12 hx12 h13) (o27 hp h10 x12 hx12 h13)
  ·refine swp_exit (swp_seq ?_)
   refine sR (kt := [6, 7]) (kh := [8]) (q := True /\ True /\ True /\ True) (st' := ASt.mk [(6, .ptr 8 []), (7, iv 0)] [(8, .cells 37 (cSpan (rhullTo (rfL r (whenIs r m p)) (fun (l : List Int) => spanOf r l m.toNat p.toNat) x12)))] 10296) (by kernel_rfl) ⟨tv, tv, tv, tv⟩ ?_
   refine swp_ret ?_
   exact ret_q [] ((True /\ True /\ True) /\ (((iv (rhullTo (rfL r (whenIs r m p)) (fun (l : List Int) => spanOf r l m.toNat p.toNat) x12).lo = iv (whenR r m p).lo /\ nilN = []) /\ (iv (rhullTo (rfL r (whenIs r m p)) (fun (l : List Int) => spanOf r l m.toNat p.toNat) x12).hi = iv (whenR r m p).hi /\ nilN = []) /\ True) /\ (iv 0 = iv (rfE r (whenIs r m p)) /\ nilN = []) /\ True) /\ T3) (by kernel_rfl) ⟨⟨tv, tv, tv⟩, ⟨⟨⟨(congrArg iv (o28 hp h10 x12 hx12 h13)), rfl⟩, ⟨(congrArg iv (o29 hp h10 x12 hx12 h13)), rfl⟩, tv⟩, ⟨(congrArg iv (o30 hp h10 x12 hx12 h13)), rfl⟩, tv⟩, rfl, rfl, rfl⟩
theorem t34 (r : Run) (m p : Int) : Triple Try.prog 34 (s34 r m p) := by
  apply w34
  all_goals (first
    | (intro _; unfold whenIs; cases isMachine r m <;> rfl)
    | (intro _ h; rw [whenR, if_neg (knowBad h)]; done)
    | (intro _ h
       have F := knowF h
       have hw := whenIs_ok F.ok F.isT
       have h1 := F.pos
       have h2 := F.len
       first
       | exact F.zero.symm
       | exact F.okb
       | omega
       | (rw [F.frm 0 F.pos]; exact Nat.le_refl _)
       | rfl
       | (intro x hx hl
          simp only [decide_eq_true_eq, decide_eq_false_iff_not] at hl
          first
          | exact F.zero.symm
          | exact F.okb
          | omega
          | (rw [F.frm x (by omega)]; exact Nat.le_refl _)
          | (simp only [inI]; omega)
          | (rw [rhullTo_succ]; done)
          | (rw [whenR, if_pos F.zero, ← F.eq, show x = (rfL r (whenIs r m p)).length by omega] <;> rfl))))
abbrev q91_1 (r : Run) (l : List (List Int)) (f : Nat) (C : Prop) : Prop := (r.machines.length <= 3 /\ l.length <= 65536 /\ ∀ (x : Nat), x < l.length -> f < (l.getD x []).length) -> C
abbrev q91_2 (r : Run) (l : List (List Int)) (f : Nat) (C : Nat -> Prop) : Prop := q91_1 r l f (∀ (x0 : Nat), x0 <= r.machines.length -> decide ((x0 : Int) < (↑(r.machines.length) : Int)) = true -> C x0)
abbrev q91_3 (r : Run) (l : List (List Int)) (f : Nat) (C : Nat -> Nat -> Prop) : Prop := q91_2 r l f fun x0 => ∀ (x2 : Nat), x2 <= l.length -> decide ((x2 : Int) < (↑(l.length) : Int)) = true -> C x0 x2
abbrev q91_4 (r : Run) (l : List (List Int)) (f : Nat) (C : Nat -> Nat -> Prop) : Prop := q91_2 r l f fun x0 => ∀ (x2 : Nat), x2 <= l.length -> decide ((x2 : Int) < (↑(l.length) : Int)) = false -> anyF l f x0 x2 = true -> C x0 x2
abbrev q91_5 (r : Run) (l : List (List Int)) (f : Nat) (C : Nat -> Nat -> Prop) : Prop := q91_2 r l f fun x0 => ∀ (x2 : Nat), x2 <= l.length -> decide ((x2 : Int) < (↑(l.length) : Int)) = false -> anyF l f x0 x2 = false -> C x0 x2
theorem w91 (r : Run) (l : List (List Int)) (f : Nat)
 (o0 : q91_1 r l f (0 = (↑0 : Int)))
 (o1 : q91_1 r l f ((whTo l f 0).length = 0))
 (o2 : q91_1 r l f (0 <= r.machines.length))
 (o3 : q91_2 r l f fun x0 => 0 = (↑0 : Int))
 (o4 : q91_2 r l f fun x0 => false = anyF l f x0 0)
 (o5 : q91_2 r l f fun x0 => 0 <= l.length)
 (o6 : q91_3 r l f fun x0 x2 => (!anyF l f x0 x2) = true -> 0 <= (x2 : Int))
 (o7 : q91_3 r l f fun x0 x2 => (!anyF l f x0 x2) = true -> (x2 : Int) < (↑(l.length) : Int))
 (o8 : q91_3 r l f fun x0 x2 => (!anyF l f x0 x2) = true -> 0 <= (f : Int))
 (o9 : q91_3 r l f fun x0 x2 => (!anyF l f x0 x2) = true -> (f : Int) < (↑((l.getD x2 []).length) : Int))
 (o10 : q91_3 r l f fun x0 x2 => anyF l f x0 x2 = false -> (!anyF l f x0 x2) = true)
 (o11 : q91_3 r l f fun x0 x2 => inI ((x2 : Int) + 1))
 (o12 : q91_3 r l f fun x0 x2 => (x2 : Int) + 1 = (↑(x2 + 1) : Int))
 (o13 : q91_3 r l f fun x0 x2 => (bif anyF l f x0 x2 then true else decide ((l.getD x2 []).getD f 0 = (x0 : Int))) = anyF l f x0 (x2 + 1))
 (o14 : q91_3 r l f fun x0 x2 => x2 + 1 <= l.length)
 (o15 : q91_3 r l f fun x0 x2 => l.length - (x2 + 1) < l.length - x2)
 (o16 : q91_4 r l f fun x0 x2 => (whTo l f x0).length + 1 <= 65536)
 (o17 : q91_4 r l f fun x0 x2 => inI ((x0 : Int) + 1))
 (o18 : q91_4 r l f fun x0 x2 => (x0 : Int) + 1 = (↑(x0 + 1) : Int))
 (o19 : q91_4 r l f fun x0 x2 => (whTo l f x0).length + 1 = (whTo l f (x0 + 1)).length)
 (o20 : q91_4 r l f fun x0 x2 => ∀ (i24 : Nat), i24 < (whTo l f x0).length + 1 -> catF (whTo l f x0).length (fun (k : Nat) => [iv ((whTo l f x0).getD k 0)]) (fun (j : Nat) => List.getD [[iv (x0 : Int)]] j (TI.za ti3)) i24 = [iv ((whTo l f (x0 + 1)).getD i24 0)])
 (o21 : q91_4 r l f fun x0 x2 => x0 + 1 <= r.machines.length)
 (o22 : q91_4 r l f fun x0 x2 => r.machines.length - (x0 + 1) < r.machines.length - x0)
 (o23 : q91_5 r l f fun x0 x2 => inI ((x0 : Int) + 1))
 (o24 : q91_5 r l f fun x0 x2 => (x0 : Int) + 1 = (↑(x0 + 1) : Int))
 (o25 : q91_5 r l f fun x0 x2 => (whTo l f x0).length = (whTo l f (x0 + 1)).length)
 (o26 : q91_5 r l f fun x0 x2 => ∀ (i26 : Nat), i26 < (whTo l f x0).length -> [iv ((whTo l f x0).getD i26 0)] = [iv ((whTo l f (x0 + 1)).getD i26 0)])
 (o27 : q91_5 r l f fun x0 x2 => x0 + 1 <= r.machines.length)
 (o28 : q91_5 r l f fun x0 x2 => r.machines.length - (x0 + 1) < r.machines.length - x0)
 (o29 : q91_1 r l f (∀ (x0 : Nat), x0 <= r.machines.length -> decide ((x0 : Int) < (↑(r.machines.length) : Int)) = false -> (whTo l f x0).length = (whereOf r l f).length))
 (o30 : q91_1 r l f (∀ (x0 : Nat), x0 <= r.machines.length -> decide ((x0 : Int) < (↑(r.machines.length) : Int)) = false -> ∀ (i28 : Nat), i28 < (whereOf r l f).length -> [iv ((whTo l f x0).getD i28 0)] = [iv ((whereOf r l f).getD i28 0)])) :
  Triple Try.prog 91 (s91 r l f) := by
 refine triple_of Try.func91 rfl Try.call91 T0_ok _ rfl rfl rfl rfl (Nat.le_of_ble_eq_true (by kernel_rfl)) (fun _ _ _ _ h => h) ?_
 intro hp C hC _ hE
 obtain ⟨P, w0, E0, av, hA⟩ := C
 subst hC
 refine swp_seq ?_
 refine sR (kt := [1, 2, 3]) (kh := [0]) (q := True /\ True /\ True) (st' := ASt.mk [(1, aIntss l), (2, iv (f : Int)), (3, .ptr 0 [])] [(0, .cells 25 (cRun r))] 16) (by kernel_rfl) ⟨tv, tv, tv⟩ ?_
 refine swp_seq ?_
 refine sR (kt := [1, 2, 3, 7]) (kh := [0]) (q := True /\ True) (st' := ASt.mk [(1, aIntss l), (2, iv (f : Int)), (3, .ptr 0 []), (7, nilv)] [(0, .cells 25 (cRun r))] 24) (by kernel_rfl) ⟨tv, tv⟩ ?_
 refine swp_seq (swp_seq ?_)
 refine sR (kt := [1, 2, 3, 7, 8]) (kh := [0]) (q := True /\ True) (st' := ASt.mk [(1, aIntss l), (2, iv (f : Int)), (3, .ptr 0 []), (7, nilv), (8, iv 0)] [(0, .cells 25 (cRun r))] 32) (by kernel_rfl) ⟨tv, tv⟩ ?_
 refine swp_block ?_
 refine swp_loopA (Hint.ann (h91a r l f) [(1, aIntss l), (2, iv (f : Int)), (3, AV.ptr 0 [])] [(0, OB.cells 25 (cRun r))] 10032) (ent_q hE [] [(0, .same 0), (5000, .nil)] [1, 2] [0] (((aIntss l = aIntss l /\ true = true) /\ (iv (f : Int) = iv (f : Int) /\ true = true) /\ (some (Src.same 0) = some (Src.same 0) /\ nilP = []) /\ (iv 0 = iv (↑0 : Int) /\ nilN = []) /\ some Src.nil = some Src.nil /\ True) /\ ((OB.cells 25 (cRun r) = OB.cells 25 (cRun r) /\ true = true) /\ (whTo l f 0).length = 0 /\ True) /\ T2) (by kernel_rfl) (by kernel_rfl) ⟨⟨⟨rfl, rfl⟩, ⟨rfl, rfl⟩, ⟨rfl, rfl⟩, ⟨(congrArg iv (o0 hp)), rfl⟩, rfl, tv⟩, ⟨⟨rfl, rfl⟩, (o1 hp), tv⟩, rfl, rfl⟩) (o2 hp) (fun (x0 : Nat) hx0 => ?_)
 refine swp_seq (swp_seq ?_)
 refine sR (kt := [1, 2, 3, 8, 7, 15]) (kh := [0, 5000]) (q := True /\ True /\ True /\ True /\ True /\ True) (st' := ASt.mk [(1, aIntss l), (2, iv (f : Int)), (3, .ptr 0 []), (8, iv (x0 : Int)), (7, .vec 5000), (15, bv (decide ((x0 : Int) < (↑(r.machines.length) : Int))))] [(0, .cells 25 (cRun r)), (5000, .vec 3 1 (whTo l f x0).length fun (k : Nat) => [iv ((whTo l f x0).getD k 0)])] 10072) (by kernel_rfl) ⟨tv, tv, tv, tv, tv, tv⟩ ?_
 refine swp_cond (decide ((x0 : Int) < (↑(r.machines.length) : Int))) (by kernel_rfl) (fun h1 => ?_) (fun h1 => ?_)
 ·refine swp_skip (swp_seq (swp_block (swp_seq ?_)))
  refine sR (kt := [1, 2, 3, 8, 7, 9]) (kh := [0, 5000]) (q := True /\ True) (st' := ASt.mk [(1, aIntss l), (2, iv (f : Int)), (3, .ptr 0 []), (8, iv (x0 : Int)), (7, .vec 5000), (9, bv false)] [(0, .cells 25 (cRun r)), (5000, .vec 3 1 (whTo l f x0).length fun (k : Nat) => [iv ((whTo l f x0).getD k 0)])] 10080) (by kernel_rfl) ⟨tv, tv⟩ ?_
  refine swp_seq (swp_seq ?_)
  refine sR (kt := [1, 2, 3, 8, 7, 9, 10]) (kh := [0, 5000]) (q := True /\ True) (st' := ASt.mk [(1, aIntss l), (2, iv (f : Int)), (3, .ptr 0 []), (8, iv (x0 : Int)), (7, .vec 5000), (9, bv false), (10, iv 0)] [(0, .cells 25 (cRun r)), (5000, .vec 3 1 (whTo l f x0).length fun (k : Nat) => [iv ((whTo l f x0).getD k 0)])] 10088) (by kernel_rfl) ⟨tv, tv⟩ ?_
  refine swp_block ?_
  refine swp_loopA (Hint.ann (h91b r l f x0) [(1, aIntss l), (2, iv (f : Int)), (3, AV.ptr 0 []), (8, iv (x0 : Int)), (7, AV.vec 5000)] [(0, OB.cells 25 (cRun r)), (5000, OB.vec 3 1 (whTo l f x0).length fun (k : Nat) => [iv ((whTo l f x0).getD k 0)])] 20088) (ent_q hE [] [(0, .same 0), (5000, .same 5000)] [1, 2, 8] [0, 5000] (((aIntss l = aIntss l /\ true = true) /\ (iv (f : Int) = iv (f : Int) /\ true = true) /\ (some (Src.same 0) = some (Src.same 0) /\ nilP = []) /\ (iv (x0 : Int) = iv (x0 : Int) /\ true = true) /\ some (Src.same 5000) = some (Src.same 5000) /\ (iv 0 = iv (↑0 : Int) /\ nilN = []) /\ (bv false = bv (anyF l f x0 0) /\ nilN = []) /\ True) /\ ((OB.cells 25 (cRun r) = OB.cells 25 (cRun r) /\ true = true) /\ (((OB.vec 3 1 (whTo l f x0).length fun (k : Nat) => [iv ((whTo l f x0).getD k 0)]) = OB.vec 3 1 (whTo l f x0).length fun (k : Nat) => [iv ((whTo l f x0).getD k 0)]) /\ true = true) /\ True) /\ T2) (by kernel_rfl) (by kernel_rfl) ⟨⟨⟨rfl, rfl⟩, ⟨rfl, rfl⟩, ⟨rfl, rfl⟩, ⟨rfl, rfl⟩, rfl, ⟨(congrArg iv (o3 hp x0 hx0 h1)), rfl⟩, ⟨(congrArg bv (o4 hp x0 hx0 h1)), rfl⟩, tv⟩, ⟨⟨rfl, rfl⟩, ⟨rfl, rfl⟩, tv⟩, rfl, rfl⟩) (o5 hp x0 hx0 h1) (fun (x2 : Nat) hx2 => ?_)
  refine swp_seq (swp_seq ?_)
  refine sR (kt := [1, 2, 3, 8, 7, 10, 9, 21]) (kh := [0, 5000]) (q := True /\ True /\ True /\ True /\ True) (st' := ASt.mk [(1, aIntss l), (2, iv (f : Int)), (3, .ptr 0 []), (8, iv (x0 : Int)), (7, .vec 5000), (10, iv (x2 : Int)), (9, bv (anyF l f x0 x2)), (21, bv (decide ((x2 : Int) < (↑(l.length) : Int))))] [(0, .cells 25 (cRun r)), (5000, .vec 3 1 (whTo l f x0).length fun (k : Nat) => [iv ((whTo l f x0).getD k 0)])] 20120) (by kernel_rfl) ⟨tv, tv, tv, tv, tv⟩ ?_
  refine swp_cond (decide ((x2 : Int) < (↑(l.length) : Int))) (by kernel_rfl) (fun h3 => ?_) (fun h3 => ?_)
  ·refine swp_skip (swp_seq (swp_block ?_))
   refine sR (kt := [1, 2, 3, 8, 7, 10, 9]) (kh := [0, 5000]) (q := True /\ True /\ ((!anyF l f x0 x2) = true -> (True /\ True) /\ True) /\ ((!anyF l f x0 x2) = true -> (True /\ True) /\ True) /\ ((!anyF l f x0 x2) = true -> (((!anyF l f x0 x2) = true -> (!anyF l f x0 x2) = true) /\ ((!anyF l f x0 x2) = true -> (!anyF l f x0 x2) = true) /\ True) /\ 0 <= (x2 : Int) /\ (x2 : Int) < (↑(l.length) : Int)) /\ ((!anyF l f x0 x2) = true -> (((!anyF l f x0 x2) = true -> (!anyF l f x0 x2) = true) /\ True) /\ True) /\ ((!anyF l f x0 x2) = true -> (True /\ True) /\ True) /\ ((!anyF l f x0 x2) = true -> (((!anyF l f x0 x2) = true -> (!anyF l f x0 x2) = true) /\ ((!anyF l f x0 x2) = true -> (!anyF l f x0 x2) = true) /\ True) /\ 0 <= (f : Int) /\ (f : Int) < (↑((l.getD x2 []).length) : Int)) /\ ((!anyF l f x0 x2) = true -> (((!anyF l f x0 x2) = true -> (!anyF l f x0 x2) = true) /\ True) /\ True) /\ ((!anyF l f x0 x2) = true -> (True /\ True) /\ True) /\ ((!anyF l f x0 x2) = true -> (((!anyF l f x0 x2) = true -> (!anyF l f x0 x2) = true) /\ ((!anyF l f x0 x2) = true -> (!anyF l f x0 x2) = true) /\ True) /\ True) /\ ((anyF l f x0 x2 = true -> True) /\ (anyF l f x0 x2 = false -> (!anyF l f x0 x2) = true)) /\ True /\ True) (st' := ASt.mk [(1, aIntss l), (2, iv (f : Int)), (3, .ptr 0 []), (8, iv (x0 : Int)), (7, .vec 5000), (10, iv (x2 : Int)), (9, bv (bif anyF l f x0 x2 then true else decide ((l.getD x2 []).getD f 0 = (x0 : Int))))] [(0, .cells 25 (cRun r)), (5000, .vec 3 1 (whTo l f x0).length fun (k : Nat) => [iv ((whTo l f x0).getD k 0)])] 20224) (by kernel_rfl) ⟨tv, tv, (fun h4 => ⟨⟨tv, tv⟩, tv⟩), (fun h5 => ⟨⟨tv, tv⟩, tv⟩), (fun h6 => ⟨⟨(fun h7 => h6), (fun h8 => h6), tv⟩, (o6 hp x0 hx0 h1 x2 hx2 h3 h6), (o7 hp x0 hx0 h1 x2 hx2 h3 h6)⟩), (fun h9 => ⟨⟨(fun h10 => h9), tv⟩, tv⟩), (fun h11 => ⟨⟨tv, tv⟩, tv⟩), (fun h12 => ⟨⟨(fun h13 => h12), (fun h14 => h12), tv⟩, (o8 hp x0 hx0 h1 x2 hx2 h3 h12), (o9 hp x0 hx0 h1 x2 hx2 h3 h12)⟩), (fun h15 => ⟨⟨(fun h16 => h15), tv⟩, tv⟩), (fun h17 => ⟨⟨tv, tv⟩, tv⟩), (fun h18 => ⟨⟨(fun h19 => h18), (fun h20 => h18), tv⟩, tv⟩), ⟨(fun h21 => tv), (fun h22 => (o10 hp x0 hx0 h1 x2 hx2 h3 h22))⟩, tv, tv⟩ ?_
   refine sR (kt := [1, 2, 3, 8, 7, 10, 9]) (kh := [0, 5000]) (q := True /\ inI ((x2 : Int) + 1) /\ True /\ True) (st' := ASt.mk [(1, aIntss l), (2, iv (f : Int)), (3, .ptr 0 []), (8, iv (x0 : Int)), (7, .vec 5000), (10, iv ((x2 : Int) + 1)), (9, bv (bif anyF l f x0 x2 then true else decide ((l.getD x2 []).getD f 0 = (x0 : Int))))] [(0, .cells 25 (cRun r)), (5000, .vec 3 1 (whTo l f x0).length fun (k : Nat) => [iv ((whTo l f x0).getD k 0)])] 20248) (by kernel_rfl) ⟨tv, (o11 hp x0 hx0 h1 x2 hx2 h3), tv, tv⟩ ?_
   exact loop_next (Hint.ann (h91b r l f x0) [(1, aIntss l), (2, iv (f : Int)), (3, AV.ptr 0 []), (8, iv (x0 : Int)), (7, AV.vec 5000)] [(0, OB.cells 25 (cRun r)), (5000, OB.vec 3 1 (whTo l f x0).length fun (k : Nat) => [iv ((whTo l f x0).getD k 0)])] 20088) x2 (ent_q hE [] [(0, .same 0), (5000, .same 5000)] [1, 2, 8] [0, 5000] (((aIntss l = aIntss l /\ true = true) /\ (iv (f : Int) = iv (f : Int) /\ true = true) /\ (some (Src.same 0) = some (Src.same 0) /\ nilP = []) /\ (iv (x0 : Int) = iv (x0 : Int) /\ true = true) /\ some (Src.same 5000) = some (Src.same 5000) /\ (iv ((x2 : Int) + 1) = iv (↑(x2 + 1) : Int) /\ nilN = []) /\ (bv (bif anyF l f x0 x2 then true else decide ((l.getD x2 []).getD f 0 = (x0 : Int))) = bv (anyF l f x0 (x2 + 1)) /\ nilN = []) /\ True) /\ ((OB.cells 25 (cRun r) = OB.cells 25 (cRun r) /\ true = true) /\ (((OB.vec 3 1 (whTo l f x0).length fun (k : Nat) => [iv ((whTo l f x0).getD k 0)]) = OB.vec 3 1 (whTo l f x0).length fun (k : Nat) => [iv ((whTo l f x0).getD k 0)]) /\ true = true) /\ True) /\ T2) (by kernel_rfl) (by kernel_rfl) ⟨⟨⟨rfl, rfl⟩, ⟨rfl, rfl⟩, ⟨rfl, rfl⟩, ⟨rfl, rfl⟩, rfl, ⟨(congrArg iv (o12 hp x0 hx0 h1 x2 hx2 h3)), rfl⟩, ⟨(congrArg bv (o13 hp x0 hx0 h1 x2 hx2 h3)), rfl⟩, tv⟩, ⟨⟨rfl, rfl⟩, ⟨rfl, rfl⟩, tv⟩, rfl, rfl⟩) (o14 hp x0 hx0 h1 x2 hx2 h3) (o15 hp x0 hx0 h1 x2 hx2 h3)
  ·refine swp_exit (swp_seq ?_)
   refine sR (kt := [1, 2, 3, 8, 7, 36]) (kh := [0, 5000]) (q := True /\ True) (st' := ASt.mk [(1, aIntss l), (2, iv (f : Int)), (3, .ptr 0 []), (8, iv (x0 : Int)), (7, .vec 5000), (36, bv (anyF l f x0 x2))] [(0, .cells 25 (cRun r)), (5000, .vec 3 1 (whTo l f x0).length fun (k : Nat) => [iv ((whTo l f x0).getD k 0)])] 20128) (by kernel_rfl) ⟨tv, tv⟩ ?_
   refine swp_cond (anyF l f x0 x2) (by kernel_rfl) (fun h23 => ?_) (fun h23 => ?_)
   ·refine sR (kt := [1, 2, 3, 8, 7]) (kh := [0, 20152]) (q := True /\ True /\ True /\ (whTo l f x0).length + 1 <= 65536 /\ True /\ True) (st' := ASt.mk [(1, aIntss l), (2, iv (f : Int)), (3, .ptr 0 []), (8, iv (x0 : Int)), (7, .vec 20152)] [(0, .cells 25 (cRun r)), (20152, .vec 3 1 ((whTo l f x0).length + 1) (catF (whTo l f x0).length (fun (k : Nat) => [iv ((whTo l f x0).getD k 0)]) fun (j : Nat) => List.getD [[iv (x0 : Int)]] j (TI.za ti3)))] 20168) (by kernel_rfl) ⟨tv, tv, tv, (o16 hp x0 hx0 h1 x2 hx2 h3 h23), tv, tv⟩ ?_
    refine sR (kt := [1, 2, 3, 8, 7]) (kh := [0, 20152]) (q := True /\ inI ((x0 : Int) + 1) /\ True /\ True) (st' := ASt.mk [(1, aIntss l), (2, iv (f : Int)), (3, .ptr 0 []), (8, iv ((x0 : Int) + 1)), (7, .vec 20152)] [(0, .cells 25 (cRun r)), (20152, .vec 3 1 ((whTo l f x0).length + 1) (catF (whTo l f x0).length (fun (k : Nat) => [iv ((whTo l f x0).getD k 0)]) fun (j : Nat) => List.getD [[iv (x0 : Int)]] j (TI.za ti3)))] 20192) (by kernel_rfl) ⟨tv, (o17 hp x0 hx0 h1 x2 hx2 h3 h23), tv, tv⟩ ?_
    exact loop_next (Hint.ann (h91a r l f) [(1, aIntss l), (2, iv (f : Int)), (3, AV.ptr 0 [])] [(0, OB.cells 25 (cRun r))] 10032) x0 (ent_q hE [] [(0, .same 0), (5000, .same 20152)] [1, 2] [0] (((aIntss l = aIntss l /\ true = true) /\ (iv (f : Int) = iv (f : Int) /\ true = true) /\ (some (Src.same 0) = some (Src.same 0) /\ nilP = []) /\ (iv ((x0 : Int) + 1) = iv (↑(x0 + 1) : Int) /\ nilN = []) /\ some (Src.same 20152) = some (Src.same 20152) /\ True) /\ ((OB.cells 25 (cRun r) = OB.cells 25 (cRun r) /\ true = true) /\ (3 = 3 /\ 1 = 1 /\ (whTo l f x0).length + 1 = (whTo l f (x0 + 1)).length /\ ∀ (i24 : Nat), i24 < (whTo l f x0).length + 1 -> catF (whTo l f x0).length (fun (k : Nat) => [iv ((whTo l f x0).getD k 0)]) (fun (j : Nat) => List.getD [[iv (x0 : Int)]] j (TI.za ti3)) i24 = [iv ((whTo l f (x0 + 1)).getD i24 0)]) /\ True) /\ T2) (by kernel_rfl) (by kernel_rfl) ⟨⟨⟨rfl, rfl⟩, ⟨rfl, rfl⟩, ⟨rfl, rfl⟩, ⟨(congrArg iv (o18 hp x0 hx0 h1 x2 hx2 h3 h23)), rfl⟩, rfl, tv⟩, ⟨⟨rfl, rfl⟩, ⟨rfl, rfl, (o19 hp x0 hx0 h1 x2 hx2 h3 h23), (fun i24 => (fun h25 => (o20 hp x0 hx0 h1 x2 hx2 h3 h23 i24 h25)))⟩, tv⟩, rfl, rfl⟩) (o21 hp x0 hx0 h1 x2 hx2 h3 h23) (o22 hp x0 hx0 h1 x2 hx2 h3 h23)
   ·refine swp_skip ?_
    refine sR (kt := [1, 2, 3, 8, 7]) (kh := [0, 5000]) (q := True /\ inI ((x0 : Int) + 1) /\ True /\ True) (st' := ASt.mk [(1, aIntss l), (2, iv (f : Int)), (3, .ptr 0 []), (8, iv ((x0 : Int) + 1)), (7, .vec 5000)] [(0, .cells 25 (cRun r)), (5000, .vec 3 1 (whTo l f x0).length fun (k : Nat) => [iv ((whTo l f x0).getD k 0)])] 20152) (by kernel_rfl) ⟨tv, (o23 hp x0 hx0 h1 x2 hx2 h3 h23), tv, tv⟩ ?_
    exact loop_next (Hint.ann (h91a r l f) [(1, aIntss l), (2, iv (f : Int)), (3, AV.ptr 0 [])] [(0, OB.cells 25 (cRun r))] 10032) x0 (ent_q hE [] [(0, .same 0), (5000, .same 5000)] [1, 2] [0] (((aIntss l = aIntss l /\ true = true) /\ (iv (f : Int) = iv (f : Int) /\ true = true) /\ (some (Src.same 0) = some (Src.same 0) /\ nilP = []) /\ (iv ((x0 : Int) + 1) = iv (↑(x0 + 1) : Int) /\ nilN = []) /\ some (Src.same 5000) = some (Src.same 5000) /\ True) /\ ((OB.cells 25 (cRun r) = OB.cells 25 (cRun r) /\ true = true) /\ (3 = 3 /\ 1 = 1 /\ (whTo l f x0).length = (whTo l f (x0 + 1)).length /\ ∀ (i26 : Nat), i26 < (whTo l f x0).length -> [iv ((whTo l f x0).getD i26 0)] = [iv ((whTo l f (x0 + 1)).getD i26 0)]) /\ True) /\ T2) (by kernel_rfl) (by kernel_rfl) ⟨⟨⟨rfl, rfl⟩, ⟨rfl, rfl⟩, ⟨rfl, rfl⟩, ⟨(congrArg iv (o24 hp x0 hx0 h1 x2 hx2 h3 h23)), rfl⟩, rfl, tv⟩, ⟨⟨rfl, rfl⟩, ⟨rfl, rfl, (o25 hp x0 hx0 h1 x2 hx2 h3 h23), (fun i26 => (fun h27 => (o26 hp x0 hx0 h1 x2 hx2 h3 h23 i26 h27)))⟩, tv⟩, rfl, rfl⟩) (o27 hp x0 hx0 h1 x2 hx2 h3 h23) (o28 hp x0 hx0 h1 x2 hx2 h3 h23)
 ·refine swp_exit (swp_seq ?_)
  refine sR (kt := [6]) (kh := [5000]) (q := True /\ True /\ True) (st' := ASt.mk [(6, .vec 5000)] [(5000, .vec 3 1 (whTo l f x0).length fun (k : Nat) => [iv ((whTo l f x0).getD k 0)])] 10088) (by kernel_rfl) ⟨tv, tv, tv⟩ ?_
  refine swp_ret ?_
  exact ret_q [5000] ((True /\ True) /\ (1 = 1 /\ (whTo l f x0).length = (whereOf r l f).length /\ ∀ (i28 : Nat), i28 < (whereOf r l f).length -> [iv ((whTo l f x0).getD i28 0)] = [iv ((whereOf r l f).getD i28 0)]) /\ T3) (by kernel_rfl) ⟨⟨tv, tv⟩, ⟨rfl, (o29 hp x0 hx0 h1), (fun i28 => (fun h29 => (o30 hp x0 hx0 h1 i28 h29)))⟩, rfl, rfl, rfl⟩
theorem t91 (r : Run) (l : List (List Int)) (f : Nat) : Triple Try.prog 91 (s91 r l f) := by
  apply w91
  all_goals (first
    | ((repeat intro _) <;> (try simp only [v0, v1, v2, v3, v4, v5, v6, v7, v8, v9, inI, fits, Go.Sh.small] at *) <;> first | (exact rfl) | omega | exact vz | (simp_all; done) | (simp_all; omega))
    | (intro hp m hm hml x hx hxl
       have := hp.2.2 x
       have h7 := whTo_len l f m
       simp only [decide_eq_true_eq, decide_eq_false_iff_not] at hml hxl
       first
       | omega
       | ((repeat intro _); have := hp.2.2 x (by omega); omega)
       | ((repeat intro _); simp only [inI]; omega)
       | (rw [anyF_succ (by omega)]; cases anyF l f m x <;> rfl)
       | (rw [show x = l.length by omega]
          intro e
          first
          | (rw [whTo_t e, List.length_append]; rfl)
          | (rw [whTo_f e]; done)
          | (intro i hi; rw [whTo_t e]; exact catF_one _ _ 0 (fun z => [iv z]) rfl (fun _ _ => rfl) rfl hi)
          | (intro i hi; rw [whTo_f e])))
    | (intro hp m hm hml; rw [show m = r.machines.length by simp only [decide_eq_false_iff_not] at hml; omega]; first | rfl | ((repeat intro _); rfl)))
abbrev q36_1 (r : Run) (f : Int) (C : Prop) : Prop := fits r -> (!decide (rfE r (isFound r f) = 0)) = false -> C
theorem w36 (r : Run) (f : Int)
 (o0 : fits r -> (!decide (rfE r (isFound r f) = 0)) -> (whereR r f).length = 0)
 (o1 : q36_1 r f (f = (↑(f.toNat) : Int)))
 (o2 : q36_1 r f (r.machines.length <= 3))
 (o3 : q36_1 r f ((rfL r (isFound r f)).length <= 65536))
 (o4 : q36_1 r f (∀ (i3 : Nat), i3 < (rfL r (isFound r f)).length -> f.toNat < ((rfL r (isFound r f)).getD i3 []).length))
 (o5 : q36_1 r f ((whereOf r (rfL r (isFound r f)) f.toNat).length = (whereR r f).length))
 (o6 : q36_1 r f (∀ (i6 : Nat), i6 < (whereR r f).length -> [iv ((whereOf r (rfL r (isFound r f)) f.toNat).getD i6 0)] = [iv ((whereR r f).getD i6 0)]))
 (o7 : q36_1 r f (0 = rfE r (isFound r f))) :
  Triple Try.prog 36 (s36 r f) := by
 refine triple_of Try.func36 rfl Try.call36 T0_ok _ rfl rfl rfl rfl (Nat.le_of_ble_eq_true (by kernel_rfl)) (fun _ _ _ _ h => h) ?_
 intro hp C hC _ hE
 obtain ⟨P, w0, E0, av, hA⟩ := C
 subst hC
 refine swp_seq ?_
 refine sR (kt := [1, 2]) (kh := [0]) (q := True /\ True /\ True /\ True) (st' := ASt.mk [(1, iv f), (2, .ptr 0 [])] [(0, .cells 25 (cRun r))] 24) (by kernel_rfl) ⟨tv, tv, tv, tv⟩ ?_
 refine swp_seq ?_
 refine swp_region T0_ok mixed (cs := [(3, CallSpec.eq (s45 r f) [true, true]), (4, CallSpec.eq (c36o r f) [true, true])]) (kt := [1, 2, 6, 7]) (kh := [0]) (q := True /\ True /\ True /\ ((AV.agg (cRun r) = AV.agg (cRun r) /\ iv f = iv f /\ True) /\ Triple Try.prog 45 (s45 r f) /\ fits r /\ True /\ ∀ (i0 : Env), True) /\ ((AV.agg (cRun r) = AV.agg (cRun r) /\ bv (isFound r f) = bv (isFound r f) /\ True) /\ Triple Try.prog 87 (c36o r f) /\ fits r /\ True /\ ∀ (i1 : Env), True) /\ True /\ True /\ True /\ True /\ True /\ True) (st' := ASt.mk [(1, iv f), (2, .ptr 0 []), (6, aIntss (rfL r (isFound r f))), (7, iv (rfE r (isFound r f)))] [(0, .cells 25 (cRun r))] 104) (by kernel_rfl) ⟨tv, tv, tv, ⟨⟨rfl, rfl, tv⟩, (t45 (r) (f)), hp, tv, (fun i0 => tv)⟩, ⟨⟨rfl, rfl, tv⟩, (t87 _ _), hp, tv, (fun i1 => tv)⟩, tv, tv, tv, tv, tv, tv⟩ ?_
 refine swp_seq (swp_seq ?_)
 refine sR (kt := [1, 2, 6, 7, 17]) (kh := [0]) (q := True /\ True /\ True) (st' := ASt.mk [(1, iv f), (2, .ptr 0 []), (6, aIntss (rfL r (isFound r f))), (7, iv (rfE r (isFound r f))), (17, bv !decide (rfE r (isFound r f) = 0))] [(0, .cells 25 (cRun r))] 120) (by kernel_rfl) ⟨tv, tv, tv⟩ ?_
 refine swp_cond (!decide (rfE r (isFound r f) = 0)) (by kernel_rfl) (fun h2 => ?_) (fun h2 => ?_)
 ·refine swp_seq ?_
  refine sR (kt := [4, 5]) (kh := []) (q := True /\ True /\ True /\ True) (st' := ASt.mk [(4, nilv), (5, iv (rfE r (isFound r f)))] [] 144) (by kernel_rfl) ⟨tv, tv, tv, tv⟩ ?_
  refine swp_ret ?_
  exact ret_q [] ((True /\ True /\ True) /\ ((whereR r f).length = 0 /\ (iv (rfE r (isFound r f)) = iv (rfE r (isFound r f)) /\ nilN = []) /\ True) /\ T3) (by kernel_rfl) ⟨⟨tv, tv, tv⟩, ⟨(o0 hp h2), ⟨rfl, rfl⟩, tv⟩, rfl, rfl, rfl⟩
 ·refine swp_skip (swp_seq ?_)
  refine swp_region T0_ok mixed (cs := [(3, CallSpec.eq (c36 r f) [true, true, false])]) (kt := [4, 5]) (kh := []) (q := True /\ True /\ True /\ ((AV.agg (cRun r) = AV.agg (cRun r) /\ aIntss (rfL r (isFound r f)) = aIntss (rfL r (isFound r f)) /\ iv f = iv (↑(f.toNat) : Int) /\ True) /\ Triple Try.prog 91 (c36 r f) /\ (r.machines.length <= 3 /\ (rfL r (isFound r f)).length <= 65536 /\ ∀ (i3 : Nat), i3 < (rfL r (isFound r f)).length -> f.toNat < ((rfL r (isFound r f)).getD i3 []).length) /\ True /\ ∀ (i5 : Env), True) /\ True /\ True /\ True) (st' := ASt.mk [(4, aInts (whereOf r (rfL r (isFound r f)) f.toNat)), (5, iv 0)] [] 168) (by kernel_rfl) ⟨tv, tv, tv, ⟨⟨rfl, rfl, (congrArg iv (o1 hp h2)), tv⟩, (t91 _ _ _), ⟨(o2 hp h2), (o3 hp h2), (fun i3 => (fun h4 => (o4 hp h2 i3 h4)))⟩, tv, (fun i5 => tv)⟩, tv, tv, tv⟩ ?_
  refine swp_ret ?_
  exact ret_q [] ((True /\ True /\ True) /\ ((1 = 1 /\ (whereOf r (rfL r (isFound r f)) f.toNat).length = (whereR r f).length /\ ∀ (i6 : Nat), i6 < (whereR r f).length -> [iv ((whereOf r (rfL r (isFound r f)) f.toNat).getD i6 0)] = [iv ((whereR r f).getD i6 0)]) /\ (iv 0 = iv (rfE r (isFound r f)) /\ nilN = []) /\ True) /\ T3) (by kernel_rfl) ⟨⟨tv, tv, tv⟩, ⟨⟨rfl, (o5 hp h2), (fun i6 => (fun h7 => (o6 hp h2 i6 h7)))⟩, ⟨(congrArg iv (o7 hp h2)), rfl⟩, tv⟩, rfl, rfl, rfl⟩
theorem t36 (r : Run) (f : Int) : Triple Try.prog 36 (s36 r f) := by
  apply w36
  all_goals (first
    | ((repeat intro _) <;> (try simp only [v0, v1, v2, v3, v4, v5, v6, v7, v8, v9, inI, fits, Go.Sh.small] at *) <;> first | (exact rfl) | omega | exact vz | (simp_all; done) | (simp_all; omega))
    | (intro _ h; rw [whereR, if_neg (knowBad h)] <;> rfl)
    | (intro _ h
       have F := knowF h
       have h1 : 0 <= f /\ f < r.found.length := by have := F.isT; simp only [isFound, Go.Sh.within_iff] at this; omega
       have h2 := F.len
       have h3 := F.ok.machines
       first
       | exact F.zero.symm
       | omega
       | (intro x hx; rw [F.frm x hx]; omega)
       | (rw [whereR, if_pos F.zero, F.eq]; done)
       | (intro x hx; rw [whereR, if_pos F.zero, F.eq])))
abbrev q39_1 (r : Run) (a : Int) (b : Int) (C : Prop) : Prop := fits r -> (!decide (rfE r (sameIs r a b) = 0)) = false -> C
abbrev q39_2 (r : Run) (a : Int) (b : Int) (C : Nat -> Prop) : Prop := q39_1 r a b (∀ (x11 : Nat), x11 <= (rfL r (sameIs r a b)).length -> decide ((x11 : Int) < (↑((rfL r (sameIs r a b)).length) : Int)) = true -> C x11)
abbrev q39_3 (r : Run) (a : Int) (b : Int) (C : Nat -> Prop) : Prop := q39_2 r a b fun x11 => decide (((rfL r (sameIs r a b)).getD x11 []).getD a.toNat 0 = ((rfL r (sameIs r a b)).getD x11 []).getD b.toNat 0) = true -> C x11
abbrev q39_4 (r : Run) (a : Int) (b : Int) (C : Nat -> Prop) : Prop := q39_2 r a b fun x11 => decide (((rfL r (sameIs r a b)).getD x11 []).getD a.toNat 0 = ((rfL r (sameIs r a b)).getD x11 []).getD b.toNat 0) = false -> C x11
abbrev q39_5 (r : Run) (a : Int) (b : Int) (C : Nat -> Prop) : Prop := q39_1 r a b (∀ (x11 : Nat), x11 <= (rfL r (sameIs r a b)).length -> decide ((x11 : Int) < (↑((rfL r (sameIs r a b)).length) : Int)) = false -> C x11)
theorem w39 (r : Run) (a : Int) (b : Int)
 (o0 : fits r -> (bif isFound r a then isFound r b else false) = sameIs r a b)
 (o1 : fits r -> (!decide (rfE r (sameIs r a b) = 0)) -> 0 = sameR r a b)
 (o2 : q39_1 r a b (0 = (↑(cntL (rfL r (sameIs r a b)) (smL a.toNat b.toNat) 0) : Int)))
 (o3 : q39_1 r a b (0 = (↑0 : Int)))
 (o4 : q39_1 r a b (0 <= (rfL r (sameIs r a b)).length))
 (o5 : q39_2 r a b fun x11 => 0 <= (x11 : Int))
 (o6 : q39_2 r a b fun x11 => (x11 : Int) < (↑((rfL r (sameIs r a b)).length) : Int))
 (o7 : q39_2 r a b fun x11 => 0 <= a)
 (o8 : q39_2 r a b fun x11 => a < (↑(((rfL r (sameIs r a b)).getD x11 []).length) : Int))
 (o9 : q39_2 r a b fun x11 => 0 <= (x11 : Int))
 (o10 : q39_2 r a b fun x11 => (x11 : Int) < (↑((rfL r (sameIs r a b)).length) : Int))
 (o11 : q39_2 r a b fun x11 => 0 <= b)
 (o12 : q39_2 r a b fun x11 => b < (↑(((rfL r (sameIs r a b)).getD x11 []).length) : Int))
 (o13 : q39_3 r a b fun x11 => inI ((↑(cntL (rfL r (sameIs r a b)) (smL a.toNat b.toNat) x11) : Int) + 1))
 (o14 : q39_3 r a b fun x11 => inI ((x11 : Int) + 1))
 (o15 : q39_3 r a b fun x11 => (↑(cntL (rfL r (sameIs r a b)) (smL a.toNat b.toNat) x11) : Int) + 1 = (↑(cntL (rfL r (sameIs r a b)) (smL a.toNat b.toNat) (x11 + 1)) : Int))
 (o16 : q39_3 r a b fun x11 => (x11 : Int) + 1 = (↑(x11 + 1) : Int))
 (o17 : q39_3 r a b fun x11 => x11 + 1 <= (rfL r (sameIs r a b)).length)
 (o18 : q39_3 r a b fun x11 => (rfL r (sameIs r a b)).length - (x11 + 1) < (rfL r (sameIs r a b)).length - x11)
 (o19 : q39_4 r a b fun x11 => inI ((x11 : Int) + 1))
 (o20 : q39_4 r a b fun x11 => (↑(cntL (rfL r (sameIs r a b)) (smL a.toNat b.toNat) x11) : Int) = (↑(cntL (rfL r (sameIs r a b)) (smL a.toNat b.toNat) (x11 + 1)) : Int))
 (o21 : q39_4 r a b fun x11 => (x11 : Int) + 1 = (↑(x11 + 1) : Int))
 (o22 : q39_4 r a b fun x11 => x11 + 1 <= (rfL r (sameIs r a b)).length)
 (o23 : q39_4 r a b fun x11 => (rfL r (sameIs r a b)).length - (x11 + 1) < (rfL r (sameIs r a b)).length - x11)
 (o24 : q39_5 r a b fun x11 => knownOf (↑(cntL (rfL r (sameIs r a b)) (smL a.toNat b.toNat) x11) : Int) (↑((rfL r (sameIs r a b)).length) : Int) = sameR r a b)
 (o25 : q39_5 r a b fun x11 => 0 = rfE r (sameIs r a b)) :
  Triple Try.prog 39 (s39 r a b) := by
 refine triple_of Try.func39 rfl Try.call39 T0_ok _ rfl rfl rfl rfl (Nat.le_of_ble_eq_true (by kernel_rfl)) (fun _ _ _ _ h => h) ?_
 intro hp C hC _ hE
 obtain ⟨P, w0, E0, av, hA⟩ := C
 subst hC
 refine swp_seq ?_
 refine sR (kt := [1, 2, 3]) (kh := [0]) (q := True /\ True /\ True /\ True) (st' := ASt.mk [(1, iv a), (2, iv b), (3, .ptr 0 [])] [(0, .cells 25 (cRun r))] 24) (by kernel_rfl) ⟨tv, tv, tv, tv⟩ ?_
 refine swp_seq ?_
 refine swp_region T0_ok mixed (cs := [(3, CallSpec.eq (s45 r a) [true, true]), (7, CallSpec.eq (s45 r b) [true, true]), (9, CallSpec.eq (c39o r a b) [true, false])]) (kt := [1, 2, 8, 9]) (kh := []) (q := True /\ True /\ True /\ ((AV.agg (cRun r) = AV.agg (cRun r) /\ iv a = iv a /\ True) /\ Triple Try.prog 45 (s45 r a) /\ fits r /\ True /\ ∀ (i0 : Env), True) /\ True /\ (isFound r a = true -> (True /\ True) /\ True) /\ (isFound r a = true -> (True /\ True) /\ True) /\ (isFound r a = true -> (True /\ (isFound r a = true -> isFound r a = true) /\ (isFound r a = true -> isFound r a = true) /\ True) /\ (AV.agg (cRun r) = AV.agg (cRun r) /\ iv b = iv b /\ True) /\ Triple Try.prog 45 (s45 r b) /\ fits r /\ True /\ ∀ (i6 : Env), True) /\ ((isFound r a = true -> isFound r a = true) /\ (isFound r a = false -> True)) /\ ((AV.agg (cRun r) = AV.agg (cRun r) /\ bv (bif isFound r a then isFound r b else false) = bv (sameIs r a b) /\ True) /\ Triple Try.prog 87 (c39o r a b) /\ fits r /\ True /\ ∀ (i9 : Env), True) /\ True /\ True /\ True /\ True /\ True /\ True) (st' := ASt.mk [(1, iv a), (2, iv b), (8, aIntss (rfL r (sameIs r a b))), (9, iv (rfE r (sameIs r a b)))] [] 144) (by kernel_rfl) ⟨tv, tv, tv, ⟨⟨rfl, rfl, tv⟩, (t45 (r) (a)), hp, tv, (fun i0 => tv)⟩, tv, (fun h1 => ⟨⟨tv, tv⟩, tv⟩), (fun h2 => ⟨⟨tv, tv⟩, tv⟩), (fun h3 => ⟨⟨tv, (fun h4 => h3), (fun h5 => h3), tv⟩, ⟨rfl, rfl, tv⟩, (t45 (r) (b)), hp, tv, (fun i6 => tv)⟩), ⟨(fun h7 => h7), (fun h8 => tv)⟩, ⟨⟨rfl, (congrArg bv (o0 hp)), tv⟩, (t87 _ _), hp, tv, (fun i9 => tv)⟩, tv, tv, tv, tv, tv, tv⟩ ?_
 refine swp_seq (swp_seq ?_)
 refine sR (kt := [1, 2, 8, 9, 26]) (kh := []) (q := True /\ True /\ True) (st' := ASt.mk [(1, iv a), (2, iv b), (8, aIntss (rfL r (sameIs r a b))), (9, iv (rfE r (sameIs r a b))), (26, bv !decide (rfE r (sameIs r a b) = 0))] [] 160) (by kernel_rfl) ⟨tv, tv, tv⟩ ?_
 refine swp_cond (!decide (rfE r (sameIs r a b) = 0)) (by kernel_rfl) (fun h10 => ?_) (fun h10 => ?_)
 ·refine swp_seq ?_
  refine sR (kt := [6, 7]) (kh := []) (q := True /\ True /\ True /\ True) (st' := ASt.mk [(6, iv 0), (7, iv (rfE r (sameIs r a b)))] [] 184) (by kernel_rfl) ⟨tv, tv, tv, tv⟩ ?_
  refine swp_ret ?_
  exact ret_q [] ((True /\ True /\ True) /\ ((iv 0 = iv (sameR r a b) /\ nilN = []) /\ (iv (rfE r (sameIs r a b)) = iv (rfE r (sameIs r a b)) /\ nilN = []) /\ True) /\ T3) (by kernel_rfl) ⟨⟨tv, tv, tv⟩, ⟨⟨(congrArg iv (o1 hp h10)), rfl⟩, ⟨rfl, rfl⟩, tv⟩, rfl, rfl, rfl⟩
 ·refine swp_skip (swp_seq ?_)
  refine sR (kt := [1, 2, 8, 10]) (kh := []) (q := True /\ True) (st' := ASt.mk [(1, iv a), (2, iv b), (8, aIntss (rfL r (sameIs r a b))), (10, iv 0)] [] 168) (by kernel_rfl) ⟨tv, tv⟩ ?_
  refine swp_seq (swp_seq ?_)
  refine sR (kt := [1, 2, 8, 10, 11]) (kh := []) (q := True /\ True) (st' := ASt.mk [(1, iv a), (2, iv b), (8, aIntss (rfL r (sameIs r a b))), (10, iv 0), (11, iv 0)] [] 176) (by kernel_rfl) ⟨tv, tv⟩ ?_
  refine swp_block ?_
  refine swp_loopA (Hint.ann (h39 r a b) [(1, iv a), (2, iv b), (8, aIntss (rfL r (sameIs r a b)))] [] 10176) (ent_q hE [] [] [1, 2, 8] [] (((iv a = iv a /\ true = true) /\ (iv b = iv b /\ true = true) /\ (aIntss (rfL r (sameIs r a b)) = aIntss (rfL r (sameIs r a b)) /\ true = true) /\ (iv 0 = iv (↑(cntL (rfL r (sameIs r a b)) (smL a.toNat b.toNat) 0) : Int) /\ nilN = []) /\ (iv 0 = iv (↑0 : Int) /\ nilN = []) /\ True) /\ True /\ T2) (by kernel_rfl) (by kernel_rfl) ⟨⟨⟨rfl, rfl⟩, ⟨rfl, rfl⟩, ⟨rfl, rfl⟩, ⟨(congrArg iv (o2 hp h10)), rfl⟩, ⟨(congrArg iv (o3 hp h10)), rfl⟩, tv⟩, tv, rfl, rfl⟩) (o4 hp h10) (fun (x11 : Nat) hx11 => ?_)
  refine swp_seq (swp_seq ?_)
  refine sR (kt := [1, 2, 8, 10, 11, 31]) (kh := []) (q := True /\ True /\ True /\ True /\ True) (st' := ASt.mk [(1, iv a), (2, iv b), (8, aIntss (rfL r (sameIs r a b))), (10, iv (↑(cntL (rfL r (sameIs r a b)) (smL a.toNat b.toNat) x11) : Int)), (11, iv (x11 : Int)), (31, bv (decide ((x11 : Int) < (↑((rfL r (sameIs r a b)).length) : Int))))] [] 10208) (by kernel_rfl) ⟨tv, tv, tv, tv, tv⟩ ?_
  refine swp_cond (decide ((x11 : Int) < (↑((rfL r (sameIs r a b)).length) : Int))) (by kernel_rfl) (fun h12 => ?_) (fun h12 => ?_)
  ·refine swp_skip (swp_seq (swp_block (swp_seq ?_)))
   refine sR (kt := [1, 2, 8, 10, 11, 48]) (kh := []) (q := True /\ True /\ (0 <= (x11 : Int) /\ (x11 : Int) < (↑((rfL r (sameIs r a b)).length) : Int)) /\ True /\ True /\ (0 <= a /\ a < (↑(((rfL r (sameIs r a b)).getD x11 []).length) : Int)) /\ True /\ True /\ True /\ (0 <= (x11 : Int) /\ (x11 : Int) < (↑((rfL r (sameIs r a b)).length) : Int)) /\ True /\ True /\ (0 <= b /\ b < (↑(((rfL r (sameIs r a b)).getD x11 []).length) : Int)) /\ True /\ True /\ True) (st' := ASt.mk [(1, iv a), (2, iv b), (8, aIntss (rfL r (sameIs r a b))), (10, iv (↑(cntL (rfL r (sameIs r a b)) (smL a.toNat b.toNat) x11) : Int)), (11, iv (x11 : Int)), (48, bv (decide (((rfL r (sameIs r a b)).getD x11 []).getD a.toNat 0 = ((rfL r (sameIs r a b)).getD x11 []).getD b.toNat 0)))] [] 10328) (by kernel_rfl) ⟨tv, tv, ⟨(o5 hp h10 x11 hx11 h12), (o6 hp h10 x11 hx11 h12)⟩, tv, tv, ⟨(o7 hp h10 x11 hx11 h12), (o8 hp h10 x11 hx11 h12)⟩, tv, tv, tv, ⟨(o9 hp h10 x11 hx11 h12), (o10 hp h10 x11 hx11 h12)⟩, tv, tv, ⟨(o11 hp h10 x11 hx11 h12), (o12 hp h10 x11 hx11 h12)⟩, tv, tv, tv⟩ ?_
   refine swp_cond (decide (((rfL r (sameIs r a b)).getD x11 []).getD a.toNat 0 = ((rfL r (sameIs r a b)).getD x11 []).getD b.toNat 0)) (by kernel_rfl) (fun h13 => ?_) (fun h13 => ?_)
   ·refine sR (kt := [1, 2, 8, 10, 11]) (kh := []) (q := True /\ inI ((↑(cntL (rfL r (sameIs r a b)) (smL a.toNat b.toNat) x11) : Int) + 1) /\ True /\ True) (st' := ASt.mk [(1, iv a), (2, iv b), (8, aIntss (rfL r (sameIs r a b))), (10, iv ((↑(cntL (rfL r (sameIs r a b)) (smL a.toNat b.toNat) x11) : Int) + 1)), (11, iv (x11 : Int))] [] 10352) (by kernel_rfl) ⟨tv, (o13 hp h10 x11 hx11 h12 h13), tv, tv⟩ ?_
    refine sR (kt := [1, 2, 8, 10, 11]) (kh := []) (q := True /\ inI ((x11 : Int) + 1) /\ True /\ True) (st' := ASt.mk [(1, iv a), (2, iv b), (8, aIntss (rfL r (sameIs r a b))), (10, iv ((↑(cntL (rfL r (sameIs r a b)) (smL a.toNat b.toNat) x11) : Int) + 1)), (11, iv ((x11 : Int) + 1))] [] 10376) (by kernel_rfl) ⟨tv, (o14 hp h10 x11 hx11 h12 h13), tv, tv⟩ ?_
    exact loop_next (Hint.ann (h39 r a b) [(1, iv a), (2, iv b), (8, aIntss (rfL r (sameIs r a b)))] [] 10176) x11 (ent_q hE [] [] [1, 2, 8] [] (((iv a = iv a /\ true = true) /\ (iv b = iv b /\ true = true) /\ (aIntss (rfL r (sameIs r a b)) = aIntss (rfL r (sameIs r a b)) /\ true = true) /\ (iv ((↑(cntL (rfL r (sameIs r a b)) (smL a.toNat b.toNat) x11) : Int) + 1) = iv (↑(cntL (rfL r (sameIs r a b)) (smL a.toNat b.toNat) (x11 + 1)) : Int) /\ nilN = []) /\ (iv ((x11 : Int) + 1) = iv (↑(x11 + 1) : Int) /\ nilN = []) /\ True) /\ True /\ T2) (by kernel_rfl) (by kernel_rfl) ⟨⟨⟨rfl, rfl⟩, ⟨rfl, rfl⟩, ⟨rfl, rfl⟩, ⟨(congrArg iv (o15 hp h10 x11 hx11 h12 h13)), rfl⟩, ⟨(congrArg iv (o16 hp h10 x11 hx11 h12 h13)), rfl⟩, tv⟩, tv, rfl, rfl⟩) (o17 hp h10 x11 hx11 h12 h13) (o18 hp h10 x11 hx11 h12 h13)
   ·refine swp_skip ?_
    refine sR (kt := [1, 2, 8, 10, 11]) (kh := []) (q := True /\ inI ((x11 : Int) + 1) /\ True /\ True) (st' := ASt.mk [(1, iv a), (2, iv b), (8, aIntss (rfL r (sameIs r a b))), (10, iv (↑(cntL (rfL r (sameIs r a b)) (smL a.toNat b.toNat) x11) : Int)), (11, iv ((x11 : Int) + 1))] [] 10352) (by kernel_rfl) ⟨tv, (o19 hp h10 x11 hx11 h12 h13), tv, tv⟩ ?_
    exact loop_next (Hint.ann (h39 r a b) [(1, iv a), (2, iv b), (8, aIntss (rfL r (sameIs r a b)))] [] 10176) x11 (ent_q hE [] [] [1, 2, 8] [] (((iv a = iv a /\ true = true) /\ (iv b = iv b /\ true = true) /\ (aIntss (rfL r (sameIs r a b)) = aIntss (rfL r (sameIs r a b)) /\ true = true) /\ (iv (↑(cntL (rfL r (sameIs r a b)) (smL a.toNat b.toNat) x11) : Int) = iv (↑(cntL (rfL r (sameIs r a b)) (smL a.toNat b.toNat) (x11 + 1)) : Int) /\ nilN = []) /\ (iv ((x11 : Int) + 1) = iv (↑(x11 + 1) : Int) /\ nilN = []) /\ True) /\ True /\ T2) (by kernel_rfl) (by kernel_rfl) ⟨⟨⟨rfl, rfl⟩, ⟨rfl, rfl⟩, ⟨rfl, rfl⟩, ⟨(congrArg iv (o20 hp h10 x11 hx11 h12 h13)), rfl⟩, ⟨(congrArg iv (o21 hp h10 x11 hx11 h12 h13)), rfl⟩, tv⟩, tv, rfl, rfl⟩) (o22 hp h10 x11 hx11 h12 h13) (o23 hp h10 x11 hx11 h12 h13)
  ·refine swp_exit (swp_seq ?_)
   refine swp_region T0_ok mixed (cs := [(3, CallSpec.eq (s92 (↑(cntL (rfL r (sameIs r a b)) (smL a.toNat b.toNat) x11) : Int) (↑((rfL r (sameIs r a b)).length) : Int)) [true, true])]) (kt := [6, 7]) (kh := []) (q := True /\ True /\ True /\ ((iv (↑(cntL (rfL r (sameIs r a b)) (smL a.toNat b.toNat) x11) : Int) = iv (↑(cntL (rfL r (sameIs r a b)) (smL a.toNat b.toNat) x11) : Int) /\ iv (↑((rfL r (sameIs r a b)).length) : Int) = iv (↑((rfL r (sameIs r a b)).length) : Int) /\ True) /\ Triple Try.prog 92 (s92 (↑(cntL (rfL r (sameIs r a b)) (smL a.toNat b.toNat) x11) : Int) (↑((rfL r (sameIs r a b)).length) : Int)) /\ True /\ True /\ ∀ (i14 : Env), True) /\ True /\ True /\ True) (st' := ASt.mk [(6, iv (knownOf (↑(cntL (rfL r (sameIs r a b)) (smL a.toNat b.toNat) x11) : Int) (↑((rfL r (sameIs r a b)).length) : Int))), (7, iv 0)] [] 10256) (by kernel_rfl) ⟨tv, tv, tv, ⟨⟨rfl, rfl, tv⟩, (t92 ((↑(cntL (rfL r (sameIs r a b)) (smL a.toNat b.toNat) x11) : Int)) ((↑((rfL r (sameIs r a b)).length) : Int))), tv, tv, (fun i14 => tv)⟩, tv, tv, tv⟩ ?_
   refine swp_ret ?_
   exact ret_q [] ((True /\ True /\ True) /\ ((iv (knownOf (↑(cntL (rfL r (sameIs r a b)) (smL a.toNat b.toNat) x11) : Int) (↑((rfL r (sameIs r a b)).length) : Int)) = iv (sameR r a b) /\ nilN = []) /\ (iv 0 = iv (rfE r (sameIs r a b)) /\ nilN = []) /\ True) /\ T3) (by kernel_rfl) ⟨⟨tv, tv, tv⟩, ⟨⟨(congrArg iv (o24 hp h10 x11 hx11 h12)), rfl⟩, ⟨(congrArg iv (o25 hp h10 x11 hx11 h12)), rfl⟩, tv⟩, rfl, rfl, rfl⟩
theorem t39 (r : Run) (a b : Int) : Triple Try.prog 39 (s39 r a b) := by
  apply w39
  all_goals (first
    | (intro _; unfold sameIs; cases isFound r a <;> rfl)
    | (intro _ h; rw [sameR, if_neg (knowBad h)]; done)
    | ((repeat intro _) <;> (try simp only [v0, v1, v2, v3, v4, v5, v6, v7, v8, v9, inI, fits, Go.Sh.small] at *) <;> first | (exact rfl) | omega | exact vz | (simp_all; done) | (simp_all; omega))
    | (intro _ h
       have F := knowF h
       have h1 := sameIs_ok F.isT
       have h2 := F.len
       first
       | exact F.zero.symm
       | (intro x hx hl
          simp only [decide_eq_true_eq, decide_eq_false_iff_not] at hl
          have h5 := cntL_le (rfL r (sameIs r a b)) (smL a.toNat b.toNat) x
          first
          | exact F.zero.symm
          | omega
          | (have h3 := F.frm x (by omega); omega)
          | ((repeat intro _); simp only [inI]; omega)
          | (intro e; exact cntL_t (by omega) e)
          | (intro e; exact cntL_f (by omega) e)
          | (rw [sameR, if_pos F.zero, ← F.eq, show x = (rfL r (sameIs r a b)).length by omega])))
    | skip)
abbrev q40_1 (r : Run) (C : Prop) : Prop := fits r -> (!decide (rfE r true = 0)) = false -> C
abbrev q40_2 (r : Run) (C : Nat -> Prop) : Prop := q40_1 r (∀ (x2 : Nat), x2 <= (rfL r true).length -> decide ((x2 : Int) < (↑((rfL r true).length) : Int)) = true -> C x2)
abbrev q40_3 (r : Run) (C : Nat -> Nat -> Prop) : Prop := q40_2 r fun x2 => ∀ (x4 : Nat), x4 <= r.machines.length -> decide ((x4 : Int) < (↑(r.machines.length) : Int)) = true -> C x2 x4
abbrev q40_4 (r : Run) (C : Nat -> Nat -> Prop) : Prop := q40_3 r fun x2 x4 => isIn ((rfL r true).getD x2 []) (x4 : Int) = true -> C x2 x4
abbrev q40_5 (r : Run) (C : Nat -> Nat -> Prop) : Prop := q40_3 r fun x2 x4 => isIn ((rfL r true).getD x2 []) (x4 : Int) = false -> C x2 x4
abbrev q40_6 (r : Run) (C : Nat -> Nat -> Prop) : Prop := q40_2 r fun x2 => ∀ (x4 : Nat), x4 <= r.machines.length -> decide ((x4 : Int) < (↑(r.machines.length) : Int)) = false -> C x2 x4
abbrev q40_7 (r : Run) (C : Nat -> Prop) : Prop := q40_1 r (∀ (x2 : Nat), x2 <= (rfL r true).length -> decide ((x2 : Int) < (↑((rfL r true).length) : Int)) = false -> C x2)
theorem w40 (r : Run)
 (o0 : fits r -> (!decide (rfE r true = 0)) -> 0 = fewR r)
 (o1 : q40_1 r (0 = (↑0 : Int)))
 (o2 : q40_1 r ((↑(r.machines.length) : Int) = fewTo r (rfL r true) 0))
 (o3 : q40_1 r (0 <= (rfL r true).length))
 (o4 : q40_2 r fun x2 => 0 = (↑0 : Int))
 (o5 : q40_2 r fun x2 => 0 = (↑(usedTo ((rfL r true).getD x2 []) 0) : Int))
 (o6 : q40_2 r fun x2 => 0 <= r.machines.length)
 (o7 : q40_3 r fun x2 x4 => 0 <= (x2 : Int))
 (o8 : q40_3 r fun x2 x4 => (x2 : Int) < (↑((rfL r true).length) : Int))
 (o9 : q40_3 r fun x2 x4 => ((rfL r true).getD x2 []).length <= 1125899906842624)
 (o10 : q40_4 r fun x2 x4 => inI ((↑(usedTo ((rfL r true).getD x2 []) x4) : Int) + 1))
 (o11 : q40_4 r fun x2 x4 => inI ((x4 : Int) + 1))
 (o12 : q40_4 r fun x2 x4 => (x4 : Int) + 1 = (↑(x4 + 1) : Int))
 (o13 : q40_4 r fun x2 x4 => (↑(usedTo ((rfL r true).getD x2 []) x4) : Int) + 1 = (↑(usedTo ((rfL r true).getD x2 []) (x4 + 1)) : Int))
 (o14 : q40_4 r fun x2 x4 => x4 + 1 <= r.machines.length)
 (o15 : q40_4 r fun x2 x4 => r.machines.length - (x4 + 1) < r.machines.length - x4)
 (o16 : q40_5 r fun x2 x4 => inI ((x4 : Int) + 1))
 (o17 : q40_5 r fun x2 x4 => (x4 : Int) + 1 = (↑(x4 + 1) : Int))
 (o18 : q40_5 r fun x2 x4 => (↑(usedTo ((rfL r true).getD x2 []) x4) : Int) = (↑(usedTo ((rfL r true).getD x2 []) (x4 + 1)) : Int))
 (o19 : q40_5 r fun x2 x4 => x4 + 1 <= r.machines.length)
 (o20 : q40_5 r fun x2 x4 => r.machines.length - (x4 + 1) < r.machines.length - x4)
 (o21 : q40_6 r fun x2 x4 => inI ((x2 : Int) + 1))
 (o22 : q40_6 r fun x2 x4 => (x2 : Int) + 1 = (↑(x2 + 1) : Int))
 (o23 : q40_6 r fun x2 x4 => min (fewTo r (rfL r true) x2) (↑(usedTo ((rfL r true).getD x2 []) x4) : Int) = fewTo r (rfL r true) (x2 + 1))
 (o24 : q40_6 r fun x2 x4 => x2 + 1 <= (rfL r true).length)
 (o25 : q40_6 r fun x2 x4 => (rfL r true).length - (x2 + 1) < (rfL r true).length - x2)
 (o26 : q40_7 r fun x2 => fewTo r (rfL r true) x2 = fewR r)
 (o27 : q40_7 r fun x2 => 0 = rfE r true) :
  Triple Try.prog 40 (s40 r) := by
 refine triple_of Try.func40 rfl Try.call40 T0_ok _ rfl rfl rfl rfl (Nat.le_of_ble_eq_true (by kernel_rfl)) (fun _ _ _ _ h => h) ?_
 intro hp C hC _ hE
 obtain ⟨P, w0, E0, av, hA⟩ := C
 subst hC
 refine swp_seq ?_
 refine sR (kt := [1]) (kh := [0]) (q := True /\ True /\ True /\ True) (st' := ASt.mk [(1, .ptr 0 [])] [(0, .cells 25 (cRun r))] 24) (by kernel_rfl) ⟨tv, tv, tv, tv⟩ ?_
 refine swp_seq ?_
 refine swp_region T0_ok mixed (cs := [(1, CallSpec.eq (s87 r true) [true, true])]) (kt := [1, 4, 5]) (kh := [0]) (q := True /\ ((AV.agg (cRun r) = AV.agg (cRun r) /\ bv true = bv true /\ True) /\ Triple Try.prog 87 (s87 r true) /\ fits r /\ True /\ ∀ (i0 : Env), True) /\ True /\ True /\ True /\ True /\ True /\ True) (st' := ASt.mk [(1, .ptr 0 []), (4, aIntss (rfL r true)), (5, iv (rfE r true))] [(0, .cells 25 (cRun r))] 80) (by kernel_rfl) ⟨tv, ⟨⟨rfl, rfl, tv⟩, (t87 (r) (true)), hp, tv, (fun i0 => tv)⟩, tv, tv, tv, tv, tv, tv⟩ ?_
 refine swp_seq (swp_seq ?_)
 refine sR (kt := [1, 4, 5, 16]) (kh := [0]) (q := True /\ True /\ True) (st' := ASt.mk [(1, .ptr 0 []), (4, aIntss (rfL r true)), (5, iv (rfE r true)), (16, bv !decide (rfE r true = 0))] [(0, .cells 25 (cRun r))] 96) (by kernel_rfl) ⟨tv, tv, tv⟩ ?_
 refine swp_cond (!decide (rfE r true = 0)) (by kernel_rfl) (fun h1 => ?_) (fun h1 => ?_)
 ·refine swp_seq ?_
  refine sR (kt := [2, 3]) (kh := []) (q := True /\ True /\ True /\ True) (st' := ASt.mk [(2, iv 0), (3, iv (rfE r true))] [] 120) (by kernel_rfl) ⟨tv, tv, tv, tv⟩ ?_
  refine swp_ret ?_
  exact ret_q [] ((True /\ True /\ True) /\ ((iv 0 = iv (fewR r) /\ nilN = []) /\ (iv (rfE r true) = iv (rfE r true) /\ nilN = []) /\ True) /\ T3) (by kernel_rfl) ⟨⟨tv, tv, tv⟩, ⟨⟨(congrArg iv (o0 hp h1)), rfl⟩, ⟨rfl, rfl⟩, tv⟩, rfl, rfl, rfl⟩
 ·refine swp_skip (swp_seq ?_)
  refine sR (kt := [1, 4, 6]) (kh := [0]) (q := True /\ True /\ True /\ True /\ True) (st' := ASt.mk [(1, .ptr 0 []), (4, aIntss (rfL r true)), (6, iv (↑(r.machines.length) : Int))] [(0, .cells 25 (cRun r))] 128) (by kernel_rfl) ⟨tv, tv, tv, tv, tv⟩ ?_
  refine swp_seq (swp_seq ?_)
  refine sR (kt := [1, 4, 6, 7]) (kh := [0]) (q := True /\ True) (st' := ASt.mk [(1, .ptr 0 []), (4, aIntss (rfL r true)), (6, iv (↑(r.machines.length) : Int)), (7, iv 0)] [(0, .cells 25 (cRun r))] 136) (by kernel_rfl) ⟨tv, tv⟩ ?_
  refine swp_block ?_
  refine swp_loopA (Hint.ann (h40a r) [(1, AV.ptr 0 []), (4, aIntss (rfL r true))] [(0, OB.cells 25 (cRun r))] 10136) (ent_q hE [] [(0, .same 0)] [4] [0] (((some (Src.same 0) = some (Src.same 0) /\ nilP = []) /\ (aIntss (rfL r true) = aIntss (rfL r true) /\ true = true) /\ (iv 0 = iv (↑0 : Int) /\ nilN = []) /\ (iv (↑(r.machines.length) : Int) = iv (fewTo r (rfL r true) 0) /\ nilN = []) /\ True) /\ ((OB.cells 25 (cRun r) = OB.cells 25 (cRun r) /\ true = true) /\ True) /\ T2) (by kernel_rfl) (by kernel_rfl) ⟨⟨⟨rfl, rfl⟩, ⟨rfl, rfl⟩, ⟨(congrArg iv (o1 hp h1)), rfl⟩, ⟨(congrArg iv (o2 hp h1)), rfl⟩, tv⟩, ⟨⟨rfl, rfl⟩, tv⟩, rfl, rfl⟩) (o3 hp h1) (fun (x2 : Nat) hx2 => ?_)
  refine swp_seq (swp_seq ?_)
  refine sR (kt := [1, 4, 7, 6, 24]) (kh := [0]) (q := True /\ True /\ True /\ True /\ True) (st' := ASt.mk [(1, .ptr 0 []), (4, aIntss (rfL r true)), (7, iv (x2 : Int)), (6, iv (fewTo r (rfL r true) x2)), (24, bv (decide ((x2 : Int) < (↑((rfL r true).length) : Int))))] [(0, .cells 25 (cRun r))] 10168) (by kernel_rfl) ⟨tv, tv, tv, tv, tv⟩ ?_
  refine swp_cond (decide ((x2 : Int) < (↑((rfL r true).length) : Int))) (by kernel_rfl) (fun h3 => ?_) (fun h3 => ?_)
  ·refine swp_skip (swp_seq (swp_block (swp_seq ?_)))
   refine sR (kt := [1, 4, 7, 6, 8]) (kh := [0]) (q := True /\ True) (st' := ASt.mk [(1, .ptr 0 []), (4, aIntss (rfL r true)), (7, iv (x2 : Int)), (6, iv (fewTo r (rfL r true) x2)), (8, iv 0)] [(0, .cells 25 (cRun r))] 10176) (by kernel_rfl) ⟨tv, tv⟩ ?_
   refine swp_seq (swp_seq ?_)
   refine sR (kt := [1, 4, 7, 6, 8, 9]) (kh := [0]) (q := True /\ True) (st' := ASt.mk [(1, .ptr 0 []), (4, aIntss (rfL r true)), (7, iv (x2 : Int)), (6, iv (fewTo r (rfL r true) x2)), (8, iv 0), (9, iv 0)] [(0, .cells 25 (cRun r))] 10184) (by kernel_rfl) ⟨tv, tv⟩ ?_
   refine swp_block ?_
   refine swp_loopA (Hint.ann (h40b r x2) [(1, AV.ptr 0 []), (4, aIntss (rfL r true)), (7, iv (x2 : Int)), (6, iv (fewTo r (rfL r true) x2))] [(0, OB.cells 25 (cRun r))] 20184) (ent_q hE [] [(0, .same 0)] [4, 7, 6] [0] (((some (Src.same 0) = some (Src.same 0) /\ nilP = []) /\ (aIntss (rfL r true) = aIntss (rfL r true) /\ true = true) /\ (iv (x2 : Int) = iv (x2 : Int) /\ true = true) /\ (iv (fewTo r (rfL r true) x2) = iv (fewTo r (rfL r true) x2) /\ true = true) /\ (iv 0 = iv (↑0 : Int) /\ nilN = []) /\ (iv 0 = iv (↑(usedTo ((rfL r true).getD x2 []) 0) : Int) /\ nilN = []) /\ True) /\ ((OB.cells 25 (cRun r) = OB.cells 25 (cRun r) /\ true = true) /\ True) /\ T2) (by kernel_rfl) (by kernel_rfl) ⟨⟨⟨rfl, rfl⟩, ⟨rfl, rfl⟩, ⟨rfl, rfl⟩, ⟨rfl, rfl⟩, ⟨(congrArg iv (o4 hp h1 x2 hx2 h3)), rfl⟩, ⟨(congrArg iv (o5 hp h1 x2 hx2 h3)), rfl⟩, tv⟩, ⟨⟨rfl, rfl⟩, tv⟩, rfl, rfl⟩) (o6 hp h1 x2 hx2 h3) (fun (x4 : Nat) hx4 => ?_)
   refine swp_seq (swp_seq ?_)
   refine sR (kt := [1, 4, 7, 6, 9, 8, 31]) (kh := [0]) (q := True /\ True /\ True /\ True /\ True /\ True) (st' := ASt.mk [(1, .ptr 0 []), (4, aIntss (rfL r true)), (7, iv (x2 : Int)), (6, iv (fewTo r (rfL r true) x2)), (9, iv (x4 : Int)), (8, iv (↑(usedTo ((rfL r true).getD x2 []) x4) : Int)), (31, bv (decide ((x4 : Int) < (↑(r.machines.length) : Int))))] [(0, .cells 25 (cRun r))] 20224) (by kernel_rfl) ⟨tv, tv, tv, tv, tv, tv⟩ ?_
   refine swp_cond (decide ((x4 : Int) < (↑(r.machines.length) : Int))) (by kernel_rfl) (fun h5 => ?_) (fun h5 => ?_)
   ·refine swp_skip (swp_seq (swp_block (swp_seq ?_)))
    refine swp_region T0_ok mixed (cs := [(5, CallSpec.eq (s51 ((rfL r true).getD x2 []) (x4 : Int)) [true, true])]) (kt := [1, 4, 7, 6, 9, 8, 39]) (kh := [0]) (q := True /\ True /\ (0 <= (x2 : Int) /\ (x2 : Int) < (↑((rfL r true).length) : Int)) /\ True /\ True /\ ((aInts ((rfL r true).getD x2 []) = aInts ((rfL r true).getD x2 []) /\ iv (x4 : Int) = iv (x4 : Int) /\ True) /\ Triple Try.prog 51 (s51 ((rfL r true).getD x2 []) (x4 : Int)) /\ ((rfL r true).getD x2 []).length <= 1125899906842624 /\ True /\ ∀ (i6 : Env), True) /\ True) (st' := ASt.mk [(1, .ptr 0 []), (4, aIntss (rfL r true)), (7, iv (x2 : Int)), (6, iv (fewTo r (rfL r true) x2)), (9, iv (x4 : Int)), (8, iv (↑(usedTo ((rfL r true).getD x2 []) x4) : Int)), (39, bv (isIn ((rfL r true).getD x2 []) (x4 : Int)))] [(0, .cells 25 (cRun r))] 20272) (by kernel_rfl) ⟨tv, tv, ⟨(o7 hp h1 x2 hx2 h3 x4 hx4 h5), (o8 hp h1 x2 hx2 h3 x4 hx4 h5)⟩, tv, tv, ⟨⟨rfl, rfl, tv⟩, (t51 ((rfL r true).getD x2 []) ((x4 : Int))), (o9 hp h1 x2 hx2 h3 x4 hx4 h5), tv, (fun i6 => tv)⟩, tv⟩ ?_
    refine swp_cond (isIn ((rfL r true).getD x2 []) (x4 : Int)) (by kernel_rfl) (fun h7 => ?_) (fun h7 => ?_)
    ·refine sR (kt := [1, 4, 7, 6, 9, 8]) (kh := [0]) (q := True /\ inI ((↑(usedTo ((rfL r true).getD x2 []) x4) : Int) + 1) /\ True /\ True) (st' := ASt.mk [(1, .ptr 0 []), (4, aIntss (rfL r true)), (7, iv (x2 : Int)), (6, iv (fewTo r (rfL r true) x2)), (9, iv (x4 : Int)), (8, iv ((↑(usedTo ((rfL r true).getD x2 []) x4) : Int) + 1))] [(0, .cells 25 (cRun r))] 20296) (by kernel_rfl) ⟨tv, (o10 hp h1 x2 hx2 h3 x4 hx4 h5 h7), tv, tv⟩ ?_
     refine sR (kt := [1, 4, 7, 6, 9, 8]) (kh := [0]) (q := True /\ inI ((x4 : Int) + 1) /\ True /\ True) (st' := ASt.mk [(1, .ptr 0 []), (4, aIntss (rfL r true)), (7, iv (x2 : Int)), (6, iv (fewTo r (rfL r true) x2)), (9, iv ((x4 : Int) + 1)), (8, iv ((↑(usedTo ((rfL r true).getD x2 []) x4) : Int) + 1))] [(0, .cells 25 (cRun r))] 20320) (by kernel_rfl) ⟨tv, (o11 hp h1 x2 hx2 h3 x4 hx4 h5 h7), tv, tv⟩ ?_
     exact loop_next (Hint.ann (h40b r x2) [(1, AV.ptr 0 []), (4, aIntss (rfL r true)), (7, iv (x2 : Int)), (6, iv (fewTo r (rfL r true) x2))] [(0, OB.cells 25 (cRun r))] 20184) x4 (ent_q hE [] [(0, .same 0)] [4, 7, 6] [0] (((some (Src.same 0) = some (Src.same 0) /\ nilP = []) /\ (aIntss (rfL r true) = aIntss (rfL r true) /\ true = true) /\ (iv (x2 : Int) = iv (x2 : Int) /\ true = true) /\ (iv (fewTo r (rfL r true) x2) = iv (fewTo r (rfL r true) x2) /\ true = true) /\ (iv ((x4 : Int) + 1) = iv (↑(x4 + 1) : Int) /\ nilN = []) /\ (iv ((↑(usedTo ((rfL r true).getD x2 []) x4) : Int) + 1) = iv (↑(usedTo ((rfL r true).getD x2 []) (x4 + 1)) : Int) /\ nilN = []) /\ True) /\ ((OB.cells 25 (cRun r) = OB.cells 25 (cRun r) /\ true = true) /\ True) /\ T2) (by kernel_rfl) (by kernel_rfl) ⟨⟨⟨rfl, rfl⟩, ⟨rfl, rfl⟩, ⟨rfl, rfl⟩, ⟨rfl, rfl⟩, ⟨(congrArg iv (o12 hp h1 x2 hx2 h3 x4 hx4 h5 h7)), rfl⟩, ⟨(congrArg iv (o13 hp h1 x2 hx2 h3 x4 hx4 h5 h7)), rfl⟩, tv⟩, ⟨⟨rfl, rfl⟩, tv⟩, rfl, rfl⟩) (o14 hp h1 x2 hx2 h3 x4 hx4 h5 h7) (o15 hp h1 x2 hx2 h3 x4 hx4 h5 h7)
    ·refine swp_skip ?_
     refine sR (kt := [1, 4, 7, 6, 9, 8]) (kh := [0]) (q := True /\ inI ((x4 : Int) + 1) /\ True /\ True) (st' := ASt.mk [(1, .ptr 0 []), (4, aIntss (rfL r true)), (7, iv (x2 : Int)), (6, iv (fewTo r (rfL r true) x2)), (9, iv ((x4 : Int) + 1)), (8, iv (↑(usedTo ((rfL r true).getD x2 []) x4) : Int))] [(0, .cells 25 (cRun r))] 20296) (by kernel_rfl) ⟨tv, (o16 hp h1 x2 hx2 h3 x4 hx4 h5 h7), tv, tv⟩ ?_
     exact loop_next (Hint.ann (h40b r x2) [(1, AV.ptr 0 []), (4, aIntss (rfL r true)), (7, iv (x2 : Int)), (6, iv (fewTo r (rfL r true) x2))] [(0, OB.cells 25 (cRun r))] 20184) x4 (ent_q hE [] [(0, .same 0)] [4, 7, 6] [0] (((some (Src.same 0) = some (Src.same 0) /\ nilP = []) /\ (aIntss (rfL r true) = aIntss (rfL r true) /\ true = true) /\ (iv (x2 : Int) = iv (x2 : Int) /\ true = true) /\ (iv (fewTo r (rfL r true) x2) = iv (fewTo r (rfL r true) x2) /\ true = true) /\ (iv ((x4 : Int) + 1) = iv (↑(x4 + 1) : Int) /\ nilN = []) /\ (iv (↑(usedTo ((rfL r true).getD x2 []) x4) : Int) = iv (↑(usedTo ((rfL r true).getD x2 []) (x4 + 1)) : Int) /\ nilN = []) /\ True) /\ ((OB.cells 25 (cRun r) = OB.cells 25 (cRun r) /\ true = true) /\ True) /\ T2) (by kernel_rfl) (by kernel_rfl) ⟨⟨⟨rfl, rfl⟩, ⟨rfl, rfl⟩, ⟨rfl, rfl⟩, ⟨rfl, rfl⟩, ⟨(congrArg iv (o17 hp h1 x2 hx2 h3 x4 hx4 h5 h7)), rfl⟩, ⟨(congrArg iv (o18 hp h1 x2 hx2 h3 x4 hx4 h5 h7)), rfl⟩, tv⟩, ⟨⟨rfl, rfl⟩, tv⟩, rfl, rfl⟩) (o19 hp h1 x2 hx2 h3 x4 hx4 h5 h7) (o20 hp h1 x2 hx2 h3 x4 hx4 h5 h7)
   ·refine swp_exit ?_
    refine sR (kt := [1, 4, 7, 6]) (kh := [0]) (q := True /\ True /\ True /\ True /\ True) (st' := ASt.mk [(1, .ptr 0 []), (4, aIntss (rfL r true)), (7, iv (x2 : Int)), (6, iv (min (fewTo r (rfL r true) x2) (↑(usedTo ((rfL r true).getD x2 []) x4) : Int)))] [(0, .cells 25 (cRun r))] 20256) (by kernel_rfl) ⟨tv, tv, tv, tv, tv⟩ ?_
    refine sR (kt := [1, 4, 7, 6]) (kh := [0]) (q := True /\ inI ((x2 : Int) + 1) /\ True /\ True) (st' := ASt.mk [(1, .ptr 0 []), (4, aIntss (rfL r true)), (7, iv ((x2 : Int) + 1)), (6, iv (min (fewTo r (rfL r true) x2) (↑(usedTo ((rfL r true).getD x2 []) x4) : Int)))] [(0, .cells 25 (cRun r))] 20280) (by kernel_rfl) ⟨tv, (o21 hp h1 x2 hx2 h3 x4 hx4 h5), tv, tv⟩ ?_
    exact loop_next (Hint.ann (h40a r) [(1, AV.ptr 0 []), (4, aIntss (rfL r true))] [(0, OB.cells 25 (cRun r))] 10136) x2 (ent_q hE [] [(0, .same 0)] [4] [0] (((some (Src.same 0) = some (Src.same 0) /\ nilP = []) /\ (aIntss (rfL r true) = aIntss (rfL r true) /\ true = true) /\ (iv ((x2 : Int) + 1) = iv (↑(x2 + 1) : Int) /\ nilN = []) /\ (iv (min (fewTo r (rfL r true) x2) (↑(usedTo ((rfL r true).getD x2 []) x4) : Int)) = iv (fewTo r (rfL r true) (x2 + 1)) /\ nilN = []) /\ True) /\ ((OB.cells 25 (cRun r) = OB.cells 25 (cRun r) /\ true = true) /\ True) /\ T2) (by kernel_rfl) (by kernel_rfl) ⟨⟨⟨rfl, rfl⟩, ⟨rfl, rfl⟩, ⟨(congrArg iv (o22 hp h1 x2 hx2 h3 x4 hx4 h5)), rfl⟩, ⟨(congrArg iv (o23 hp h1 x2 hx2 h3 x4 hx4 h5)), rfl⟩, tv⟩, ⟨⟨rfl, rfl⟩, tv⟩, rfl, rfl⟩) (o24 hp h1 x2 hx2 h3 x4 hx4 h5) (o25 hp h1 x2 hx2 h3 x4 hx4 h5)
  ·refine swp_exit (swp_seq ?_)
   refine sR (kt := [2, 3]) (kh := []) (q := True /\ True /\ True /\ True) (st' := ASt.mk [(2, iv (fewTo r (rfL r true) x2)), (3, iv 0)] [] 10192) (by kernel_rfl) ⟨tv, tv, tv, tv⟩ ?_
   refine swp_ret ?_
   exact ret_q [] ((True /\ True /\ True) /\ ((iv (fewTo r (rfL r true) x2) = iv (fewR r) /\ nilN = []) /\ (iv 0 = iv (rfE r true) /\ nilN = []) /\ True) /\ T3) (by kernel_rfl) ⟨⟨tv, tv, tv⟩, ⟨⟨(congrArg iv (o26 hp h1 x2 hx2 h3)), rfl⟩, ⟨(congrArg iv (o27 hp h1 x2 hx2 h3)), rfl⟩, tv⟩, rfl, rfl, rfl⟩
theorem t40 (r : Run) : Triple Try.prog 40 (s40 r) := by
  apply w40
  all_goals (first
    | (intro _ h; rw [fewR, if_neg (knowBad h)]; done)
    | ((repeat intro _) <;> (try simp only [v0, v1, v2, v3, v4, v5, v6, v7, v8, v9, inI, fits, Go.Sh.small] at *) <;> first | (exact rfl) | omega | exact vz | (simp_all; done) | (simp_all; omega))
    | (intro _ h
       have F := knowF h
       have h2 := F.len
       have h3 := F.ok.machines
       first
       | exact F.zero.symm
       | (intro x hx hl
          simp only [decide_eq_true_eq, decide_eq_false_iff_not] at hl
          first
          | exact F.zero.symm
          | omega
          | (simp only [inI]; omega)
          | (rw [fewR, if_pos F.zero, ← F.eq, show x = (rfL r true).length by omega]; done)
          | (intro m hm hml
             simp only [decide_eq_true_eq, decide_eq_false_iff_not] at hml
             have h4 := F.frm x (by omega)
             have h5 := usedTo_le ((rfL r true).getD x []) m
             have h6 := F.ok.found
             first
             | omega
             | ((repeat intro _); simp only [inI]; omega)
             | (intro e; exact usedTo_t e)
             | (intro e; exact usedTo_f e)
             | (rw [fewTo_succ, show m = r.machines.length by omega]; done))))
    | skip)
end Go.Ab
namespace Go.Sh
def eqv (v x : Int) : Bool := decide (v = x)
def logTo (l : List Int) (j : Nat) : List (Int × Int) := (List.range j).foldl (fun es i => es ++ [(l.getD i 0, Go.Ab.mlook es (l.getD i 0) + 1)]) []
theorem logTo_succ (l : List Int) (j : Nat) : logTo l (j + 1) = logTo l j ++ [(l.getD j 0, Go.Ab.mlook (logTo l j) (l.getD j 0) + 1)] := Go.Ab.foldl_range_succ _ _ _
theorem logTo_len (l : List Int) : ∀ j, (logTo l j).length = j := by
 intro j
 induction j with
 | zero => rfl
 | succ j ih => rw [logTo_succ, List.length_append, ih]; rfl
theorem logTo_look (l : List Int) (k : Int) : ∀ j, 0 <= Go.Ab.mlook (logTo l j) k /\ Go.Ab.mlook (logTo l j) k <= j := by
 intro j
 induction j with
 | zero => exact ⟨Int.le_refl 0, Int.le_refl 0⟩
 | succ j ih =>
  rw [logTo_succ, Go.Ab.mlook_snoc]
  split
  ·rename_i e
   simp only at e ⊢
   rw [e]; omega
  ·omega
def usedW (l : List Int) : Nat := (Go.Ab.mkeys (logTo l l.length)).length
def fewPTo (r : Run) (l : List WayS) (n : Nat) : Int := (List.range n).foldl (fun o i => min o (usedW (l.getD i default).frm : Int)) r.machines.length
theorem fewPTo_succ (r : Run) (l : List WayS) (n : Nat) : fewPTo r l (n + 1) = min (fewPTo r l n) (usedW (l.getD n default).frm : Int) := Go.Ab.foldl_range_succ _ _ _
def fewP (r : Run) : Int := if openE r true = 0 then fewPTo r (waysOf r) (waysOf r).length else 0
end Go.Sh
namespace Go.Ab
open Go Go.RowKit Go.Proofs Go.Sh Go.En
def s22 (r : Run) : CallSpec := { args := [vRun r], res := .tup [iv (fewP r), iv (openE r true)], pre := fits r }
def h22a (r : Run) : Hint := { X := Nat, M := fun i => [(25, iv i), (6, iv (fewPTo r (openL r true) i))], I := fun i => i <= (openL r true).length, mu := fun i => (openL r true).length - i, x0 := (0 : Nat), nx := fun i => i + 1 }
def h22b (r : Run) (i : Nat) : Hint := { X := Nat, M := fun j => [(33, iv j), (9, .vec 5000)], H := fun j => [(5000, .mp 108 (logTo ((openL r true).getD i default).frm j))], I := fun j => j <= ((openL r true).getD i default).frm.length, mu := fun j => ((openL r true).getD i default).frm.length - j, x0 := (0 : Nat), nx := fun j => j + 1 }
end Go.Ab
namespace Go.Ab
open Go Go.RowKit Go.Proofs Go.Sh Go.En
abbrev q22_1 (r : Run) (C : Prop) : Prop := fits r -> (!decide (openE r true = 0)) = false -> C
abbrev q22_2 (r : Run) (C : Nat -> Prop) : Prop := q22_1 r (∀ (x2 : Nat), x2 <= (openL r true).length -> decide ((x2 : Int) < (↑((openL r true).length) : Int)) = true -> C x2)
abbrev q22_3 (r : Run) (C : Nat -> Nat -> Prop) : Prop := q22_2 r fun x2 => ∀ (x4 : Nat), x4 <= ((openL r true).getD x2 default).frm.length -> decide ((x4 : Int) < (↑(((openL r true).getD x2 default).frm.length) : Int)) = true -> C x2 x4
abbrev q22_4 (r : Run) (C : Nat -> Nat -> Prop) : Prop := q22_2 r fun x2 => ∀ (x4 : Nat), x4 <= ((openL r true).getD x2 default).frm.length -> decide ((x4 : Int) < (↑(((openL r true).getD x2 default).frm.length) : Int)) = false -> C x2 x4
abbrev q22_5 (r : Run) (C : Nat -> Prop) : Prop := q22_1 r (∀ (x2 : Nat), x2 <= (openL r true).length -> decide ((x2 : Int) < (↑((openL r true).length) : Int)) = false -> C x2)
theorem w22 (r : Run)
 (o0 : fits r -> (!decide (openE r true = 0)) -> 0 = fewP r)
 (o1 : q22_1 r (0 = (↑0 : Int)))
 (o2 : q22_1 r ((↑(r.machines.length) : Int) = fewPTo r (openL r true) 0))
 (o3 : q22_1 r (0 <= (openL r true).length))
 (o4 : q22_2 r fun x2 => 0 <= (x2 : Int))
 (o5 : q22_2 r fun x2 => (x2 : Int) < (↑((openL r true).length) : Int))
 (o6 : q22_2 r fun x2 => 0 = (↑0 : Int))
 (o7 : q22_2 r fun x2 => [] = logTo ((openL r true).getD x2 default).frm 0)
 (o8 : q22_2 r fun x2 => 0 <= ((openL r true).getD x2 default).frm.length)
 (o9 : q22_3 r fun x2 x4 => 0 <= (x4 : Int))
 (o10 : q22_3 r fun x2 x4 => (x4 : Int) < (↑(((openL r true).getD x2 default).frm.length) : Int))
 (o11 : q22_3 r fun x2 x4 => inI (((openL r true).getD x2 default).frm.getD x4 0))
 (o12 : q22_3 r fun x2 x4 => inI (mlook (logTo ((openL r true).getD x2 default).frm x4) (((openL r true).getD x2 default).frm.getD x4 0) + 1))
 (o13 : q22_3 r fun x2 x4 => inI (((openL r true).getD x2 default).frm.getD x4 0))
 (o14 : q22_3 r fun x2 x4 => inI (mlook (logTo ((openL r true).getD x2 default).frm x4) (((openL r true).getD x2 default).frm.getD x4 0) + 1))
 (o15 : q22_3 r fun x2 x4 => (logTo ((openL r true).getD x2 default).frm x4).length < 65536)
 (o16 : q22_3 r fun x2 x4 => inI ((x4 : Int) + 1))
 (o17 : q22_3 r fun x2 x4 => (x4 : Int) + 1 = (↑(x4 + 1) : Int))
 (o18 : q22_3 r fun x2 x4 => logTo ((openL r true).getD x2 default).frm x4 ++ [(((openL r true).getD x2 default).frm.getD x4 0, mlook (logTo ((openL r true).getD x2 default).frm x4) (((openL r true).getD x2 default).frm.getD x4 0) + 1)] = logTo ((openL r true).getD x2 default).frm (x4 + 1))
 (o19 : q22_3 r fun x2 x4 => x4 + 1 <= ((openL r true).getD x2 default).frm.length)
 (o20 : q22_3 r fun x2 x4 => ((openL r true).getD x2 default).frm.length - (x4 + 1) < ((openL r true).getD x2 default).frm.length - x4)
 (o21 : q22_4 r fun x2 x4 => inI ((x2 : Int) + 1))
 (o22 : q22_4 r fun x2 x4 => (x2 : Int) + 1 = (↑(x2 + 1) : Int))
 (o23 : q22_4 r fun x2 x4 => min (fewPTo r (openL r true) x2) (↑((mkeys (logTo ((openL r true).getD x2 default).frm x4)).length) : Int) = fewPTo r (openL r true) (x2 + 1))
 (o24 : q22_4 r fun x2 x4 => x2 + 1 <= (openL r true).length)
 (o25 : q22_4 r fun x2 x4 => (openL r true).length - (x2 + 1) < (openL r true).length - x2)
 (o26 : q22_5 r fun x2 => fewPTo r (openL r true) x2 = fewP r)
 (o27 : q22_5 r fun x2 => 0 = openE r true) :
  Triple Try.prog 22 (s22 r) := by
 refine triple_of Try.func22 rfl Try.call22 T0_ok _ rfl rfl rfl rfl (Nat.le_of_ble_eq_true (by kernel_rfl)) (fun _ _ _ _ h => h) ?_
 intro hp C hC _ hE
 obtain ⟨P, w0, E0, av, hA⟩ := C
 subst hC
 refine swp_seq ?_
 refine sR (kt := [1]) (kh := [0]) (q := True /\ True /\ True /\ True) (st' := ASt.mk [(1, .ptr 0 [])] [(0, .cells 25 (cRun r))] 24) (by kernel_rfl) ⟨tv, tv, tv, tv⟩ ?_
 refine swp_seq ?_
 refine swp_region T0_ok mixed (cs := [(1, CallSpec.eq (s78 r true) [true, true])]) (kt := [1, 4, 5]) (kh := [0]) (q := True /\ ((AV.agg (cRun r) = AV.agg (cRun r) /\ bv true = bv true /\ True) /\ Triple Try.prog 78 (s78 r true) /\ fits r /\ True /\ ∀ (i0 : Env), True) /\ True /\ True /\ True /\ True /\ True /\ True) (st' := ASt.mk [(1, .ptr 0 []), (4, aWays (openL r true)), (5, iv (openE r true))] [(0, .cells 25 (cRun r))] 80) (by kernel_rfl) ⟨tv, ⟨⟨rfl, rfl, tv⟩, (t78 (r) (true)), hp, tv, (fun i0 => tv)⟩, tv, tv, tv, tv, tv, tv⟩ ?_
 refine swp_seq (swp_seq ?_)
 refine sR (kt := [1, 4, 5, 18]) (kh := [0]) (q := True /\ True /\ True) (st' := ASt.mk [(1, .ptr 0 []), (4, aWays (openL r true)), (5, iv (openE r true)), (18, bv !decide (openE r true = 0))] [(0, .cells 25 (cRun r))] 96) (by kernel_rfl) ⟨tv, tv, tv⟩ ?_
 refine swp_cond (!decide (openE r true = 0)) (by kernel_rfl) (fun h1 => ?_) (fun h1 => ?_)
 ·refine swp_seq ?_
  refine sR (kt := [2, 3]) (kh := []) (q := True /\ True /\ True /\ True) (st' := ASt.mk [(2, iv 0), (3, iv (openE r true))] [] 120) (by kernel_rfl) ⟨tv, tv, tv, tv⟩ ?_
  refine swp_ret ?_
  exact ret_q [] ((True /\ True /\ True) /\ ((iv 0 = iv (fewP r) /\ nilN = []) /\ (iv (openE r true) = iv (openE r true) /\ nilN = []) /\ True) /\ T3) (by kernel_rfl) ⟨⟨tv, tv, tv⟩, ⟨⟨(congrArg iv (o0 hp h1)), rfl⟩, ⟨rfl, rfl⟩, tv⟩, rfl, rfl, rfl⟩
 ·refine swp_skip (swp_seq ?_)
  refine sR (kt := [4, 6]) (kh := []) (q := True /\ True /\ True /\ True /\ True) (st' := ASt.mk [(4, aWays (openL r true)), (6, iv (↑(r.machines.length) : Int))] [] 128) (by kernel_rfl) ⟨tv, tv, tv, tv, tv⟩ ?_
  refine swp_seq (swp_seq ?_)
  refine sR (kt := [6, 23, 24, 25]) (kh := []) (q := True /\ True /\ True /\ True) (st' := ASt.mk [(6, iv (↑(r.machines.length) : Int)), (23, aWays (openL r true)), (24, iv (↑((openL r true).length) : Int)), (25, iv 0)] [] 152) (by kernel_rfl) ⟨tv, tv, tv, tv⟩ ?_
  refine swp_block ?_
  refine swp_loopA (Hint.ann (h22a r) [(23, aWays (openL r true)), (24, iv (↑((openL r true).length) : Int))] [] 10152) (ent_q hE [] [] [23, 24] [] (((aWays (openL r true) = aWays (openL r true) /\ true = true) /\ (iv (↑((openL r true).length) : Int) = iv (↑((openL r true).length) : Int) /\ true = true) /\ (iv 0 = iv (↑0 : Int) /\ nilN = []) /\ (iv (↑(r.machines.length) : Int) = iv (fewPTo r (openL r true) 0) /\ nilN = []) /\ True) /\ True /\ T2) (by kernel_rfl) (by kernel_rfl) ⟨⟨⟨rfl, rfl⟩, ⟨rfl, rfl⟩, ⟨(congrArg iv (o1 hp h1)), rfl⟩, ⟨(congrArg iv (o2 hp h1)), rfl⟩, tv⟩, tv, rfl, rfl⟩) (o3 hp h1) (fun (x2 : Nat) hx2 => ?_)
  refine swp_seq ?_
  refine sR (kt := [23, 24, 25, 6, 26]) (kh := []) (q := True /\ True) (st' := ASt.mk [(23, aWays (openL r true)), (24, iv (↑((openL r true).length) : Int)), (25, iv (x2 : Int)), (6, iv (fewPTo r (openL r true) x2)), (26, bv (decide ((x2 : Int) < (↑((openL r true).length) : Int))))] [] 10160) (by kernel_rfl) ⟨tv, tv⟩ ?_
  refine swp_seq ?_
  refine swp_cond (decide ((x2 : Int) < (↑((openL r true).length) : Int))) (by kernel_rfl) (fun h3 => ?_) (fun h3 => ?_)
  ·refine swp_skip (swp_seq (swp_block (swp_seq ?_)))
   refine sR (kt := [23, 24, 25, 6, 8]) (kh := [10176]) (q := (0 <= (x2 : Int) /\ (x2 : Int) < (↑((openL r true).length) : Int)) /\ True /\ True /\ True /\ True) (st' := ASt.mk [(23, aWays (openL r true)), (24, iv (↑((openL r true).length) : Int)), (25, iv (x2 : Int)), (6, iv (fewPTo r (openL r true) x2)), (8, .ptr 10176 [])] [(10176, .cells 107 (cWay ((openL r true).getD x2 default)))] 10192) (by kernel_rfl) ⟨⟨(o4 hp h1 x2 hx2 h3), (o5 hp h1 x2 hx2 h3)⟩, tv, tv, tv, tv⟩ ?_
   refine swp_seq ?_
   refine sR (kt := [23, 24, 25, 6, 8, 9]) (kh := [10176, 10192]) (q := True /\ True /\ True) (st' := ASt.mk [(23, aWays (openL r true)), (24, iv (↑((openL r true).length) : Int)), (25, iv (x2 : Int)), (6, iv (fewPTo r (openL r true) x2)), (8, .ptr 10176 []), (9, .vec 10192)] [(10176, .cells 107 (cWay ((openL r true).getD x2 default))), (10192, .mp 108 [])] 10208) (by kernel_rfl) ⟨tv, tv, tv⟩ ?_
   refine swp_seq (swp_seq ?_)
   refine sR (kt := [23, 24, 25, 6, 9, 31, 32, 33]) (kh := [10192]) (q := True /\ True /\ True /\ True /\ True) (st' := ASt.mk [(23, aWays (openL r true)), (24, iv (↑((openL r true).length) : Int)), (25, iv (x2 : Int)), (6, iv (fewPTo r (openL r true) x2)), (9, .vec 10192), (31, aInts ((openL r true).getD x2 default).frm), (32, iv (↑(((openL r true).getD x2 default).frm.length) : Int)), (33, iv 0)] [(10192, .mp 108 [])] 10240) (by kernel_rfl) ⟨tv, tv, tv, tv, tv⟩ ?_
   refine swp_block ?_
   refine swp_loopA (Hint.ann (h22b r x2) [(23, aWays (openL r true)), (24, iv (↑((openL r true).length) : Int)), (25, iv (x2 : Int)), (6, iv (fewPTo r (openL r true) x2)), (31, aInts ((openL r true).getD x2 default).frm), (32, iv (↑(((openL r true).getD x2 default).frm.length) : Int))] [] 20240) (ent_q hE [] [(5000, .same 10192)] [23, 24, 25, 6, 31, 32] [] (((aWays (openL r true) = aWays (openL r true) /\ true = true) /\ (iv (↑((openL r true).length) : Int) = iv (↑((openL r true).length) : Int) /\ true = true) /\ (iv (x2 : Int) = iv (x2 : Int) /\ true = true) /\ (iv (fewPTo r (openL r true) x2) = iv (fewPTo r (openL r true) x2) /\ true = true) /\ (aInts ((openL r true).getD x2 default).frm = aInts ((openL r true).getD x2 default).frm /\ true = true) /\ (iv (↑(((openL r true).getD x2 default).frm.length) : Int) = iv (↑(((openL r true).getD x2 default).frm.length) : Int) /\ true = true) /\ (iv 0 = iv (↑0 : Int) /\ nilN = []) /\ some (Src.same 10192) = some (Src.same 10192) /\ True) /\ ((108 = 108 /\ [] = logTo ((openL r true).getD x2 default).frm 0) /\ True) /\ T2) (by kernel_rfl) (by kernel_rfl) ⟨⟨⟨rfl, rfl⟩, ⟨rfl, rfl⟩, ⟨rfl, rfl⟩, ⟨rfl, rfl⟩, ⟨rfl, rfl⟩, ⟨rfl, rfl⟩, ⟨(congrArg iv (o6 hp h1 x2 hx2 h3)), rfl⟩, rfl, tv⟩, ⟨⟨rfl, (o7 hp h1 x2 hx2 h3)⟩, tv⟩, rfl, rfl⟩) (o8 hp h1 x2 hx2 h3) (fun (x4 : Nat) hx4 => ?_)
   refine swp_seq ?_
   refine sR (kt := [23, 24, 25, 6, 31, 32, 33, 9, 34]) (kh := [5000]) (q := True /\ True) (st' := ASt.mk [(23, aWays (openL r true)), (24, iv (↑((openL r true).length) : Int)), (25, iv (x2 : Int)), (6, iv (fewPTo r (openL r true) x2)), (31, aInts ((openL r true).getD x2 default).frm), (32, iv (↑(((openL r true).getD x2 default).frm.length) : Int)), (33, iv (x4 : Int)), (9, .vec 5000), (34, bv (decide ((x4 : Int) < (↑(((openL r true).getD x2 default).frm.length) : Int))))] [(5000, .mp 108 (logTo ((openL r true).getD x2 default).frm x4))] 20248) (by kernel_rfl) ⟨tv, tv⟩ ?_
   refine swp_seq ?_
   refine swp_cond (decide ((x4 : Int) < (↑(((openL r true).getD x2 default).frm.length) : Int))) (by kernel_rfl) (fun h5 => ?_) (fun h5 => ?_)
   ·refine swp_skip (swp_seq (swp_block (swp_seq ?_)))
    refine sR (kt := [23, 24, 25, 6, 31, 32, 33, 9, 11]) (kh := [5000]) (q := (0 <= (x4 : Int) /\ (x4 : Int) < (↑(((openL r true).getD x2 default).frm.length) : Int)) /\ True /\ True /\ True) (st' := ASt.mk [(23, aWays (openL r true)), (24, iv (↑((openL r true).length) : Int)), (25, iv (x2 : Int)), (6, iv (fewPTo r (openL r true) x2)), (31, aInts ((openL r true).getD x2 default).frm), (32, iv (↑(((openL r true).getD x2 default).frm.length) : Int)), (33, iv (x4 : Int)), (9, .vec 5000), (11, iv (((openL r true).getD x2 default).frm.getD x4 0))] [(5000, .mp 108 (logTo ((openL r true).getD x2 default).frm x4))] 20272) (by kernel_rfl) ⟨⟨(o9 hp h1 x2 hx2 h3 x4 hx4 h5), (o10 hp h1 x2 hx2 h3 x4 hx4 h5)⟩, tv, tv, tv⟩ ?_
    refine sR (kt := [23, 24, 25, 6, 31, 32, 33, 9]) (kh := [5000]) (q := True /\ True /\ inI (((openL r true).getD x2 default).frm.getD x4 0) /\ inI (mlook (logTo ((openL r true).getD x2 default).frm x4) (((openL r true).getD x2 default).frm.getD x4 0) + 1) /\ (inI (((openL r true).getD x2 default).frm.getD x4 0) /\ inI (mlook (logTo ((openL r true).getD x2 default).frm x4) (((openL r true).getD x2 default).frm.getD x4 0) + 1) /\ (logTo ((openL r true).getD x2 default).frm x4).length < 65536) /\ True) (st' := ASt.mk [(23, aWays (openL r true)), (24, iv (↑((openL r true).length) : Int)), (25, iv (x2 : Int)), (6, iv (fewPTo r (openL r true) x2)), (31, aInts ((openL r true).getD x2 default).frm), (32, iv (↑(((openL r true).getD x2 default).frm.length) : Int)), (33, iv (x4 : Int)), (9, .vec 5000)] [(5000, .mp 108 (logTo ((openL r true).getD x2 default).frm x4 ++ [(((openL r true).getD x2 default).frm.getD x4 0, mlook (logTo ((openL r true).getD x2 default).frm x4) (((openL r true).getD x2 default).frm.getD x4 0) + 1)]))] 20312) (by kernel_rfl) ⟨tv, tv, (o11 hp h1 x2 hx2 h3 x4 hx4 h5), (o12 hp h1 x2 hx2 h3 x4 hx4 h5), ⟨(o13 hp h1 x2 hx2 h3 x4 hx4 h5), (o14 hp h1 x2 hx2 h3 x4 hx4 h5), (o15 hp h1 x2 hx2 h3 x4 hx4 h5)⟩, tv⟩ ?_
    refine sR (kt := [23, 24, 25, 6, 31, 32, 33, 9]) (kh := [5000]) (q := inI ((x4 : Int) + 1) /\ True /\ True) (st' := ASt.mk [(23, aWays (openL r true)), (24, iv (↑((openL r true).length) : Int)), (25, iv (x2 : Int)), (6, iv (fewPTo r (openL r true) x2)), (31, aInts ((openL r true).getD x2 default).frm), (32, iv (↑(((openL r true).getD x2 default).frm.length) : Int)), (33, iv ((x4 : Int) + 1)), (9, .vec 5000)] [(5000, .mp 108 (logTo ((openL r true).getD x2 default).frm x4 ++ [(((openL r true).getD x2 default).frm.getD x4 0, mlook (logTo ((openL r true).getD x2 default).frm x4) (((openL r true).getD x2 default).frm.getD x4 0) + 1)]))] 20328) (by kernel_rfl) ⟨(o16 hp h1 x2 hx2 h3 x4 hx4 h5), tv, tv⟩ ?_
    exact loop_next (Hint.ann (h22b r x2) [(23, aWays (openL r true)), (24, iv (↑((openL r true).length) : Int)), (25, iv (x2 : Int)), (6, iv (fewPTo r (openL r true) x2)), (31, aInts ((openL r true).getD x2 default).frm), (32, iv (↑(((openL r true).getD x2 default).frm.length) : Int))] [] 20240) x4 (ent_q hE [] [(5000, .same 5000)] [23, 24, 25, 6, 31, 32] [] (((aWays (openL r true) = aWays (openL r true) /\ true = true) /\ (iv (↑((openL r true).length) : Int) = iv (↑((openL r true).length) : Int) /\ true = true) /\ (iv (x2 : Int) = iv (x2 : Int) /\ true = true) /\ (iv (fewPTo r (openL r true) x2) = iv (fewPTo r (openL r true) x2) /\ true = true) /\ (aInts ((openL r true).getD x2 default).frm = aInts ((openL r true).getD x2 default).frm /\ true = true) /\ (iv (↑(((openL r true).getD x2 default).frm.length) : Int) = iv (↑(((openL r true).getD x2 default).frm.length) : Int) /\ true = true) /\ (iv ((x4 : Int) + 1) = iv (↑(x4 + 1) : Int) /\ nilN = []) /\ some (Src.same 5000) = some (Src.same 5000) /\ True) /\ ((108 = 108 /\ logTo ((openL r true).getD x2 default).frm x4 ++ [(((openL r true).getD x2 default).frm.getD x4 0, mlook (logTo ((openL r true).getD x2 default).frm x4) (((openL r true).getD x2 default).frm.getD x4 0) + 1)] = logTo ((openL r true).getD x2 default).frm (x4 + 1)) /\ True) /\ T2) (by kernel_rfl) (by kernel_rfl) ⟨⟨⟨rfl, rfl⟩, ⟨rfl, rfl⟩, ⟨rfl, rfl⟩, ⟨rfl, rfl⟩, ⟨rfl, rfl⟩, ⟨rfl, rfl⟩, ⟨(congrArg iv (o17 hp h1 x2 hx2 h3 x4 hx4 h5)), rfl⟩, rfl, tv⟩, ⟨⟨rfl, (o18 hp h1 x2 hx2 h3 x4 hx4 h5)⟩, tv⟩, rfl, rfl⟩) (o19 hp h1 x2 hx2 h3 x4 hx4 h5) (o20 hp h1 x2 hx2 h3 x4 hx4 h5)
   ·refine swp_exit ?_
    refine sR (kt := [23, 24, 25, 6]) (kh := []) (q := True /\ True /\ True /\ True /\ True /\ True) (st' := ASt.mk [(23, aWays (openL r true)), (24, iv (↑((openL r true).length) : Int)), (25, iv (x2 : Int)), (6, iv (min (fewPTo r (openL r true) x2) (↑((mkeys (logTo ((openL r true).getD x2 default).frm x4)).length) : Int)))] [] 20288) (by kernel_rfl) ⟨tv, tv, tv, tv, tv, tv⟩ ?_
    refine sR (kt := [23, 24, 25, 6]) (kh := []) (q := inI ((x2 : Int) + 1) /\ True /\ True) (st' := ASt.mk [(23, aWays (openL r true)), (24, iv (↑((openL r true).length) : Int)), (25, iv ((x2 : Int) + 1)), (6, iv (min (fewPTo r (openL r true) x2) (↑((mkeys (logTo ((openL r true).getD x2 default).frm x4)).length) : Int)))] [] 20304) (by kernel_rfl) ⟨(o21 hp h1 x2 hx2 h3 x4 hx4 h5), tv, tv⟩ ?_
    exact loop_next (Hint.ann (h22a r) [(23, aWays (openL r true)), (24, iv (↑((openL r true).length) : Int))] [] 10152) x2 (ent_q hE [] [] [23, 24] [] (((aWays (openL r true) = aWays (openL r true) /\ true = true) /\ (iv (↑((openL r true).length) : Int) = iv (↑((openL r true).length) : Int) /\ true = true) /\ (iv ((x2 : Int) + 1) = iv (↑(x2 + 1) : Int) /\ nilN = []) /\ (iv (min (fewPTo r (openL r true) x2) (↑((mkeys (logTo ((openL r true).getD x2 default).frm x4)).length) : Int)) = iv (fewPTo r (openL r true) (x2 + 1)) /\ nilN = []) /\ True) /\ True /\ T2) (by kernel_rfl) (by kernel_rfl) ⟨⟨⟨rfl, rfl⟩, ⟨rfl, rfl⟩, ⟨(congrArg iv (o22 hp h1 x2 hx2 h3 x4 hx4 h5)), rfl⟩, ⟨(congrArg iv (o23 hp h1 x2 hx2 h3 x4 hx4 h5)), rfl⟩, tv⟩, tv, rfl, rfl⟩) (o24 hp h1 x2 hx2 h3 x4 hx4 h5) (o25 hp h1 x2 hx2 h3 x4 hx4 h5)
  ·refine swp_exit (swp_seq ?_)
   refine sR (kt := [2, 3]) (kh := []) (q := True /\ True /\ True /\ True) (st' := ASt.mk [(2, iv (fewPTo r (openL r true) x2)), (3, iv 0)] [] 10184) (by kernel_rfl) ⟨tv, tv, tv, tv⟩ ?_
   refine swp_ret ?_
   exact ret_q [] ((True /\ True /\ True) /\ ((iv (fewPTo r (openL r true) x2) = iv (fewP r) /\ nilN = []) /\ (iv 0 = iv (openE r true) /\ nilN = []) /\ True) /\ T3) (by kernel_rfl) ⟨⟨tv, tv, tv⟩, ⟨⟨(congrArg iv (o26 hp h1 x2 hx2 h3)), rfl⟩, ⟨(congrArg iv (o27 hp h1 x2 hx2 h3)), rfl⟩, tv⟩, rfl, rfl, rfl⟩
theorem t22 (r : Run) : Triple Try.prog 22 (s22 r) := by
  apply w22
  all_goals (first
    | (intro _ h; rw [fewP, if_neg (openBad h)]; done)
    | ((repeat intro _) <;> (try simp only [v0, v1, v2, v3, v4, v5, v6, v7, v8, v9, inI, fits, Go.Sh.small] at *) <;> first | (exact rfl) | omega | exact vz | (simp_all; done) | (simp_all; omega))
    | (intro _ h
       have F := openF h
       have h2 := F.len
       have h3 := F.ok.machines
       have h4 := F.ok.found
       first
       | exact F.zero.symm
       | (intro x hx hl
          simp only [decide_eq_true_eq, decide_eq_false_iff_not] at hl
          first
          | exact F.zero.symm
          | omega
          | (simp only [inI]; omega)
          | (rw [fewP, if_pos F.zero, ← F.eq, show x = (openL r true).length by omega]; done)
          | (intro j hj hjl
             have h5 := F.frm x (by omega)
             simp only [decide_eq_true_eq, decide_eq_false_iff_not] at hjl
             have h6 := logTo_look ((openL r true).getD x default).frm (((openL r true).getD x default).frm.getD j 0) j
             have h7 := logTo_len ((openL r true).getD x default).frm j
             first
             | omega
             | (simp only [inI]; omega)
             | (simp only [inI]; have h8 := F.mach x (by omega) j (by omega); omega)
             | (rw [logTo_succ]; done)
             | (rw [fewPTo_succ, usedW, show ((openL r true).getD x default).frm.length = j by omega]; done))))
    | skip)
end Go.Ab
namespace Go.Proofs
open Go.Shelf
def Try.lays189_ren : Go.Shelf.Ren := ⟨fun | 189 => 119 | 125 => 141 | 257 => 140 | 128 => 155 | 129 => 156 | 294 => 146 | 295 => 147 | 296 => 148 | 297 => 149 | 298 => 150 | 299 => 151 | 216 => 152 | 300 => 153 | 301 => 154 | 328 => 158 | 329 => 159 | 330 => 160 | 331 => 161 | 332 => 162 | 215 => 163 | 343 => 164 | n => n, fun | 28 => 30 | 3 => 3 | 46 => 157 | 0 => 0 | 51 => 171 | 53 => 173 | 4 => 4 | 183 => 166 | 182 => 165 | 131 => 75 | 5 => 5 | 9 => 9 | 218 => 175 | 222 => 179 | 228 => 181 | 229 => 182 | n => n, fun | n => n⟩
theorem Try.lays189 : Go.Proofs.Lays.n189 Try.prog Try.lays189_ren := {
 mixed := by kernel_rfl
 f125 := Try.func141.trans (congrArg some (by kernel_rfl))
 f128 := Try.func155.trans (congrArg some (by kernel_rfl))
 f129 := Try.func156.trans (congrArg some (by kernel_rfl))
 f189 := Try.func119.trans (congrArg some (by kernel_rfl))
 f215 := Try.func163.trans (congrArg some (by kernel_rfl))
 f216 := Try.func152.trans (congrArg some (by kernel_rfl))
 f257 := Try.func140.trans (congrArg some (by kernel_rfl))
 f294 := Try.func146.trans (congrArg some (by kernel_rfl))
 f295 := Try.func147.trans (congrArg some (by kernel_rfl))
 f296 := Try.func148.trans (congrArg some (by kernel_rfl))
 f297 := Try.func149.trans (congrArg some (by kernel_rfl))
 f298 := Try.func150.trans (congrArg some (by kernel_rfl))
 f299 := Try.func151.trans (congrArg some (by kernel_rfl))
 f300 := Try.func153.trans (congrArg some (by kernel_rfl))
 f301 := Try.func154.trans (congrArg some (by kernel_rfl))
 f328 := Try.func158.trans (congrArg some (by kernel_rfl))
 f329 := Try.func159.trans (congrArg some (by kernel_rfl))
 f330 := Try.func160.trans (congrArg some (by kernel_rfl))
 f331 := Try.func161.trans (congrArg some (by kernel_rfl))
 f332 := Try.func162.trans (congrArg some (by kernel_rfl))
 f343 := Try.func164.trans (congrArg some (by kernel_rfl))
 t0 := Try.underlying0
 a0 := Try.isAgg0
 z0 := Try.sizeOf0
 v0 := Try.zeroValue0
 t3 := Try.underlying3
 a3 := Try.isAgg3
 z3 := Try.sizeOf3
 v3 := Try.zeroValue3
 t4 := Try.underlying4
 a4 := Try.isAgg4
 z4 := Try.sizeOf4
 v4 := Try.zeroValue4
 t5 := Try.underlying5
 a5 := Try.isAgg5
 z5 := Try.sizeOf5
 v5 := Try.zeroValue5
 t9 := Try.underlying9
 a9 := Try.isAgg9
 z9 := Try.sizeOf9
 v9 := Try.zeroValue9
 t28 := Try.underlying30
 a28 := Try.isAgg30
 z28 := Try.sizeOf30
 v28 := Try.zeroValue30
 t46 := Try.underlying157
 a46 := Try.isAgg157
 z46 := Try.sizeOf157
 v46 := Try.zeroValue157
 t51 := Try.underlying171
 a51 := Try.isAgg171
 z51 := Try.sizeOf171
 v51 := Try.zeroValue171
 t53 := Try.underlying173
 a53 := Try.isAgg173
 z53 := Try.sizeOf173
 v53 := Try.zeroValue173
 t131 := Try.underlying75
 a131 := Try.isAgg75
 z131 := Try.sizeOf75
 v131 := Try.zeroValue75
 t182 := Try.underlying165
 a182 := Try.isAgg165
 z182 := Try.sizeOf165
 v182 := Try.zeroValue165
 t183 := Try.underlying166
 a183 := Try.isAgg166
 z183 := Try.sizeOf166
 v183 := Try.zeroValue166
 t218 := Try.underlying175
 a218 := Try.isAgg175
 z218 := Try.sizeOf175
 v218 := Try.zeroValue175
 t222 := Try.underlying179
 a222 := Try.isAgg179
 z222 := Try.sizeOf179
 v222 := Try.zeroValue179
 t228 := Try.underlying181
 a228 := Try.isAgg181
 z228 := Try.sizeOf181
 v228 := Try.zeroValue181
 t229 := Try.underlying182
 a229 := Try.isAgg182
 z229 := Try.sizeOf182
 v229 := Try.zeroValue182 }
open Go.Sort Go.RowKit in
theorem Try.slices_Sort_int (blk off cap : Nat) (zs : List Int) (w : World) (hH : Holds (Value.int .i64) w blk off zs.toArray) (hblk : blk < w.heap.size) (hsz : zs.length < 4611686018427387904) :
  Calls Try.prog 119 #[.slice (some ⟨blk, off, none⟩) zs.length cap] w fun e w' =>
   e = .returned (.tuple #[]) /\ ∃ n os, w' = grow (putRow (Value.int .i64) (Sort.ahead w n) blk off (zs.mergeSort fun x y => decide (x <= y)).toArray) os := Any.slices_Sort_int Try.lays189 blk off cap zs w hH hblk hsz
def Try.laysNm220_ren : Go.Shelf.Ren := ⟨fun | 20 => 120 | n => n, fun | 22 => 30 | 3 => 3 | 4 => 4 | 0 => 0 | n => n, fun | n => n⟩
theorem Try.laysNm220 : Go.Proofs.Lays2.n20 Try.prog Try.laysNm220_ren := {
 mixed := by kernel_rfl
 f20 := Try.func120.trans (congrArg some (by kernel_rfl))
 t0 := Try.underlying0
 a0 := Try.isAgg0
 z0 := Try.sizeOf0
 v0 := Try.zeroValue0
 t3 := Try.underlying3
 a3 := Try.isAgg3
 z3 := Try.sizeOf3
 v3 := Try.zeroValue3
 t4 := Try.underlying4
 a4 := Try.isAgg4
 z4 := Try.sizeOf4
 v4 := Try.zeroValue4
 t22 := Try.underlying30
 a22 := Try.isAgg30
 z22 := Try.sizeOf30
 v22 := Try.zeroValue30
 i3 := by kernel_rfl }
open Go.RowKit Go.Lib Go.Sort in
theorem Try.slices_Compact_int (blk off cap : Nat) (zs : List Int) (w : World) (hH : Holds (Value.int .i64) w blk off zs.toArray) (hsz : zs.length <= 9223372036854775807) (hcap : zs.length <= cap) :
  Calls Try.prog 120 #[.slice (some ⟨blk, off, none⟩) zs.length cap] w fun e w' => e = .returned (.slice (some ⟨blk, off, none⟩) (Lib.compact zs).length cap) /\ ∃ q, w' = putRow (Value.int .i64) (Sort.ahead w q) blk off (Lib.compact zs ++ List.replicate (zs.length - (Lib.compact zs).length) 0).toArray := Any.slices_Compact_int Try.laysNm220 blk off cap zs w hH hsz hcap
end Go.Proofs
namespace Go.Sh
def sortI (l : List Int) : List Int := l.mergeSort (fun x y => decide (x <= y))
theorem sortI_len (l : List Int) : (sortI l).length = l.length := List.length_mergeSort _
def compactI (l : List Int) : List Int := Go.Lib.compact l
theorem compact_le (l : List Int) : (compactI l).length <= l.length := by
 unfold compactI Go.Lib.compact Go.Lib.compactUpTo
 rw [List.length_map]
 exact Nat.le_trans (List.length_filter_le _ _) (by simp)
end Go.Sh
namespace Go.Ab
open Go Go.RowKit Go.Sort Go.Sh
theorem putRow_heap {α : Type} [Inhabited α] (enc : α -> Value) (w : World) (q k : Nat) (ys : List α) (os : Array Obj) (us : List Value) (e : TypeId) (hw : w.heap[k]? = some (.cells us.toArray e (0, 0))) (hl : ys.length <= us.length) :
  (grow (putRow enc (Sort.ahead w q) k 0 ys.toArray) os).heap[k]? = some (.cells (ys.map enc ++ us.drop ys.length).toArray e (0, 0)) /\ w.grownBy (grow (putRow enc (Sort.ahead w q) k 0 ys.toArray) os) (some k) := by
 have hlt : k < w.heap.size := (Array.getElem?_eq_some_iff.1 hw).1
 have hsz : (putRow enc (Sort.ahead w q) k 0 ys.toArray).heap.size = w.heap.size := by simp [putRow, mapBlock, Sort.ahead]
 refine ⟨?_, ⟨rfl, rfl, rfl, by rw [size_grow, hsz]; omega, fun j hj hne => ?_⟩⟩
 ·rw [heap_grow_old _ _ (by rw [hsz]; exact hlt)]
  show ((Sort.ahead w q).heap.modify k _)[k]? = _
  have hw' : (Sort.ahead w q).heap[k]? = some (.cells us.toArray e (0, 0)) := hw
  rw [Array.getElem?_modify, if_pos rfl, hw']
  simp only [Option.map_some, onCells, Option.some.injEq, Obj.cells.injEq, and_true]
  apply Array.ext_getElem?
  intro i
  simp only [putCells, Array.getElem?_mapIdx, List.getElem?_toArray, List.size_toArray, Nat.zero_le, true_and, Nat.zero_add, Nat.sub_zero]
  by_cases h1 : i < ys.length
  ·rw [List.getElem?_append_left (by simpa using h1), List.getElem?_map, List.getElem?_eq_getElem h1, List.getElem?_eq_getElem (show i < us.length by omega)]
   simp only [Option.map_some, if_pos h1]
   rw [getElem!_pos _ i (by simpa using h1)]
   simp
  ·rw [List.getElem?_append_right (by simpa using h1), List.getElem?_drop]
   have : ys.length + (i - (List.map enc ys).length) = i := by simp; omega
   rw [this]
   cases us[i]? with
   | none => rfl
   | some u => simp only [Option.map_some, if_neg h1]
 ·rw [heap_grow_old _ _ (by rw [hsz]; exact hj)]
  show ((Sort.ahead w q).heap.modify k _)[j]? = _
  rw [Array.getElem?_modify, if_neg (fun e => hne (by rw [e]))]
  rfl
def rowI (t : TypeId) (l : List Int) : OB := .vec t 1 l.length (fun i => [iv (l.getD i 0)])
theorem rowI_flat {E : Env} {l : List Int} {g : Nat -> List Value} (hr : ∀ i, i < l.length -> RelL E false [iv (l.getD i 0)] (g i)) : (List.range l.length).flatMap g = l.map (Value.int .i64) := by
 have h1 : ∀ i, i < l.length -> g i = [Value.int .i64 (l.getD i 0)] := by
  intro i hi
  have := hr i hi
  generalize g i = x at this
  cases this with
  | cons h _ hs => cases hs; cases h; rfl
 refine List.ext_getElem? fun i => ?_
 have hlen := flat_length g 1 l.length (fun i hi => by rw [h1 i hi]; rfl)
 by_cases hi : i < l.length
 ·have := flat_get g 1 l.length (fun i hi => by rw [h1 i hi]; rfl) i 0 hi (by omega)
  simp only [Nat.mul_one, Nat.add_zero] at this
  rw [this, h1 i hi, List.getElem?_map, List.getElem?_eq_getElem hi]
  simp [List.getD, List.getElem?_eq_getElem hi]
 ·rw [List.getElem?_eq_none (by omega), List.getElem?_eq_none (by simpa using hi)]
theorem rowI_rel (E : Env) (l : List Int) : ∀ i, i < l.length -> RelL E false [iv (l.getD i 0)] [Value.int .i64 (l.getD i 0)] := fun i _ => .cons (.lit _) rfl .nil
theorem rowI_flat' (l : List Int) : (List.range l.length).flatMap (fun i => [Value.int .i64 (l.getD i 0)]) = l.map (Value.int .i64) := by
 let E0 : Env := ⟨fun _ => none, fun _ => none, fun _ => none, fun _ _ => False⟩
 exact rowI_flat (E := E0) (rowI_rel E0 l)
theorem holdsI {w : World} {k : Nat} {l : List Int} {us : List Value} {e : TypeId} (hw : w.heap[k]? = some (.cells us.toArray e (0, 0))) (ht : us.take l.length = l.map (Value.int .i64)) : Holds (Value.int .i64) w k 0 l.toArray := by
 intro j hj
 have hj' : j < l.length := by simpa using hj
 have h1 : us[j]? = some (.int .i64 l[j]) := by
  have := congrArg (fun x => x[j]?) ht
  simp only [List.getElem?_take, if_pos hj', List.getElem?_map, List.getElem?_eq_getElem hj', Option.map_some] at this
  exact this
 refine ⟨?_, ?_⟩
 ·rw [Nat.zero_add, getElem!_pos _ j hj]
  simp only [World.cell?, hw]
  simpa using h1
 ·simp only [World.frozen?, hw]
  rfl
theorem own_rowI {C : Ctx} {E : Env} {w : World} {b : Nat} {t : TypeId} {l : List Int} (h : OwnOB C E w b (rowI t l)) (hn : 0 < l.length) :
  ∃ k cap us, E.hdr b = some (.slice (some ⟨k, 0, none⟩) l.length cap) /\ l.length <= cap /\ cap <= maxLen /\ w.heap[k]? = some (.cells (List.toArray us) t (0, 0)) /\ us.length = cap /\ us.take l.length = l.map (Value.int .i64) /\ E.blk b = some k /\ C.avail k /\ E.M k = none := by
 obtain ⟨hd, g, hh, ho, hl, hr, hbk, hav⟩ := h
 rcases ownsRow_form ho with ⟨_, h0⟩ | ⟨k, cap, rfl, hnc, hcm, us, hw, hul, hut⟩
 ·omega
 ·rw [Nat.mul_one] at hul hut
  rw [rowI_flat hr] at hut
  exact ⟨k, cap, us, hh, hnc, hcm, hw, hul, hut, hbk, (hav k rfl).1, (hav k rfl).2⟩
theorem ownsRow_of {w : World} {k cap : Nat} {us : List Value} {t : TypeId} {l : List Int} (hw : w.heap[k]? = some (.cells us.toArray t (0, 0))) (hnc : l.length <= cap) (hcm : cap <= maxLen) (hul : us.length = cap) (hut : us.take l.length = l.map (Value.int .i64)) :
  w.ownsRow 0 t 1 (.slice (some ⟨k, 0, none⟩) l.length cap) l.length ((List.range l.length).flatMap (fun i => [Value.int .i64 (l.getD i 0)])) := by
 rw [rowI_flat']
 refine ⟨by simp, .inr ⟨k, cap, us.toArray, rfl, Nat.zero_le _, hw, hnc, hcm, by simpa using hul, by simpa using hut⟩⟩
theorem triple_sort {P : Program} {f : FuncId} (hcall : Callable P f) (t : TypeId) (b : Nat) (l : List Int)
  (h : ∀ k cap w, Holds (Value.int .i64) w k 0 l.toArray -> k < w.heap.size -> l.length < 4611686018427387904 -> Calls P f #[.slice (some ⟨k, 0, none⟩) l.length cap] w fun e w' => e = .returned (.tuple #[]) /\ ∃ n os, w' = grow (putRow (Value.int .i64) (Sort.ahead w n) k 0 (sortI l).toArray) os) :
  Triple P f { args := [.vec b], pre := 0 < l.length /\ l.length <= 65536, hin := [(b, rowI t l)], res := .tup [], hout := [(b, rowI t (sortI l))] } := by
 refine ⟨hcall, fun hpre E w vs _ hok hlen hrel _ => ?_⟩
 obtain ⟨v, rfl⟩ : ∃ v, vs = [v] := by
  match vs, hlen with
  | [v], _ => exact ⟨v, rfl⟩
 have hv := hrel 0
 simp only [List.getD_cons_zero] at hv
 have hob : Heap.of [(b, rowI t l)] b = some (rowI t l) := by rw [Heap.of_cons, if_pos rfl]
 obtain ⟨k, cap, us, hh, hnc, hcm, hw, hul, hut, hbk, hav, hM⟩ := own_rowI (hok.own b _ hob) hpre.1
 cases hv with
 | vec _ hh' _ =>
 rw [hh] at hh'
 cases hh'
 have hlt : k < w.heap.size := (Array.getElem?_eq_some_iff.1 hw).1
 refine (h k cap w (holdsI hw hut) hlt (by omega)).mono ?_
 rintro e w' ⟨rfl, n, os, rfl⟩
 obtain ⟨h1, hg⟩ := putRow_heap (Value.int .i64) w n k (sortI l) os us t hw (by rw [sortI_len]; omega)
 refine ⟨_, E, rfl, ?_, .tup rfl (fun k => by simp; exact .any _), fun _ _ => ⟨rfl, rfl⟩⟩
 have := hok.setVec b k (by rw [hob]; simp) hbk hav hM hg (rowI t (sortI l)) ?_
 ·refine this.drop fun i ob hi => ?_
  rw [Heap.of_cons] at hi
  split at hi
  ·rename_i e; cases hi; unfold Heap.put; rw [if_pos e.symm]
  ·cases hi
 ·refine ⟨_, fun i => [Value.int .i64 ((sortI l).getD i 0)], hh, ?_, fun _ _ => rfl, rowI_rel E _, hbk, fun k' hk' => ?_⟩
  ·have := ownsRow_of (l := sortI l) (cap := cap) h1 (by rw [sortI_len]; exact hnc) hcm (by simp [sortI_len, hul]; omega) (by rw [List.take_append_of_le_length (by rw [List.length_map]; exact Nat.le_refl _)]; exact List.take_of_length_le (by rw [List.length_map]; exact Nat.le_refl _))
   rw [sortI_len] at this ⊢
   exact this
  ·cases hk'; exact ⟨hav, hM⟩
theorem triple_compact {P : Program} {f : FuncId} (hcall : Callable P f) (t : TypeId) (b : Nat) (l : List Int)
  (h : ∀ k cap w, Holds (Value.int .i64) w k 0 l.toArray -> l.length <= 9223372036854775807 -> l.length <= cap -> Calls P f #[.slice (some ⟨k, 0, none⟩) l.length cap] w fun e w' => e = .returned (.slice (some ⟨k, 0, none⟩) (Lib.compact l).length cap) /\ ∃ q, w' = putRow (Value.int .i64) (Sort.ahead w q) k 0 (Lib.compact l ++ List.replicate (l.length - (Lib.compact l).length) 0).toArray)
  (hc : (compactI l).length <= l.length) :
  Triple P f { args := [.vec b], pre := 0 < l.length /\ l.length <= 65536, hin := [(b, rowI t l)], res := .sl 1 (compactI l).length (fun i => [iv ((compactI l).getD i 0)]), hout := [] } := by
 replace hc : (Lib.compact l).length <= l.length := hc
 show Triple P f { args := [.vec b], pre := 0 < l.length /\ l.length <= 65536, hin := [(b, rowI t l)], res := .sl 1 (Lib.compact l).length (fun i => [iv ((Lib.compact l).getD i 0)]), hout := [] }
 refine ⟨hcall, fun hpre E w vs _ hok hlen hrel _ => ?_⟩
 obtain ⟨v, rfl⟩ : ∃ v, vs = [v] := by
  match vs, hlen with
  | [v], _ => exact ⟨v, rfl⟩
 have hv := hrel 0
 simp only [List.getD_cons_zero] at hv
 have hob : Heap.of [(b, rowI t l)] b = some (rowI t l) := by rw [Heap.of_cons, if_pos rfl]
 obtain ⟨k, cap, us, hh, hnc, hcm, hw, hul, hut, hbk, hav, hM⟩ := own_rowI (hok.own b _ hob) hpre.1
 cases hv with
 | vec _ hh' _ =>
 rw [hh] at hh'
 cases hh'
 refine (h k cap w (holdsI hw hut) (by omega) hnc).mono ?_
 rintro e w' ⟨rfl, q, rfl⟩
 let ys := Lib.compact l ++ List.replicate (l.length - (Lib.compact l).length) 0
 have hys : ys.length = l.length := by simp [ys]; omega
 obtain ⟨h1, hg⟩ := putRow_heap (Value.int .i64) w q k ys #[] us t hw (by omega)
 rw [grow_empty] at h1 hg
 have hown := hok.setVec b k (by rw [hob]; simp) hbk hav hM hg (rowI t ys) ⟨_, fun i => [Value.int .i64 (ys.getD i 0)], by rw [hh, ← hys], ownsRow_of (l := ys) (cap := cap) h1 (by omega) hcm (by simp [hul]; omega) (by rw [List.take_append_of_le_length (by rw [List.length_map]; exact Nat.le_refl _)]; exact List.take_of_length_le (by rw [List.length_map]; exact Nat.le_refl _)), fun _ _ => rfl, rowI_rel E _, hbk, fun k' hk' => by cases hk'; exact ⟨hav, hM⟩⟩
 have hfz := hown.freeze b k _ (by unfold Heap.put; rw [if_pos rfl]; simp) hbk hav hM h1
 refine ⟨_, E.freeze k (.cells (ys.map (Value.int .i64) ++ us.drop ys.length).toArray t (0, 0)), rfl, ?_, ?_, fun _ _ => ⟨rfl, rfl⟩⟩
 ·refine hfz.drop fun i ob hi => ?_
  cases hi
 ·refine .slA 1 _ _ k 0 cap (fun i => [Value.int .i64 ((Lib.compact l).getD i 0)]) (by omega) hcm (fun _ _ => rfl) (fun i j hi hj => ?_) (fun i hi => .cons (.lit _) rfl .nil)
  have hj0 : j = 0 := by omega
  subst hj0
  simp only [mcell, frozen_self, Nat.zero_add, Nat.mul_one, Nat.add_zero, List.getElem?_toArray, List.getElem?_cons_zero]
  have hlt : i < (ys.map (Value.int .i64)).length := by rw [List.length_map, hys]; omega
  rw [List.getElem?_append_left hlt, List.getElem?_map]
  simp only [ys, List.getElem?_append_left hi, List.getElem?_eq_getElem hi, Option.map_some]
  simp [List.getD, List.getElem?_eq_getElem hi]
end Go.Ab
namespace Go.Sh
def wfTo (l : List WayS) (f n : Nat) : List Int := (l.take n).map (fun w => w.frm.getD f 0)
def wf (l : List WayS) (f : Nat) : List Int := l.map (fun w => w.frm.getD f 0)
theorem wfTo_succ {l : List WayS} {f n : Nat} (h : n < l.length) : wfTo l f (n + 1) = wfTo l f n ++ [(l.getD n default).frm.getD f 0] := by
 unfold wfTo; rw [Go.Ab.take_succ _ default h, List.map_append]; rfl
theorem wfTo_len {l : List WayS} {f n : Nat} (h : n <= l.length) : (wfTo l f n).length = n := by
 unfold wfTo; rw [List.length_map, List.length_take]; omega
theorem wfTo_full {l : List WayS} {f n : Nat} (h : l.length <= n) : wfTo l f n = wf l f := by
 unfold wfTo wf; rw [List.take_of_length_le h]
theorem wf_len (l : List WayS) (f : Nat) : (wf l f).length = l.length := by simp [wf]
def whereP (l : List WayS) (f : Nat) : List Int := compactI (sortI (wf l f))
def whereS (r : Run) (f : Int) : List Int := if openE r (isFound r f) = 0 then whereP (waysOf r) f.toNat else []
end Go.Sh
namespace Go.Ab
open Go Go.RowKit Go.Proofs Go.Sh Go.En
def s119 (b : Nat) (l : List Int) : CallSpec := { args := [.vec b], pre := 0 < l.length /\ l.length <= 65536, hin := [(b, rowI 3 l)], res := .tup [], hout := [(b, rowI 3 (sortI l))] }
theorem t119 (b : Nat) (l : List Int) : Triple Try.prog 119 (s119 b l) := triple_sort Try.call119 3 b l (fun k cap w h1 h2 h3 => Try.slices_Sort_int k 0 cap l w h1 h2 h3)
def s120 (b : Nat) (l : List Int) : CallSpec := { args := [.vec b], pre := 0 < l.length /\ l.length <= 65536, hin := [(b, rowI 3 l)], res := aInts (compactI l), hout := [] }
theorem t120 (b : Nat) (l : List Int) : Triple Try.prog 120 (s120 b l) := triple_compact Try.call120 3 b l (fun k cap w h1 h2 h3 => Try.slices_Compact_int k 0 cap l w h1 h2 h3) (compact_le l)
def s90 (l : List WayS) (f : Nat) : CallSpec := { args := [aWays l, iv f], res := aInts (whereP l f), pre := 0 < l.length /\ l.length <= 729 /\ ∀ x, x < l.length -> f < (l.getD x default).frm.length }
def h90 (l : List WayS) (f : Nat) : Hint := { X := Nat, M := fun i => [(10, iv i), (5, .vec 5000)], H := fun i => [(5000, rowI 3 (wfTo l f i))], I := fun i => i <= l.length, mu := fun i => l.length - i, x0 := (0 : Nat), nx := fun i => i + 1 }
def c90a (l : List WayS) (f : Nat) : CallSpec := s119 5000 (wf l f)
def c90b (l : List WayS) (f : Nat) : CallSpec := s120 5000 (sortI (wf l f))
def s35 (r : Run) (f : Int) : CallSpec := { args := [vRun r, iv f], res := .tup [aInts (whereS r f), iv (openE r (isFound r f))], pre := fits r }
def c35o (r : Run) (f : Int) : CallSpec := s78 r (isFound r f)
def c35 (r : Run) (f : Int) : CallSpec := s90 (openL r (isFound r f)) f.toNat
end Go.Ab
namespace Go.Ab
open Go Go.RowKit Go.Proofs Go.Sh Go.En
abbrev q90_1 (l : List WayS) (f : Nat) (C : Prop) : Prop := (0 < l.length /\ l.length <= 729 /\ ∀ (x : Nat), x < l.length -> f < (l.getD x default).frm.length) -> C
abbrev q90_2 (l : List WayS) (f : Nat) (C : Nat -> Prop) : Prop := q90_1 l f (∀ (x0 : Nat), x0 <= l.length -> decide ((x0 : Int) < (↑(l.length) : Int)) = true -> C x0)
abbrev q90_3 (l : List WayS) (f : Nat) (C : Nat -> Prop) : Prop := q90_1 l f (∀ (x0 : Nat), x0 <= l.length -> decide ((x0 : Int) < (↑(l.length) : Int)) = false -> C x0)
theorem w90 (l : List WayS) (f : Nat)
 (o0 : q90_1 l f (0 = (↑0 : Int)))
 (o1 : q90_1 l f ((wfTo l f 0).length = 0))
 (o2 : q90_1 l f (0 <= l.length))
 (o3 : q90_2 l f fun x0 => 0 <= (x0 : Int))
 (o4 : q90_2 l f fun x0 => (x0 : Int) < (↑(l.length) : Int))
 (o5 : q90_2 l f fun x0 => 0 <= (f : Int))
 (o6 : q90_2 l f fun x0 => (f : Int) < (↑((l.getD x0 default).frm.length) : Int))
 (o7 : q90_2 l f fun x0 => (wfTo l f x0).length + 1 <= 65536)
 (o8 : q90_2 l f fun x0 => inI ((x0 : Int) + 1))
 (o9 : q90_2 l f fun x0 => (x0 : Int) + 1 = (↑(x0 + 1) : Int))
 (o10 : q90_2 l f fun x0 => (wfTo l f x0).length + 1 = (wfTo l f (x0 + 1)).length)
 (o11 : q90_2 l f fun x0 => ∀ (i2 : Nat), i2 < (wfTo l f x0).length + 1 -> catF (wfTo l f x0).length (fun (i : Nat) => [iv ((wfTo l f x0).getD i 0)]) (fun (j : Nat) => List.getD [[iv ((l.getD x0 default).frm.getD f 0)]] j (TI.za ti3)) i2 = [iv ((wfTo l f (x0 + 1)).getD i2 0)])
 (o12 : q90_2 l f fun x0 => x0 + 1 <= l.length)
 (o13 : q90_2 l f fun x0 => l.length - (x0 + 1) < l.length - x0)
 (o14 : q90_3 l f fun x0 => (wfTo l f x0).length = (wf l f).length)
 (o15 : q90_3 l f fun x0 => ∀ (i4 : Nat), i4 < (wfTo l f x0).length -> [iv ((wfTo l f x0).getD i4 0)] = [iv ((wf l f).getD i4 0)])
 (o16 : q90_3 l f fun x0 => 0 < (wf l f).length)
 (o17 : q90_3 l f fun x0 => (wf l f).length <= 65536)
 (o18 : q90_3 l f fun x0 => 0 < (sortI (wf l f)).length)
 (o19 : q90_3 l f fun x0 => (sortI (wf l f)).length <= 65536)
 (o20 : q90_3 l f fun x0 => (compactI (sortI (wf l f))).length = (whereP l f).length)
 (o21 : q90_3 l f fun x0 => ∀ (i8 : Nat), i8 < (whereP l f).length -> [iv ((compactI (sortI (wf l f))).getD i8 0)] = [iv ((whereP l f).getD i8 0)]) :
  Triple Try.prog 90 (s90 l f) := by
 refine triple_of Try.func90 rfl Try.call90 T0_ok _ rfl rfl rfl rfl (Nat.le_of_ble_eq_true (by kernel_rfl)) (fun _ _ _ _ h => h) ?_
 intro hp C hC _ hE
 obtain ⟨P, w0, E0, av, hA⟩ := C
 subst hC
 refine swp_seq ?_
 refine sR (kt := [0, 1]) (kh := []) (q := True /\ True) (st' := ASt.mk [(0, aWays l), (1, iv (f : Int))] [] 8) (by kernel_rfl) ⟨tv, tv⟩ ?_
 refine swp_seq ?_
 refine sR (kt := [0, 1, 5]) (kh := []) (q := True /\ True) (st' := ASt.mk [(0, aWays l), (1, iv (f : Int)), (5, nilv)] [] 16) (by kernel_rfl) ⟨tv, tv⟩ ?_
 refine swp_seq (swp_seq ?_)
 refine sR (kt := [1, 5, 8, 9, 10]) (kh := []) (q := True /\ True /\ True /\ True) (st' := ASt.mk [(1, iv (f : Int)), (5, nilv), (8, aWays l), (9, iv (↑(l.length) : Int)), (10, iv 0)] [] 40) (by kernel_rfl) ⟨tv, tv, tv, tv⟩ ?_
 refine swp_block ?_
 refine swp_loopA (Hint.ann (h90 l f) [(1, iv (f : Int)), (8, aWays l), (9, iv (↑(l.length) : Int))] [] 10040) (ent_q hE [] [(5000, .nil)] [1, 8, 9] [] (((iv (f : Int) = iv (f : Int) /\ true = true) /\ (aWays l = aWays l /\ true = true) /\ (iv (↑(l.length) : Int) = iv (↑(l.length) : Int) /\ true = true) /\ (iv 0 = iv (↑0 : Int) /\ nilN = []) /\ some Src.nil = some Src.nil /\ True) /\ ((wfTo l f 0).length = 0 /\ True) /\ T2) (by kernel_rfl) (by kernel_rfl) ⟨⟨⟨rfl, rfl⟩, ⟨rfl, rfl⟩, ⟨rfl, rfl⟩, ⟨(congrArg iv (o0 hp)), rfl⟩, rfl, tv⟩, ⟨(o1 hp), tv⟩, rfl, rfl⟩) (o2 hp) (fun (x0 : Nat) hx0 => ?_)
 refine swp_seq ?_
 refine sR (kt := [1, 8, 9, 10, 5, 11]) (kh := [5000]) (q := True /\ True) (st' := ASt.mk [(1, iv (f : Int)), (8, aWays l), (9, iv (↑(l.length) : Int)), (10, iv (x0 : Int)), (5, .vec 5000), (11, bv (decide ((x0 : Int) < (↑(l.length) : Int))))] [(5000, .vec 3 1 (wfTo l f x0).length fun (i : Nat) => [iv ((wfTo l f x0).getD i 0)])] 10048) (by kernel_rfl) ⟨tv, tv⟩ ?_
 refine swp_seq ?_
 refine swp_cond (decide ((x0 : Int) < (↑(l.length) : Int))) (by kernel_rfl) (fun h1 => ?_) (fun h1 => ?_)
 ·refine swp_skip (swp_seq (swp_block (swp_seq ?_)))
  refine sR (kt := [1, 8, 9, 10, 5, 7]) (kh := [5000, 10064]) (q := (0 <= (x0 : Int) /\ (x0 : Int) < (↑(l.length) : Int)) /\ True /\ True /\ True /\ True) (st' := ASt.mk [(1, iv (f : Int)), (8, aWays l), (9, iv (↑(l.length) : Int)), (10, iv (x0 : Int)), (5, .vec 5000), (7, .ptr 10064 [])] [(5000, .vec 3 1 (wfTo l f x0).length fun (i : Nat) => [iv ((wfTo l f x0).getD i 0)]), (10064, .cells 107 (cWay (l.getD x0 default)))] 10080) (by kernel_rfl) ⟨⟨(o3 hp x0 hx0 h1), (o4 hp x0 hx0 h1)⟩, tv, tv, tv, tv⟩ ?_
  refine sR (kt := [1, 8, 9, 10, 5]) (kh := [10136]) (q := True /\ True /\ True /\ True /\ (0 <= (f : Int) /\ (f : Int) < (↑((l.getD x0 default).frm.length) : Int)) /\ True /\ True /\ (wfTo l f x0).length + 1 <= 65536 /\ True /\ True) (st' := ASt.mk [(1, iv (f : Int)), (8, aWays l), (9, iv (↑(l.length) : Int)), (10, iv (x0 : Int)), (5, .vec 10136)] [(10136, .vec 3 1 ((wfTo l f x0).length + 1) (catF (wfTo l f x0).length (fun (i : Nat) => [iv ((wfTo l f x0).getD i 0)]) fun (j : Nat) => List.getD [[iv ((l.getD x0 default).frm.getD f 0)]] j (TI.za ti3)))] 10152) (by kernel_rfl) ⟨tv, tv, tv, tv, ⟨(o5 hp x0 hx0 h1), (o6 hp x0 hx0 h1)⟩, tv, tv, (o7 hp x0 hx0 h1), tv, tv⟩ ?_
  refine sR (kt := [1, 8, 9, 10, 5]) (kh := [10136]) (q := inI ((x0 : Int) + 1) /\ True /\ True) (st' := ASt.mk [(1, iv (f : Int)), (8, aWays l), (9, iv (↑(l.length) : Int)), (10, iv ((x0 : Int) + 1)), (5, .vec 10136)] [(10136, .vec 3 1 ((wfTo l f x0).length + 1) (catF (wfTo l f x0).length (fun (i : Nat) => [iv ((wfTo l f x0).getD i 0)]) fun (j : Nat) => List.getD [[iv ((l.getD x0 default).frm.getD f 0)]] j (TI.za ti3)))] 10168) (by kernel_rfl) ⟨(o8 hp x0 hx0 h1), tv, tv⟩ ?_
  exact loop_next (Hint.ann (h90 l f) [(1, iv (f : Int)), (8, aWays l), (9, iv (↑(l.length) : Int))] [] 10040) x0 (ent_q hE [] [(5000, .same 10136)] [1, 8, 9] [] (((iv (f : Int) = iv (f : Int) /\ true = true) /\ (aWays l = aWays l /\ true = true) /\ (iv (↑(l.length) : Int) = iv (↑(l.length) : Int) /\ true = true) /\ (iv ((x0 : Int) + 1) = iv (↑(x0 + 1) : Int) /\ nilN = []) /\ some (Src.same 10136) = some (Src.same 10136) /\ True) /\ ((3 = 3 /\ 1 = 1 /\ (wfTo l f x0).length + 1 = (wfTo l f (x0 + 1)).length /\ ∀ (i2 : Nat), i2 < (wfTo l f x0).length + 1 -> catF (wfTo l f x0).length (fun (i : Nat) => [iv ((wfTo l f x0).getD i 0)]) (fun (j : Nat) => List.getD [[iv ((l.getD x0 default).frm.getD f 0)]] j (TI.za ti3)) i2 = [iv ((wfTo l f (x0 + 1)).getD i2 0)]) /\ True) /\ T2) (by kernel_rfl) (by kernel_rfl) ⟨⟨⟨rfl, rfl⟩, ⟨rfl, rfl⟩, ⟨rfl, rfl⟩, ⟨(congrArg iv (o9 hp x0 hx0 h1)), rfl⟩, rfl, tv⟩, ⟨⟨rfl, rfl, (o10 hp x0 hx0 h1), (fun i2 => (fun h3 => (o11 hp x0 hx0 h1 i2 h3)))⟩, tv⟩, rfl, rfl⟩) (o12 hp x0 hx0 h1) (o13 hp x0 hx0 h1)
 ·refine swp_exit (swp_seq ?_)
  refine swp_ent (ent_q (st2 := ASt.mk [(1, iv (f : Int)), (8, aWays l), (9, iv (↑(l.length) : Int)), (10, iv (x0 : Int)), (5, AV.vec 5000), (11, bv (decide ((x0 : Int) < (↑(l.length) : Int))))] [(5000, OB.vec 3 1 (wf l f).length fun (i : Nat) => [iv ((wf l f).getD i 0)])] 10048) hE [] [(5000, .same 5000)] [1, 8, 9, 10, 11] [] (((iv (f : Int) = iv (f : Int) /\ true = true) /\ (aWays l = aWays l /\ true = true) /\ (iv (↑(l.length) : Int) = iv (↑(l.length) : Int) /\ true = true) /\ (iv (x0 : Int) = iv (x0 : Int) /\ true = true) /\ some (Src.same 5000) = some (Src.same 5000) /\ (bv (decide ((x0 : Int) < (↑(l.length) : Int))) = bv (decide ((x0 : Int) < (↑(l.length) : Int))) /\ true = true) /\ True) /\ ((3 = 3 /\ 1 = 1 /\ (wfTo l f x0).length = (wf l f).length /\ ∀ (i4 : Nat), i4 < (wfTo l f x0).length -> [iv ((wfTo l f x0).getD i4 0)] = [iv ((wf l f).getD i4 0)]) /\ True) /\ T2) (by kernel_rfl) (by kernel_rfl) ⟨⟨⟨rfl, rfl⟩, ⟨rfl, rfl⟩, ⟨rfl, rfl⟩, ⟨rfl, rfl⟩, rfl, ⟨rfl, rfl⟩, tv⟩, ⟨⟨rfl, rfl, (o14 hp x0 hx0 h1), (fun i4 => (fun h5 => (o15 hp x0 hx0 h1 i4 h5)))⟩, tv⟩, rfl, rfl⟩) ?_
  refine swp_region T0_ok mixed (cs := [(1, CallSpec.eq (c90a l f) [true])]) (kt := [5]) (kh := [5000]) (q := True /\ ((AV.vec 5000 = AV.vec 5000 /\ True) /\ Triple Try.prog 119 (c90a l f) /\ (0 < (wf l f).length /\ (wf l f).length <= 65536) /\ (some (OB.vec 3 1 (wf l f).length fun (i : Nat) => [iv ((wf l f).getD i 0)]) = some (OB.vec 3 1 (wf l f).length fun (i : Nat) => [iv ((wf l f).getD i 0)]) /\ True) /\ ∀ (i6 : Env), True) /\ True) (st' := ASt.mk [(5, .vec 5000)] [(5000, .vec 3 1 (sortI (wf l f)).length fun (i : Nat) => [iv ((sortI (wf l f)).getD i 0)])] 10064) (by kernel_rfl) ⟨tv, ⟨⟨rfl, tv⟩, (t119 _ _), ⟨(o16 hp x0 hx0 h1), (o17 hp x0 hx0 h1)⟩, ⟨rfl, tv⟩, (fun i6 => tv)⟩, tv⟩ ?_
  refine swp_seq ?_
  refine swp_region T0_ok mixed (cs := [(1, CallSpec.eq (c90b l f) [true])]) (kt := [4]) (kh := []) (q := True /\ ((AV.vec 5000 = AV.vec 5000 /\ True) /\ Triple Try.prog 120 (c90b l f) /\ (0 < (sortI (wf l f)).length /\ (sortI (wf l f)).length <= 65536) /\ (some (OB.vec 3 1 (sortI (wf l f)).length fun (i : Nat) => [iv ((sortI (wf l f)).getD i 0)]) = some (OB.vec 3 1 (sortI (wf l f)).length fun (i : Nat) => [iv ((sortI (wf l f)).getD i 0)]) /\ True) /\ ∀ (i7 : Env), True) /\ True /\ True) (st' := ASt.mk [(4, aInts (compactI (sortI (wf l f))))] [] 10088) (by kernel_rfl) ⟨tv, ⟨⟨rfl, tv⟩, (t120 _ _), ⟨(o18 hp x0 hx0 h1), (o19 hp x0 hx0 h1)⟩, ⟨rfl, tv⟩, (fun i7 => tv)⟩, tv, tv⟩ ?_
  refine swp_ret ?_
  exact ret_q [] ((True /\ True) /\ (1 = 1 /\ (compactI (sortI (wf l f))).length = (whereP l f).length /\ ∀ (i8 : Nat), i8 < (whereP l f).length -> [iv ((compactI (sortI (wf l f))).getD i8 0)] = [iv ((whereP l f).getD i8 0)]) /\ T3) (by kernel_rfl) ⟨⟨tv, tv⟩, ⟨rfl, (o20 hp x0 hx0 h1), (fun i8 => (fun h9 => (o21 hp x0 hx0 h1 i8 h9)))⟩, rfl, rfl, rfl⟩
theorem t90 (l : List WayS) (f : Nat) : Triple Try.prog 90 (s90 l f) := by
  have hs : (sortI (wf l f)).length = l.length := by rw [sortI_len, wf_len]
  have hw := wf_len l f
  apply w90
  all_goals (first
    | ((repeat intro _) <;> (try simp only [v0, v1, v2, v3, v4, v5, v6, v7, v8, v9, inI, fits, Go.Sh.small] at *) <;> first | (exact rfl) | omega | exact vz | (simp_all; done) | (simp_all; omega))
    | (intro hp x hx hl
       simp only [decide_eq_true_eq, decide_eq_false_iff_not] at hl
       have h1 := wfTo_len (l := l) (f := f) hx
       have h2 := hp.2.2 x
       first
       | omega
       | (rw [wfTo_succ (by omega), List.length_append]; rfl)
       | (intro i hi; rw [wfTo_succ (by omega)]; exact catF_one _ _ 0 (fun z => [iv z]) rfl (fun _ _ => rfl) rfl hi)
       | (rw [wfTo_full (by omega)]; done)
       | (intro i hi; rw [wfTo_full (by omega)])))
abbrev q35_1 (r : Run) (f : Int) (C : Prop) : Prop := fits r -> (!decide (openE r (isFound r f) = 0)) = false -> C
theorem w35 (r : Run) (f : Int)
 (o0 : fits r -> (!decide (openE r (isFound r f) = 0)) -> (whereS r f).length = 0)
 (o1 : q35_1 r f (f = (↑(f.toNat) : Int)))
 (o2 : q35_1 r f (0 < (openL r (isFound r f)).length))
 (o3 : q35_1 r f ((openL r (isFound r f)).length <= 729))
 (o4 : q35_1 r f (∀ (i3 : Nat), i3 < (openL r (isFound r f)).length -> f.toNat < ((openL r (isFound r f)).getD i3 default).frm.length))
 (o5 : q35_1 r f ((whereP (openL r (isFound r f)) f.toNat).length = (whereS r f).length))
 (o6 : q35_1 r f (∀ (i6 : Nat), i6 < (whereS r f).length -> [iv ((whereP (openL r (isFound r f)) f.toNat).getD i6 0)] = [iv ((whereS r f).getD i6 0)]))
 (o7 : q35_1 r f (0 = openE r (isFound r f))) :
  Triple Try.prog 35 (s35 r f) := by
 refine triple_of Try.func35 rfl Try.call35 T0_ok _ rfl rfl rfl rfl (Nat.le_of_ble_eq_true (by kernel_rfl)) (fun _ _ _ _ h => h) ?_
 intro hp C hC _ hE
 obtain ⟨P, w0, E0, av, hA⟩ := C
 subst hC
 refine swp_seq ?_
 refine sR (kt := [1, 2]) (kh := [0]) (q := True /\ True /\ True /\ True) (st' := ASt.mk [(1, iv f), (2, .ptr 0 [])] [(0, .cells 25 (cRun r))] 24) (by kernel_rfl) ⟨tv, tv, tv, tv⟩ ?_
 refine swp_seq ?_
 refine swp_region T0_ok mixed (cs := [(3, CallSpec.eq (s85 r f) [true, true]), (4, CallSpec.eq (c35o r f) [true, true])]) (kt := [1, 6, 7]) (kh := []) (q := True /\ True /\ True /\ ((AV.agg (cRun r) = AV.agg (cRun r) /\ iv f = iv f /\ True) /\ Triple Try.prog 85 (s85 r f) /\ fits r /\ True /\ ∀ (i0 : Env), True) /\ ((AV.agg (cRun r) = AV.agg (cRun r) /\ bv (isFound r f) = bv (isFound r f) /\ True) /\ Triple Try.prog 78 (c35o r f) /\ fits r /\ True /\ ∀ (i1 : Env), True) /\ True /\ True /\ True /\ True /\ True /\ True) (st' := ASt.mk [(1, iv f), (6, aWays (openL r (isFound r f))), (7, iv (openE r (isFound r f)))] [] 104) (by kernel_rfl) ⟨tv, tv, tv, ⟨⟨rfl, rfl, tv⟩, (t85 (r) (f)), hp, tv, (fun i0 => tv)⟩, ⟨⟨rfl, rfl, tv⟩, (t78 _ _), hp, tv, (fun i1 => tv)⟩, tv, tv, tv, tv, tv, tv⟩ ?_
 refine swp_seq (swp_seq ?_)
 refine sR (kt := [1, 6, 7, 17]) (kh := []) (q := True /\ True /\ True) (st' := ASt.mk [(1, iv f), (6, aWays (openL r (isFound r f))), (7, iv (openE r (isFound r f))), (17, bv !decide (openE r (isFound r f) = 0))] [] 120) (by kernel_rfl) ⟨tv, tv, tv⟩ ?_
 refine swp_cond (!decide (openE r (isFound r f) = 0)) (by kernel_rfl) (fun h2 => ?_) (fun h2 => ?_)
 ·refine swp_seq ?_
  refine sR (kt := [4, 5]) (kh := []) (q := True /\ True /\ True /\ True) (st' := ASt.mk [(4, nilv), (5, iv (openE r (isFound r f)))] [] 144) (by kernel_rfl) ⟨tv, tv, tv, tv⟩ ?_
  refine swp_ret ?_
  exact ret_q [] ((True /\ True /\ True) /\ ((whereS r f).length = 0 /\ (iv (openE r (isFound r f)) = iv (openE r (isFound r f)) /\ nilN = []) /\ True) /\ T3) (by kernel_rfl) ⟨⟨tv, tv, tv⟩, ⟨(o0 hp h2), ⟨rfl, rfl⟩, tv⟩, rfl, rfl, rfl⟩
 ·refine swp_skip (swp_seq ?_)
  refine swp_region T0_ok mixed (cs := [(2, CallSpec.eq (c35 r f) [true, false])]) (kt := [4, 5]) (kh := []) (q := True /\ True /\ ((aWays (openL r (isFound r f)) = aWays (openL r (isFound r f)) /\ iv f = iv (↑(f.toNat) : Int) /\ True) /\ Triple Try.prog 90 (c35 r f) /\ (0 < (openL r (isFound r f)).length /\ (openL r (isFound r f)).length <= 729 /\ ∀ (i3 : Nat), i3 < (openL r (isFound r f)).length -> f.toNat < ((openL r (isFound r f)).getD i3 default).frm.length) /\ True /\ ∀ (i5 : Env), True) /\ True /\ True /\ True) (st' := ASt.mk [(4, aInts (whereP (openL r (isFound r f)) f.toNat)), (5, iv 0)] [] 160) (by kernel_rfl) ⟨tv, tv, ⟨⟨rfl, (congrArg iv (o1 hp h2)), tv⟩, (t90 _ _), ⟨(o2 hp h2), (o3 hp h2), (fun i3 => (fun h4 => (o4 hp h2 i3 h4)))⟩, tv, (fun i5 => tv)⟩, tv, tv, tv⟩ ?_
  refine swp_ret ?_
  exact ret_q [] ((True /\ True /\ True) /\ ((1 = 1 /\ (whereP (openL r (isFound r f)) f.toNat).length = (whereS r f).length /\ ∀ (i6 : Nat), i6 < (whereS r f).length -> [iv ((whereP (openL r (isFound r f)) f.toNat).getD i6 0)] = [iv ((whereS r f).getD i6 0)]) /\ (iv 0 = iv (openE r (isFound r f)) /\ nilN = []) /\ True) /\ T3) (by kernel_rfl) ⟨⟨tv, tv, tv⟩, ⟨⟨rfl, (o5 hp h2), (fun i6 => (fun h7 => (o6 hp h2 i6 h7)))⟩, ⟨(congrArg iv (o7 hp h2)), rfl⟩, tv⟩, rfl, rfl, rfl⟩
theorem t35 (r : Run) (f : Int) : Triple Try.prog 35 (s35 r f) := by
  apply w35
  all_goals (first
    | ((repeat intro _) <;> (try simp only [v0, v1, v2, v3, v4, v5, v6, v7, v8, v9, inI, fits, Go.Sh.small] at *) <;> first | (exact rfl) | omega | exact vz | (simp_all; done) | (simp_all; omega))
    | (intro _ h; rw [whereS, if_neg (openBad h)] <;> rfl)
    | (intro _ h
       have F := openF h
       have h1 : 0 <= f /\ f < r.found.length := by have := F.isT; simp only [isFound, Go.Sh.within_iff] at this; omega
       have h2 := F.len
       have h3 := F.pos
       first
       | exact F.zero.symm
       | omega
       | (intro x hx; rw [F.frm x hx]; omega)
       | (rw [whereS, if_pos F.zero, F.eq]; done)
       | (intro x hx; rw [whereS, if_pos F.zero, F.eq])))
end Go.Ab
