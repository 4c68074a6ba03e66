/-
  No cell of these rows narrows 'for every input' (looked for: loops, veiled, ifaces, maps, wideKeys, modest, calm, conditions, laid).
  DERIVED. THE GIVEN ROWS OF THIS SEAT. 15 by the template 'for every input the law returns true; each argument reads behind the call as it read before'; 0 by the template 'total and deterministic' (their statements: YtpnmalddfpjcoaaTotals.lean).
  GIVEN WITH THE SEED: the statements are not yours to turn. If you find one false, say at which input.
  Laid BY PROGRAM, IN A SANDBOX (cutbox-rows.mjs): the forced cells as the released guide's own fill.sh prints them over the translation c921c4cf89f0efd7… (all of the seat's roots in one cut). By AI agents, Wed Nov 11 2026. No macro, syntax, notation, axiom, sorry.
-/
import Derived.Test.YtpnmalddfpjcoaaChecked
import GoSem.Claim
import GoSem.ClaimJoined
import GoSem.ClaimMapViews
import Derived.JoinedTies
import Derived.KernelRfl
namespace Go.Proofs.Ytpnmalddfpjcoaa
/- THE CELL 'sum', in the pinned program and in every row, IS THE sha256 OF THE DUMP (.gsa) THAT YtpnmalddfpjcoaaProg.lean LOADS. Nothing in Lean hashes anything: it is a label: what it is worth is what the hold of that sum in a sandbox is worth. -/
noncomputable def Try.pinned : Pinned := { name := "ytpnmalddfpjcoaa", sum := "c921c4cf89f0efd704e24fb1755ab9bc49c20b9d195e0f73fd01c39339c92c15", checked := Try.checked }
namespace Rows
def none {H : Type} : Left H := { results := [], args := [] }

/-- 'flonglaw03.PagesRoom': WHATEVER THE INPUT: true; the input reads as it did. -/
def pagesRoomSpec : ChangeSpec := { name := "pagesRoom", fn := fun _ => fun
  | [d1, d2] => { results := [.lit (.bool true)], args := [d1, d2] }
  | _ => none }
def pagesRoomRow : OpenClaim := { program := "ytpnmalddfpjcoaa", sum := "c921c4cf89f0efd704e24fb1755ab9bc49c20b9d195e0f73fd01c39339c92c15", func := "flong/flonglaw03.PagesRoom", spec := "pagesRoom", unfollowed := true, recurses := true, apart := false }
def PagesRoomSaid : Prop := pagesRoomRow.holds Try.pinned (OpenSpec.ofChange pagesRoomSpec)

/-- ITS FALSE NEIGHBOUR: 'it returns false'. Refute it at one input. -/
def pagesRoomWrong : ChangeSpec := { name := "pagesRoom", fn := fun _ => fun
  | [d1, d2] => { results := [.lit (.bool false)], args := [d1, d2] }
  | _ => none }
def PagesRoomWrongFalsely : Prop := pagesRoomRow.holds Try.pinned (OpenSpec.ofChange pagesRoomWrong)

/-- 'flonglaw03.PagesGrown': WHATEVER THE INPUT: true; the input reads as it did. -/
def pagesGrownSpec : ChangeSpec := { name := "pagesGrown", fn := fun _ => fun
  | [d1, d2] => { results := [.lit (.bool true)], args := [d1, d2] }
  | _ => none }
def pagesGrownRow : OpenClaim := { program := "ytpnmalddfpjcoaa", sum := "c921c4cf89f0efd704e24fb1755ab9bc49c20b9d195e0f73fd01c39339c92c15", func := "flong/flonglaw03.PagesGrown", spec := "pagesGrown", unfollowed := true, recurses := true, apart := false }
def PagesGrownSaid : Prop := pagesGrownRow.holds Try.pinned (OpenSpec.ofChange pagesGrownSpec)

/-- ITS FALSE NEIGHBOUR: 'it returns false'. Refute it at one input. -/
def pagesGrownWrong : ChangeSpec := { name := "pagesGrown", fn := fun _ => fun
  | [d1, d2] => { results := [.lit (.bool false)], args := [d1, d2] }
  | _ => none }
def PagesGrownWrongFalsely : Prop := pagesGrownRow.holds Try.pinned (OpenSpec.ofChange pagesGrownWrong)

/-- 'flonglaw03.PagesFits': WHATEVER THE INPUT: true; the input reads as it did. -/
def pagesFitsSpec : ChangeSpec := { name := "pagesFits", fn := fun _ => fun
  | [d1, d2, d3] => { results := [.lit (.bool true)], args := [d1, d2, d3] }
  | _ => none }
def pagesFitsRow : OpenClaim := { program := "ytpnmalddfpjcoaa", sum := "c921c4cf89f0efd704e24fb1755ab9bc49c20b9d195e0f73fd01c39339c92c15", func := "flong/flonglaw03.PagesFits", spec := "pagesFits", unfollowed := true, recurses := true, apart := false }
def PagesFitsSaid : Prop := pagesFitsRow.holds Try.pinned (OpenSpec.ofChange pagesFitsSpec)

/-- ITS FALSE NEIGHBOUR: 'it returns false'. Refute it at one input. -/
def pagesFitsWrong : ChangeSpec := { name := "pagesFits", fn := fun _ => fun
  | [d1, d2, d3] => { results := [.lit (.bool false)], args := [d1, d2, d3] }
  | _ => none }
def PagesFitsWrongFalsely : Prop := pagesFitsRow.holds Try.pinned (OpenSpec.ofChange pagesFitsWrong)

/-- 'flonglaw03.PagesRefuse': WHATEVER THE INPUT: true; the input reads as it did. -/
def pagesRefuseSpec : ChangeSpec := { name := "pagesRefuse", fn := fun _ => fun
  | [d] => { results := [.lit (.bool true)], args := [d] }
  | _ => none }
def pagesRefuseRow : OpenClaim := { program := "ytpnmalddfpjcoaa", sum := "c921c4cf89f0efd704e24fb1755ab9bc49c20b9d195e0f73fd01c39339c92c15", func := "flong/flonglaw03.PagesRefuse", spec := "pagesRefuse", unfollowed := true, recurses := true, apart := false }
def PagesRefuseSaid : Prop := pagesRefuseRow.holds Try.pinned (OpenSpec.ofChange pagesRefuseSpec)

/-- ITS FALSE NEIGHBOUR: 'it returns false'. Refute it at one input. -/
def pagesRefuseWrong : ChangeSpec := { name := "pagesRefuse", fn := fun _ => fun
  | [d] => { results := [.lit (.bool false)], args := [d] }
  | _ => none }
def PagesRefuseWrongFalsely : Prop := pagesRefuseRow.holds Try.pinned (OpenSpec.ofChange pagesRefuseWrong)

/-- 'flonglaw03.PagesClearer': WHATEVER THE INPUT: true; the input reads as it did. -/
def pagesClearerSpec : ChangeSpec := { name := "pagesClearer", fn := fun _ => fun
  | [d1, d2, d3] => { results := [.lit (.bool true)], args := [d1, d2, d3] }
  | _ => none }
def pagesClearerRow : OpenClaim := { program := "ytpnmalddfpjcoaa", sum := "c921c4cf89f0efd704e24fb1755ab9bc49c20b9d195e0f73fd01c39339c92c15", func := "flong/flonglaw03.PagesClearer", spec := "pagesClearer", unfollowed := true, recurses := true, apart := false }
def PagesClearerSaid : Prop := pagesClearerRow.holds Try.pinned (OpenSpec.ofChange pagesClearerSpec)

/-- ITS FALSE NEIGHBOUR: 'it returns false'. Refute it at one input. -/
def pagesClearerWrong : ChangeSpec := { name := "pagesClearer", fn := fun _ => fun
  | [d1, d2, d3] => { results := [.lit (.bool false)], args := [d1, d2, d3] }
  | _ => none }
def PagesClearerWrongFalsely : Prop := pagesClearerRow.holds Try.pinned (OpenSpec.ofChange pagesClearerWrong)

/-- 'flonglaw03.PagesMore': WHATEVER THE INPUT: true; the input reads as it did. -/
def pagesMoreSpec : ChangeSpec := { name := "pagesMore", fn := fun _ => fun
  | [d1, d2, d3] => { results := [.lit (.bool true)], args := [d1, d2, d3] }
  | _ => none }
def pagesMoreRow : OpenClaim := { program := "ytpnmalddfpjcoaa", sum := "c921c4cf89f0efd704e24fb1755ab9bc49c20b9d195e0f73fd01c39339c92c15", func := "flong/flonglaw03.PagesMore", spec := "pagesMore", unfollowed := true, recurses := true, apart := false }
def PagesMoreSaid : Prop := pagesMoreRow.holds Try.pinned (OpenSpec.ofChange pagesMoreSpec)

/-- ITS FALSE NEIGHBOUR: 'it returns false'. Refute it at one input. -/
def pagesMoreWrong : ChangeSpec := { name := "pagesMore", fn := fun _ => fun
  | [d1, d2, d3] => { results := [.lit (.bool false)], args := [d1, d2, d3] }
  | _ => none }
def PagesMoreWrongFalsely : Prop := pagesMoreRow.holds Try.pinned (OpenSpec.ofChange pagesMoreWrong)

/-- 'flonglaw03.PagesRefused': WHATEVER THE INPUT: true; the input reads as it did. -/
def pagesRefusedSpec : ChangeSpec := { name := "pagesRefused", fn := fun _ => fun
  | [d1, d2] => { results := [.lit (.bool true)], args := [d1, d2] }
  | _ => none }
def pagesRefusedRow : OpenClaim := { program := "ytpnmalddfpjcoaa", sum := "c921c4cf89f0efd704e24fb1755ab9bc49c20b9d195e0f73fd01c39339c92c15", func := "flong/flonglaw03.PagesRefused", spec := "pagesRefused", unfollowed := true, recurses := true, apart := false }
def PagesRefusedSaid : Prop := pagesRefusedRow.holds Try.pinned (OpenSpec.ofChange pagesRefusedSpec)

/-- ITS FALSE NEIGHBOUR: 'it returns false'. Refute it at one input. -/
def pagesRefusedWrong : ChangeSpec := { name := "pagesRefused", fn := fun _ => fun
  | [d1, d2] => { results := [.lit (.bool false)], args := [d1, d2] }
  | _ => none }
def PagesRefusedWrongFalsely : Prop := pagesRefusedRow.holds Try.pinned (OpenSpec.ofChange pagesRefusedWrong)

/-- 'flongtop.TopStrips': WHATEVER THE INPUT: true; the input reads as it did. -/
def topStripsSpec : ChangeSpec := { name := "topStrips", fn := fun _ => fun
  | [d1, d2, d3] => { results := [.lit (.bool true)], args := [d1, d2, d3] }
  | _ => none }
def topStripsRow : OpenClaim := { program := "ytpnmalddfpjcoaa", sum := "c921c4cf89f0efd704e24fb1755ab9bc49c20b9d195e0f73fd01c39339c92c15", func := "flong/flongtop.TopStrips", spec := "topStrips", unfollowed := true, recurses := true, apart := false }
def TopStripsSaid : Prop := topStripsRow.holds Try.pinned (OpenSpec.ofChange topStripsSpec)

/-- ITS FALSE NEIGHBOUR: 'it returns false'. Refute it at one input. -/
def topStripsWrong : ChangeSpec := { name := "topStrips", fn := fun _ => fun
  | [d1, d2, d3] => { results := [.lit (.bool false)], args := [d1, d2, d3] }
  | _ => none }
def TopStripsWrongFalsely : Prop := topStripsRow.holds Try.pinned (OpenSpec.ofChange topStripsWrong)

/-- 'flonglaw03.PagesOrder': WHATEVER THE INPUT: true; the input reads as it did. -/
def pagesOrderSpec : ChangeSpec := { name := "pagesOrder", fn := fun _ => fun
  | [d1, d2, d3] => { results := [.lit (.bool true)], args := [d1, d2, d3] }
  | _ => none }
def pagesOrderRow : OpenClaim := { program := "ytpnmalddfpjcoaa", sum := "c921c4cf89f0efd704e24fb1755ab9bc49c20b9d195e0f73fd01c39339c92c15", func := "flong/flonglaw03.PagesOrder", spec := "pagesOrder", unfollowed := true, recurses := true, apart := false }
def PagesOrderSaid : Prop := pagesOrderRow.holds Try.pinned (OpenSpec.ofChange pagesOrderSpec)

/-- ITS FALSE NEIGHBOUR: 'it returns false'. Refute it at one input. -/
def pagesOrderWrong : ChangeSpec := { name := "pagesOrder", fn := fun _ => fun
  | [d1, d2, d3] => { results := [.lit (.bool false)], args := [d1, d2, d3] }
  | _ => none }
def PagesOrderWrongFalsely : Prop := pagesOrderRow.holds Try.pinned (OpenSpec.ofChange pagesOrderWrong)

/-- 'flonglaw03.PagesGap': WHATEVER THE INPUT: true; the input reads as it did. -/
def pagesGapSpec : ChangeSpec := { name := "pagesGap", fn := fun _ => fun
  | [d1, d2, d3] => { results := [.lit (.bool true)], args := [d1, d2, d3] }
  | _ => none }
def pagesGapRow : OpenClaim := { program := "ytpnmalddfpjcoaa", sum := "c921c4cf89f0efd704e24fb1755ab9bc49c20b9d195e0f73fd01c39339c92c15", func := "flong/flonglaw03.PagesGap", spec := "pagesGap", unfollowed := true, recurses := true, apart := false }
def PagesGapSaid : Prop := pagesGapRow.holds Try.pinned (OpenSpec.ofChange pagesGapSpec)

/-- ITS FALSE NEIGHBOUR: 'it returns false'. Refute it at one input. -/
def pagesGapWrong : ChangeSpec := { name := "pagesGap", fn := fun _ => fun
  | [d1, d2, d3] => { results := [.lit (.bool false)], args := [d1, d2, d3] }
  | _ => none }
def PagesGapWrongFalsely : Prop := pagesGapRow.holds Try.pinned (OpenSpec.ofChange pagesGapWrong)

/-- 'flonglaw03.PagesTops': WHATEVER THE INPUT: true; the input reads as it did. -/
def pagesTopsSpec : ChangeSpec := { name := "pagesTops", fn := fun _ => fun
  | [d1, d2, d3] => { results := [.lit (.bool true)], args := [d1, d2, d3] }
  | _ => none }
def pagesTopsRow : OpenClaim := { program := "ytpnmalddfpjcoaa", sum := "c921c4cf89f0efd704e24fb1755ab9bc49c20b9d195e0f73fd01c39339c92c15", func := "flong/flonglaw03.PagesTops", spec := "pagesTops", unfollowed := true, recurses := true, apart := false }
def PagesTopsSaid : Prop := pagesTopsRow.holds Try.pinned (OpenSpec.ofChange pagesTopsSpec)

/-- ITS FALSE NEIGHBOUR: 'it returns false'. Refute it at one input. -/
def pagesTopsWrong : ChangeSpec := { name := "pagesTops", fn := fun _ => fun
  | [d1, d2, d3] => { results := [.lit (.bool false)], args := [d1, d2, d3] }
  | _ => none }
def PagesTopsWrongFalsely : Prop := pagesTopsRow.holds Try.pinned (OpenSpec.ofChange pagesTopsWrong)

/-- 'flonglaw03.PagesTaken': WHATEVER THE INPUT: true; the input reads as it did. -/
def pagesTakenSpec : ChangeSpec := { name := "pagesTaken", fn := fun _ => fun
  | [d1, d2, d3] => { results := [.lit (.bool true)], args := [d1, d2, d3] }
  | _ => none }
def pagesTakenRow : OpenClaim := { program := "ytpnmalddfpjcoaa", sum := "c921c4cf89f0efd704e24fb1755ab9bc49c20b9d195e0f73fd01c39339c92c15", func := "flong/flonglaw03.PagesTaken", spec := "pagesTaken", unfollowed := true, recurses := true, apart := false }
def PagesTakenSaid : Prop := pagesTakenRow.holds Try.pinned (OpenSpec.ofChange pagesTakenSpec)

/-- ITS FALSE NEIGHBOUR: 'it returns false'. Refute it at one input. -/
def pagesTakenWrong : ChangeSpec := { name := "pagesTaken", fn := fun _ => fun
  | [d1, d2, d3] => { results := [.lit (.bool false)], args := [d1, d2, d3] }
  | _ => none }
def PagesTakenWrongFalsely : Prop := pagesTakenRow.holds Try.pinned (OpenSpec.ofChange pagesTakenWrong)

/-- 'flonglaw03.PagesEach': WHATEVER THE INPUT: true; the input reads as it did. -/
def pagesEachSpec : ChangeSpec := { name := "pagesEach", fn := fun _ => fun
  | [d1, d2, d3] => { results := [.lit (.bool true)], args := [d1, d2, d3] }
  | _ => none }
def pagesEachRow : OpenClaim := { program := "ytpnmalddfpjcoaa", sum := "c921c4cf89f0efd704e24fb1755ab9bc49c20b9d195e0f73fd01c39339c92c15", func := "flong/flonglaw03.PagesEach", spec := "pagesEach", unfollowed := true, recurses := true, apart := false }
def PagesEachSaid : Prop := pagesEachRow.holds Try.pinned (OpenSpec.ofChange pagesEachSpec)

/-- ITS FALSE NEIGHBOUR: 'it returns false'. Refute it at one input. -/
def pagesEachWrong : ChangeSpec := { name := "pagesEach", fn := fun _ => fun
  | [d1, d2, d3] => { results := [.lit (.bool false)], args := [d1, d2, d3] }
  | _ => none }
def PagesEachWrongFalsely : Prop := pagesEachRow.holds Try.pinned (OpenSpec.ofChange pagesEachWrong)

/-- 'flonglaw03.PagesBest': WHATEVER THE INPUT: true; the input reads as it did. -/
def pagesBestSpec : ChangeSpec := { name := "pagesBest", fn := fun _ => fun
  | [d1, d2] => { results := [.lit (.bool true)], args := [d1, d2] }
  | _ => none }
def pagesBestRow : OpenClaim := { program := "ytpnmalddfpjcoaa", sum := "c921c4cf89f0efd704e24fb1755ab9bc49c20b9d195e0f73fd01c39339c92c15", func := "flong/flonglaw03.PagesBest", spec := "pagesBest", unfollowed := true, recurses := true, apart := false }
def PagesBestSaid : Prop := pagesBestRow.holds Try.pinned (OpenSpec.ofChange pagesBestSpec)

/-- ITS FALSE NEIGHBOUR: 'it returns false'. Refute it at one input. -/
def pagesBestWrong : ChangeSpec := { name := "pagesBest", fn := fun _ => fun
  | [d1, d2] => { results := [.lit (.bool false)], args := [d1, d2] }
  | _ => none }
def PagesBestWrongFalsely : Prop := pagesBestRow.holds Try.pinned (OpenSpec.ofChange pagesBestWrong)

/-- 'flonglaw03.PagesLock': WHATEVER THE INPUT: true; the input reads as it did. -/
def pagesLockSpec : ChangeSpec := { name := "pagesLock", fn := fun _ => fun
  | [d1, d2, d3] => { results := [.lit (.bool true)], args := [d1, d2, d3] }
  | _ => none }
def pagesLockRow : OpenClaim := { program := "ytpnmalddfpjcoaa", sum := "c921c4cf89f0efd704e24fb1755ab9bc49c20b9d195e0f73fd01c39339c92c15", func := "flong/flonglaw03.PagesLock", spec := "pagesLock", unfollowed := true, recurses := true, apart := false }
def PagesLockSaid : Prop := pagesLockRow.holds Try.pinned (OpenSpec.ofChange pagesLockSpec)

/-- ITS FALSE NEIGHBOUR: 'it returns false'. Refute it at one input. -/
def pagesLockWrong : ChangeSpec := { name := "pagesLock", fn := fun _ => fun
  | [d1, d2, d3] => { results := [.lit (.bool false)], args := [d1, d2, d3] }
  | _ => none }
def PagesLockWrongFalsely : Prop := pagesLockRow.holds Try.pinned (OpenSpec.ofChange pagesLockWrong)

/- THE SECOND FORM. 'bulk': how many values and letters a reading holds, each counted each time it is reached (what is shared counts as often as it is met; a slice's spare places count too). A statement '..UptoSaid' is the law's where the arguments, and the package variables that the reading takes, are together of bulk at most 1048576: NARROWER than '..Said'. Prove '..Said' where nothing that the law and all that it calls make is longer than what came in: it says more and counts as full. Else prove '..UptoSaid'. A law counts once. -/
mutual
def uptoBulk {H : Type} : DataW H → Nat
  | .lit (.string bytes) => bytes.length + 1
  | .lit _ => 1
  | .nil => 1
  | .ptr d => uptoBulk d + 1
  | .slice elems spare => uptoBulkAll elems + uptoBulkAll spare + 1
  | .agg parts => uptoBulkAll parts + 1
  | .iface _ d => uptoBulk d + 1
  | .map entries => uptoBulkEntries entries + 1
  | .held _ => 1
def uptoBulkAll {H : Type} : List (DataW H) → Nat
  | [] => 0
  | d :: r => uptoBulk d + uptoBulkAll r
def uptoBulkEntries {H : Type} : List (Lit × DataW H) → Nat
  | [] => 0
  | x :: r => uptoBulkEntry x + uptoBulkEntries r
def uptoBulkEntry {H : Type} : Lit × DataW H → Nat
  | (.string bytes, d) => bytes.length + uptoBulk d + 1
  | (_, d) => uptoBulk d + 1
 end
def uptoSmall : (H : Type) → List (DataW H) → Bool := fun _ ds => decide (uptoBulkAll ds ≤ 1048576)
def OpenSpec.upto (s : _root_.Go.ChangeSpec) : _root_.Go.OpenSpec := { _root_.Go.OpenSpec.ofChange s with cond := some uptoSmall }

/-- 'flonglaw03.PagesRoom', WHERE WHAT IT READS IS OF BULK AT MOST 1048576: true; the input reads as it did. -/
def pagesRoomUptoRow : OpenClaim := { program := "ytpnmalddfpjcoaa", sum := "c921c4cf89f0efd704e24fb1755ab9bc49c20b9d195e0f73fd01c39339c92c15", func := "flong/flonglaw03.PagesRoom", spec := "pagesRoom", unfollowed := true, recurses := true, apart := false, narrowed := true }
def PagesRoomUptoSaid : Prop := pagesRoomUptoRow.holds Try.pinned (OpenSpec.upto pagesRoomSpec)

/-- 'flonglaw03.PagesGrown', WHERE WHAT IT READS IS OF BULK AT MOST 1048576: true; the input reads as it did. -/
def pagesGrownUptoRow : OpenClaim := { program := "ytpnmalddfpjcoaa", sum := "c921c4cf89f0efd704e24fb1755ab9bc49c20b9d195e0f73fd01c39339c92c15", func := "flong/flonglaw03.PagesGrown", spec := "pagesGrown", unfollowed := true, recurses := true, apart := false, narrowed := true }
def PagesGrownUptoSaid : Prop := pagesGrownUptoRow.holds Try.pinned (OpenSpec.upto pagesGrownSpec)

/-- 'flonglaw03.PagesFits', WHERE WHAT IT READS IS OF BULK AT MOST 1048576: true; the input reads as it did. -/
def pagesFitsUptoRow : OpenClaim := { program := "ytpnmalddfpjcoaa", sum := "c921c4cf89f0efd704e24fb1755ab9bc49c20b9d195e0f73fd01c39339c92c15", func := "flong/flonglaw03.PagesFits", spec := "pagesFits", unfollowed := true, recurses := true, apart := false, narrowed := true }
def PagesFitsUptoSaid : Prop := pagesFitsUptoRow.holds Try.pinned (OpenSpec.upto pagesFitsSpec)

/-- 'flonglaw03.PagesRefuse', WHERE WHAT IT READS IS OF BULK AT MOST 1048576: true; the input reads as it did. -/
def pagesRefuseUptoRow : OpenClaim := { program := "ytpnmalddfpjcoaa", sum := "c921c4cf89f0efd704e24fb1755ab9bc49c20b9d195e0f73fd01c39339c92c15", func := "flong/flonglaw03.PagesRefuse", spec := "pagesRefuse", unfollowed := true, recurses := true, apart := false, narrowed := true }
def PagesRefuseUptoSaid : Prop := pagesRefuseUptoRow.holds Try.pinned (OpenSpec.upto pagesRefuseSpec)

/-- 'flonglaw03.PagesClearer', WHERE WHAT IT READS IS OF BULK AT MOST 1048576: true; the input reads as it did. -/
def pagesClearerUptoRow : OpenClaim := { program := "ytpnmalddfpjcoaa", sum := "c921c4cf89f0efd704e24fb1755ab9bc49c20b9d195e0f73fd01c39339c92c15", func := "flong/flonglaw03.PagesClearer", spec := "pagesClearer", unfollowed := true, recurses := true, apart := false, narrowed := true }
def PagesClearerUptoSaid : Prop := pagesClearerUptoRow.holds Try.pinned (OpenSpec.upto pagesClearerSpec)

/-- 'flonglaw03.PagesMore', WHERE WHAT IT READS IS OF BULK AT MOST 1048576: true; the input reads as it did. -/
def pagesMoreUptoRow : OpenClaim := { program := "ytpnmalddfpjcoaa", sum := "c921c4cf89f0efd704e24fb1755ab9bc49c20b9d195e0f73fd01c39339c92c15", func := "flong/flonglaw03.PagesMore", spec := "pagesMore", unfollowed := true, recurses := true, apart := false, narrowed := true }
def PagesMoreUptoSaid : Prop := pagesMoreUptoRow.holds Try.pinned (OpenSpec.upto pagesMoreSpec)

/-- 'flonglaw03.PagesRefused', WHERE WHAT IT READS IS OF BULK AT MOST 1048576: true; the input reads as it did. -/
def pagesRefusedUptoRow : OpenClaim := { program := "ytpnmalddfpjcoaa", sum := "c921c4cf89f0efd704e24fb1755ab9bc49c20b9d195e0f73fd01c39339c92c15", func := "flong/flonglaw03.PagesRefused", spec := "pagesRefused", unfollowed := true, recurses := true, apart := false, narrowed := true }
def PagesRefusedUptoSaid : Prop := pagesRefusedUptoRow.holds Try.pinned (OpenSpec.upto pagesRefusedSpec)

/-- 'flongtop.TopStrips', WHERE WHAT IT READS IS OF BULK AT MOST 1048576: true; the input reads as it did. -/
def topStripsUptoRow : OpenClaim := { program := "ytpnmalddfpjcoaa", sum := "c921c4cf89f0efd704e24fb1755ab9bc49c20b9d195e0f73fd01c39339c92c15", func := "flong/flongtop.TopStrips", spec := "topStrips", unfollowed := true, recurses := true, apart := false, narrowed := true }
def TopStripsUptoSaid : Prop := topStripsUptoRow.holds Try.pinned (OpenSpec.upto topStripsSpec)

/-- 'flonglaw03.PagesOrder', WHERE WHAT IT READS IS OF BULK AT MOST 1048576: true; the input reads as it did. -/
def pagesOrderUptoRow : OpenClaim := { program := "ytpnmalddfpjcoaa", sum := "c921c4cf89f0efd704e24fb1755ab9bc49c20b9d195e0f73fd01c39339c92c15", func := "flong/flonglaw03.PagesOrder", spec := "pagesOrder", unfollowed := true, recurses := true, apart := false, narrowed := true }
def PagesOrderUptoSaid : Prop := pagesOrderUptoRow.holds Try.pinned (OpenSpec.upto pagesOrderSpec)

/-- 'flonglaw03.PagesGap', WHERE WHAT IT READS IS OF BULK AT MOST 1048576: true; the input reads as it did. -/
def pagesGapUptoRow : OpenClaim := { program := "ytpnmalddfpjcoaa", sum := "c921c4cf89f0efd704e24fb1755ab9bc49c20b9d195e0f73fd01c39339c92c15", func := "flong/flonglaw03.PagesGap", spec := "pagesGap", unfollowed := true, recurses := true, apart := false, narrowed := true }
def PagesGapUptoSaid : Prop := pagesGapUptoRow.holds Try.pinned (OpenSpec.upto pagesGapSpec)

/-- 'flonglaw03.PagesTops', WHERE WHAT IT READS IS OF BULK AT MOST 1048576: true; the input reads as it did. -/
def pagesTopsUptoRow : OpenClaim := { program := "ytpnmalddfpjcoaa", sum := "c921c4cf89f0efd704e24fb1755ab9bc49c20b9d195e0f73fd01c39339c92c15", func := "flong/flonglaw03.PagesTops", spec := "pagesTops", unfollowed := true, recurses := true, apart := false, narrowed := true }
def PagesTopsUptoSaid : Prop := pagesTopsUptoRow.holds Try.pinned (OpenSpec.upto pagesTopsSpec)

/-- 'flonglaw03.PagesTaken', WHERE WHAT IT READS IS OF BULK AT MOST 1048576: true; the input reads as it did. -/
def pagesTakenUptoRow : OpenClaim := { program := "ytpnmalddfpjcoaa", sum := "c921c4cf89f0efd704e24fb1755ab9bc49c20b9d195e0f73fd01c39339c92c15", func := "flong/flonglaw03.PagesTaken", spec := "pagesTaken", unfollowed := true, recurses := true, apart := false, narrowed := true }
def PagesTakenUptoSaid : Prop := pagesTakenUptoRow.holds Try.pinned (OpenSpec.upto pagesTakenSpec)

/-- 'flonglaw03.PagesEach', WHERE WHAT IT READS IS OF BULK AT MOST 1048576: true; the input reads as it did. -/
def pagesEachUptoRow : OpenClaim := { program := "ytpnmalddfpjcoaa", sum := "c921c4cf89f0efd704e24fb1755ab9bc49c20b9d195e0f73fd01c39339c92c15", func := "flong/flonglaw03.PagesEach", spec := "pagesEach", unfollowed := true, recurses := true, apart := false, narrowed := true }
def PagesEachUptoSaid : Prop := pagesEachUptoRow.holds Try.pinned (OpenSpec.upto pagesEachSpec)

/-- 'flonglaw03.PagesBest', WHERE WHAT IT READS IS OF BULK AT MOST 1048576: true; the input reads as it did. -/
def pagesBestUptoRow : OpenClaim := { program := "ytpnmalddfpjcoaa", sum := "c921c4cf89f0efd704e24fb1755ab9bc49c20b9d195e0f73fd01c39339c92c15", func := "flong/flonglaw03.PagesBest", spec := "pagesBest", unfollowed := true, recurses := true, apart := false, narrowed := true }
def PagesBestUptoSaid : Prop := pagesBestUptoRow.holds Try.pinned (OpenSpec.upto pagesBestSpec)

/-- 'flonglaw03.PagesLock', WHERE WHAT IT READS IS OF BULK AT MOST 1048576: true; the input reads as it did. -/
def pagesLockUptoRow : OpenClaim := { program := "ytpnmalddfpjcoaa", sum := "c921c4cf89f0efd704e24fb1755ab9bc49c20b9d195e0f73fd01c39339c92c15", func := "flong/flonglaw03.PagesLock", spec := "pagesLock", unfollowed := true, recurses := true, apart := false, narrowed := true }
def PagesLockUptoSaid : Prop := pagesLockUptoRow.holds Try.pinned (OpenSpec.upto pagesLockSpec)

end Rows
end Go.Proofs.Ytpnmalddfpjcoaa
