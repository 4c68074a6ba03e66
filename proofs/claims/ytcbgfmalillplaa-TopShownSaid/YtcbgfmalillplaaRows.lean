/-
  No cell of these rows narrows 'for every input' (looked for: loops, veiled, ifaces, maps, wideKeys, modest, calm, conditions, laid).
  DERIVED. THE GIVEN ROWS OF THIS SEAT. 14 by the template 'for every input the law returns true; each argument reads behind the call as it read before'; 0 by the template 'total and deterministic' (their statements: YtcbgfmalillplaaTotals.lean).
  GIVEN WITH THE SEED: the statements are not yours to turn. If you find one false, say at which input.
  Laid BY PROGRAM, IN A SANDBOX (cutbox-rows.mjs): the forced cells as the released guide's own fill.sh prints them over the translation a0d3079a86154571… (all of the seat's roots in one cut). By AI agents, Wed Nov 11 2026. No macro, syntax, notation, axiom, sorry.
-/
import Derived.Test.YtcbgfmalillplaaChecked
import GoSem.Claim
import GoSem.ClaimJoined
import GoSem.ClaimMapViews
import Derived.JoinedTies
import Derived.KernelRfl
namespace Go.Proofs.Ytcbgfmalillplaa
/- THE CELL 'sum', in the pinned program and in every row, IS THE sha256 OF THE DUMP (.gsa) THAT YtcbgfmalillplaaProg.lean LOADS. Nothing in Lean hashes anything: it is a label: what it is worth is what the hold of that sum in a sandbox is worth. -/
noncomputable def Try.pinned : Pinned := { name := "ytcbgfmalillplaa", sum := "a0d3079a861545715087c7b7f307ed8ffdc0f9ea93cf33c392ed195cb038e7f1", checked := Try.checked }
namespace Rows
def none {H : Type} : Left H := { results := [], args := [] }

/-- 'flonglaw06.CopiesOne': WHATEVER THE INPUT: true; the input reads as it did. -/
def copiesOneSpec : ChangeSpec := { name := "copiesOne", fn := fun _ => fun
  | [d1, d2] => { results := [.lit (.bool true)], args := [d1, d2] }
  | _ => none }
def copiesOneRow : OpenClaim := { program := "ytcbgfmalillplaa", sum := "a0d3079a861545715087c7b7f307ed8ffdc0f9ea93cf33c392ed195cb038e7f1", func := "flong/flonglaw06.CopiesOne", spec := "copiesOne", unfollowed := true, recurses := true, apart := false }
def CopiesOneSaid : Prop := copiesOneRow.holds Try.pinned (OpenSpec.ofChange copiesOneSpec)

/-- ITS FALSE NEIGHBOUR: 'it returns false'. Refute it at one input. -/
def copiesOneWrong : ChangeSpec := { name := "copiesOne", fn := fun _ => fun
  | [d1, d2] => { results := [.lit (.bool false)], args := [d1, d2] }
  | _ => none }
def CopiesOneWrongFalsely : Prop := copiesOneRow.holds Try.pinned (OpenSpec.ofChange copiesOneWrong)

/-- 'flonglaw06.CopiesRates': WHATEVER THE INPUT: true; the input reads as it did. -/
def copiesRatesSpec : ChangeSpec := { name := "copiesRates", fn := fun _ => fun
  | [d1, d2, d3] => { results := [.lit (.bool true)], args := [d1, d2, d3] }
  | _ => none }
def copiesRatesRow : OpenClaim := { program := "ytcbgfmalillplaa", sum := "a0d3079a861545715087c7b7f307ed8ffdc0f9ea93cf33c392ed195cb038e7f1", func := "flong/flonglaw06.CopiesRates", spec := "copiesRates", unfollowed := true, recurses := true, apart := false }
def CopiesRatesSaid : Prop := copiesRatesRow.holds Try.pinned (OpenSpec.ofChange copiesRatesSpec)

/-- ITS FALSE NEIGHBOUR: 'it returns false'. Refute it at one input. -/
def copiesRatesWrong : ChangeSpec := { name := "copiesRates", fn := fun _ => fun
  | [d1, d2, d3] => { results := [.lit (.bool false)], args := [d1, d2, d3] }
  | _ => none }
def CopiesRatesWrongFalsely : Prop := copiesRatesRow.holds Try.pinned (OpenSpec.ofChange copiesRatesWrong)

/-- 'flonglaw06.CopiesRead': WHATEVER THE INPUT: true; the input reads as it did. -/
def copiesReadSpec : ChangeSpec := { name := "copiesRead", fn := fun _ => fun
  | [d1, d2, d3] => { results := [.lit (.bool true)], args := [d1, d2, d3] }
  | _ => none }
def copiesReadRow : OpenClaim := { program := "ytcbgfmalillplaa", sum := "a0d3079a861545715087c7b7f307ed8ffdc0f9ea93cf33c392ed195cb038e7f1", func := "flong/flonglaw06.CopiesRead", spec := "copiesRead", unfollowed := true, recurses := true, apart := false }
def CopiesReadSaid : Prop := copiesReadRow.holds Try.pinned (OpenSpec.ofChange copiesReadSpec)

/-- ITS FALSE NEIGHBOUR: 'it returns false'. Refute it at one input. -/
def copiesReadWrong : ChangeSpec := { name := "copiesRead", fn := fun _ => fun
  | [d1, d2, d3] => { results := [.lit (.bool false)], args := [d1, d2, d3] }
  | _ => none }
def CopiesReadWrongFalsely : Prop := copiesReadRow.holds Try.pinned (OpenSpec.ofChange copiesReadWrong)

/-- 'flonglaw06.CopiesWhere': WHATEVER THE INPUT: true; the input reads as it did. -/
def copiesWhereSpec : ChangeSpec := { name := "copiesWhere", fn := fun _ => fun
  | [d1, d2, d3] => { results := [.lit (.bool true)], args := [d1, d2, d3] }
  | _ => none }
def copiesWhereRow : OpenClaim := { program := "ytcbgfmalillplaa", sum := "a0d3079a861545715087c7b7f307ed8ffdc0f9ea93cf33c392ed195cb038e7f1", func := "flong/flonglaw06.CopiesWhere", spec := "copiesWhere", unfollowed := true, recurses := true, apart := false }
def CopiesWhereSaid : Prop := copiesWhereRow.holds Try.pinned (OpenSpec.ofChange copiesWhereSpec)

/-- ITS FALSE NEIGHBOUR: 'it returns false'. Refute it at one input. -/
def copiesWhereWrong : ChangeSpec := { name := "copiesWhere", fn := fun _ => fun
  | [d1, d2, d3] => { results := [.lit (.bool false)], args := [d1, d2, d3] }
  | _ => none }
def CopiesWhereWrongFalsely : Prop := copiesWhereRow.holds Try.pinned (OpenSpec.ofChange copiesWhereWrong)

/-- 'flonglaw06.CopiesEnds': WHATEVER THE INPUT: true; the input reads as it did. -/
def copiesEndsSpec : ChangeSpec := { name := "copiesEnds", fn := fun _ => fun
  | [d1, d2, d3] => { results := [.lit (.bool true)], args := [d1, d2, d3] }
  | _ => none }
def copiesEndsRow : OpenClaim := { program := "ytcbgfmalillplaa", sum := "a0d3079a861545715087c7b7f307ed8ffdc0f9ea93cf33c392ed195cb038e7f1", func := "flong/flonglaw06.CopiesEnds", spec := "copiesEnds", unfollowed := true, recurses := true, apart := false }
def CopiesEndsSaid : Prop := copiesEndsRow.holds Try.pinned (OpenSpec.ofChange copiesEndsSpec)

/-- ITS FALSE NEIGHBOUR: 'it returns false'. Refute it at one input. -/
def copiesEndsWrong : ChangeSpec := { name := "copiesEnds", fn := fun _ => fun
  | [d1, d2, d3] => { results := [.lit (.bool false)], args := [d1, d2, d3] }
  | _ => none }
def CopiesEndsWrongFalsely : Prop := copiesEndsRow.holds Try.pinned (OpenSpec.ofChange copiesEndsWrong)

/-- 'flonglaw06.CopiesAgain': WHATEVER THE INPUT: true; the input reads as it did. -/
def copiesAgainSpec : ChangeSpec := { name := "copiesAgain", fn := fun _ => fun
  | [d1, d2, d3] => { results := [.lit (.bool true)], args := [d1, d2, d3] }
  | _ => none }
def copiesAgainRow : OpenClaim := { program := "ytcbgfmalillplaa", sum := "a0d3079a861545715087c7b7f307ed8ffdc0f9ea93cf33c392ed195cb038e7f1", func := "flong/flonglaw06.CopiesAgain", spec := "copiesAgain", unfollowed := true, recurses := true, apart := false }
def CopiesAgainSaid : Prop := copiesAgainRow.holds Try.pinned (OpenSpec.ofChange copiesAgainSpec)

/-- ITS FALSE NEIGHBOUR: 'it returns false'. Refute it at one input. -/
def copiesAgainWrong : ChangeSpec := { name := "copiesAgain", fn := fun _ => fun
  | [d1, d2, d3] => { results := [.lit (.bool false)], args := [d1, d2, d3] }
  | _ => none }
def CopiesAgainWrongFalsely : Prop := copiesAgainRow.holds Try.pinned (OpenSpec.ofChange copiesAgainWrong)

/-- 'flonglaw06.CopiesMore': WHATEVER THE INPUT: true; the input reads as it did. -/
def copiesMoreSpec : ChangeSpec := { name := "copiesMore", fn := fun _ => fun
  | [d1, d2] => { results := [.lit (.bool true)], args := [d1, d2] }
  | _ => none }
def copiesMoreRow : OpenClaim := { program := "ytcbgfmalillplaa", sum := "a0d3079a861545715087c7b7f307ed8ffdc0f9ea93cf33c392ed195cb038e7f1", func := "flong/flonglaw06.CopiesMore", spec := "copiesMore", unfollowed := true, recurses := true, apart := false }
def CopiesMoreSaid : Prop := copiesMoreRow.holds Try.pinned (OpenSpec.ofChange copiesMoreSpec)

/-- ITS FALSE NEIGHBOUR: 'it returns false'. Refute it at one input. -/
def copiesMoreWrong : ChangeSpec := { name := "copiesMore", fn := fun _ => fun
  | [d1, d2] => { results := [.lit (.bool false)], args := [d1, d2] }
  | _ => none }
def CopiesMoreWrongFalsely : Prop := copiesMoreRow.holds Try.pinned (OpenSpec.ofChange copiesMoreWrong)

/-- 'flonglaw06.CopiesClearer': WHATEVER THE INPUT: true; the input reads as it did. -/
def copiesClearerSpec : ChangeSpec := { name := "copiesClearer", fn := fun _ => fun
  | [d1, d2] => { results := [.lit (.bool true)], args := [d1, d2] }
  | _ => none }
def copiesClearerRow : OpenClaim := { program := "ytcbgfmalillplaa", sum := "a0d3079a861545715087c7b7f307ed8ffdc0f9ea93cf33c392ed195cb038e7f1", func := "flong/flonglaw06.CopiesClearer", spec := "copiesClearer", unfollowed := true, recurses := true, apart := false }
def CopiesClearerSaid : Prop := copiesClearerRow.holds Try.pinned (OpenSpec.ofChange copiesClearerSpec)

/-- ITS FALSE NEIGHBOUR: 'it returns false'. Refute it at one input. -/
def copiesClearerWrong : ChangeSpec := { name := "copiesClearer", fn := fun _ => fun
  | [d1, d2] => { results := [.lit (.bool false)], args := [d1, d2] }
  | _ => none }
def CopiesClearerWrongFalsely : Prop := copiesClearerRow.holds Try.pinned (OpenSpec.ofChange copiesClearerWrong)

/-- 'flonglaw06.CopiesOrder': WHATEVER THE INPUT: true; the input reads as it did. -/
def copiesOrderSpec : ChangeSpec := { name := "copiesOrder", fn := fun _ => fun
  | [d1, d2] => { results := [.lit (.bool true)], args := [d1, d2] }
  | _ => none }
def copiesOrderRow : OpenClaim := { program := "ytcbgfmalillplaa", sum := "a0d3079a861545715087c7b7f307ed8ffdc0f9ea93cf33c392ed195cb038e7f1", func := "flong/flonglaw06.CopiesOrder", spec := "copiesOrder", unfollowed := true, recurses := true, apart := false }
def CopiesOrderSaid : Prop := copiesOrderRow.holds Try.pinned (OpenSpec.ofChange copiesOrderSpec)

/-- ITS FALSE NEIGHBOUR: 'it returns false'. Refute it at one input. -/
def copiesOrderWrong : ChangeSpec := { name := "copiesOrder", fn := fun _ => fun
  | [d1, d2] => { results := [.lit (.bool false)], args := [d1, d2] }
  | _ => none }
def CopiesOrderWrongFalsely : Prop := copiesOrderRow.holds Try.pinned (OpenSpec.ofChange copiesOrderWrong)

/-- 'flonglaw06.CopiesEach': WHATEVER THE INPUT: true; the input reads as it did. -/
def copiesEachSpec : ChangeSpec := { name := "copiesEach", fn := fun _ => fun
  | [d1, d2] => { results := [.lit (.bool true)], args := [d1, d2] }
  | _ => none }
def copiesEachRow : OpenClaim := { program := "ytcbgfmalillplaa", sum := "a0d3079a861545715087c7b7f307ed8ffdc0f9ea93cf33c392ed195cb038e7f1", func := "flong/flonglaw06.CopiesEach", spec := "copiesEach", unfollowed := true, recurses := true, apart := false }
def CopiesEachSaid : Prop := copiesEachRow.holds Try.pinned (OpenSpec.ofChange copiesEachSpec)

/-- ITS FALSE NEIGHBOUR: 'it returns false'. Refute it at one input. -/
def copiesEachWrong : ChangeSpec := { name := "copiesEach", fn := fun _ => fun
  | [d1, d2] => { results := [.lit (.bool false)], args := [d1, d2] }
  | _ => none }
def CopiesEachWrongFalsely : Prop := copiesEachRow.holds Try.pinned (OpenSpec.ofChange copiesEachWrong)

/-- 'flonglaw06.CopiesFound': WHATEVER THE INPUT: true; the input reads as it did. -/
def copiesFoundSpec : ChangeSpec := { name := "copiesFound", fn := fun _ => fun
  | [d1, d2, d3] => { results := [.lit (.bool true)], args := [d1, d2, d3] }
  | _ => none }
def copiesFoundRow : OpenClaim := { program := "ytcbgfmalillplaa", sum := "a0d3079a861545715087c7b7f307ed8ffdc0f9ea93cf33c392ed195cb038e7f1", func := "flong/flonglaw06.CopiesFound", spec := "copiesFound", unfollowed := true, recurses := true, apart := false }
def CopiesFoundSaid : Prop := copiesFoundRow.holds Try.pinned (OpenSpec.ofChange copiesFoundSpec)

/-- ITS FALSE NEIGHBOUR: 'it returns false'. Refute it at one input. -/
def copiesFoundWrong : ChangeSpec := { name := "copiesFound", fn := fun _ => fun
  | [d1, d2, d3] => { results := [.lit (.bool false)], args := [d1, d2, d3] }
  | _ => none }
def CopiesFoundWrongFalsely : Prop := copiesFoundRow.holds Try.pinned (OpenSpec.ofChange copiesFoundWrong)

/-- 'flongtop.TopShown': WHATEVER THE INPUT: true; the input reads as it did. -/
def topShownSpec : ChangeSpec := { name := "topShown", fn := fun _ => fun
  | [d1, d2, d3] => { results := [.lit (.bool true)], args := [d1, d2, d3] }
  | _ => none }
def topShownRow : OpenClaim := { program := "ytcbgfmalillplaa", sum := "a0d3079a861545715087c7b7f307ed8ffdc0f9ea93cf33c392ed195cb038e7f1", func := "flong/flongtop.TopShown", spec := "topShown", unfollowed := true, recurses := true, apart := false }
def TopShownSaid : Prop := topShownRow.holds Try.pinned (OpenSpec.ofChange topShownSpec)

/-- ITS FALSE NEIGHBOUR: 'it returns false'. Refute it at one input. -/
def topShownWrong : ChangeSpec := { name := "topShown", fn := fun _ => fun
  | [d1, d2, d3] => { results := [.lit (.bool false)], args := [d1, d2, d3] }
  | _ => none }
def TopShownWrongFalsely : Prop := topShownRow.holds Try.pinned (OpenSpec.ofChange topShownWrong)

/-- 'flonglaw06.CopiesMixes': WHATEVER THE INPUT: true; the input reads as it did. -/
def copiesMixesSpec : ChangeSpec := { name := "copiesMixes", fn := fun _ => fun
  | [d1, d2, d3] => { results := [.lit (.bool true)], args := [d1, d2, d3] }
  | _ => none }
def copiesMixesRow : OpenClaim := { program := "ytcbgfmalillplaa", sum := "a0d3079a861545715087c7b7f307ed8ffdc0f9ea93cf33c392ed195cb038e7f1", func := "flong/flonglaw06.CopiesMixes", spec := "copiesMixes", unfollowed := true, recurses := true, apart := false }
def CopiesMixesSaid : Prop := copiesMixesRow.holds Try.pinned (OpenSpec.ofChange copiesMixesSpec)

/-- ITS FALSE NEIGHBOUR: 'it returns false'. Refute it at one input. -/
def copiesMixesWrong : ChangeSpec := { name := "copiesMixes", fn := fun _ => fun
  | [d1, d2, d3] => { results := [.lit (.bool false)], args := [d1, d2, d3] }
  | _ => none }
def CopiesMixesWrongFalsely : Prop := copiesMixesRow.holds Try.pinned (OpenSpec.ofChange copiesMixesWrong)

/-- 'flonglaw06.CopiesHolds': WHATEVER THE INPUT: true; the input reads as it did. -/
def copiesHoldsSpec : ChangeSpec := { name := "copiesHolds", fn := fun _ => fun
  | [d1, d2] => { results := [.lit (.bool true)], args := [d1, d2] }
  | _ => none }
def copiesHoldsRow : OpenClaim := { program := "ytcbgfmalillplaa", sum := "a0d3079a861545715087c7b7f307ed8ffdc0f9ea93cf33c392ed195cb038e7f1", func := "flong/flonglaw06.CopiesHolds", spec := "copiesHolds", unfollowed := true, recurses := true, apart := false }
def CopiesHoldsSaid : Prop := copiesHoldsRow.holds Try.pinned (OpenSpec.ofChange copiesHoldsSpec)

/-- ITS FALSE NEIGHBOUR: 'it returns false'. Refute it at one input. -/
def copiesHoldsWrong : ChangeSpec := { name := "copiesHolds", fn := fun _ => fun
  | [d1, d2] => { results := [.lit (.bool false)], args := [d1, d2] }
  | _ => none }
def CopiesHoldsWrongFalsely : Prop := copiesHoldsRow.holds Try.pinned (OpenSpec.ofChange copiesHoldsWrong)

/- THE SECOND FORM. 'bulk': how many values and letters a reading holds, each counted each time it is reached (what is shared counts as often as it is met; a slice's spare places count too). A statement '..UptoSaid' is the law's where the arguments, and the package variables that the reading takes, are together of bulk at most 1048576: NARROWER than '..Said'. Prove '..Said' where nothing that the law and all that it calls make is longer than what came in: it says more and counts as full. Else prove '..UptoSaid'. A law counts once. -/
mutual
def uptoBulk {H : Type} : DataW H → Nat
  | .lit (.string bytes) => bytes.length + 1
  | .lit _ => 1
  | .nil => 1
  | .ptr d => uptoBulk d + 1
  | .slice elems spare => uptoBulkAll elems + uptoBulkAll spare + 1
  | .agg parts => uptoBulkAll parts + 1
  | .iface _ d => uptoBulk d + 1
  | .map entries => uptoBulkEntries entries + 1
  | .held _ => 1
def uptoBulkAll {H : Type} : List (DataW H) → Nat
  | [] => 0
  | d :: r => uptoBulk d + uptoBulkAll r
def uptoBulkEntries {H : Type} : List (Lit × DataW H) → Nat
  | [] => 0
  | x :: r => uptoBulkEntry x + uptoBulkEntries r
def uptoBulkEntry {H : Type} : Lit × DataW H → Nat
  | (.string bytes, d) => bytes.length + uptoBulk d + 1
  | (_, d) => uptoBulk d + 1
 end
def uptoSmall : (H : Type) → List (DataW H) → Bool := fun _ ds => decide (uptoBulkAll ds ≤ 1048576)
def OpenSpec.upto (s : _root_.Go.ChangeSpec) : _root_.Go.OpenSpec := { _root_.Go.OpenSpec.ofChange s with cond := some uptoSmall }

/-- 'flonglaw06.CopiesOne', WHERE WHAT IT READS IS OF BULK AT MOST 1048576: true; the input reads as it did. -/
def copiesOneUptoRow : OpenClaim := { program := "ytcbgfmalillplaa", sum := "a0d3079a861545715087c7b7f307ed8ffdc0f9ea93cf33c392ed195cb038e7f1", func := "flong/flonglaw06.CopiesOne", spec := "copiesOne", unfollowed := true, recurses := true, apart := false, narrowed := true }
def CopiesOneUptoSaid : Prop := copiesOneUptoRow.holds Try.pinned (OpenSpec.upto copiesOneSpec)

/-- 'flonglaw06.CopiesRates', WHERE WHAT IT READS IS OF BULK AT MOST 1048576: true; the input reads as it did. -/
def copiesRatesUptoRow : OpenClaim := { program := "ytcbgfmalillplaa", sum := "a0d3079a861545715087c7b7f307ed8ffdc0f9ea93cf33c392ed195cb038e7f1", func := "flong/flonglaw06.CopiesRates", spec := "copiesRates", unfollowed := true, recurses := true, apart := false, narrowed := true }
def CopiesRatesUptoSaid : Prop := copiesRatesUptoRow.holds Try.pinned (OpenSpec.upto copiesRatesSpec)

/-- 'flonglaw06.CopiesRead', WHERE WHAT IT READS IS OF BULK AT MOST 1048576: true; the input reads as it did. -/
def copiesReadUptoRow : OpenClaim := { program := "ytcbgfmalillplaa", sum := "a0d3079a861545715087c7b7f307ed8ffdc0f9ea93cf33c392ed195cb038e7f1", func := "flong/flonglaw06.CopiesRead", spec := "copiesRead", unfollowed := true, recurses := true, apart := false, narrowed := true }
def CopiesReadUptoSaid : Prop := copiesReadUptoRow.holds Try.pinned (OpenSpec.upto copiesReadSpec)

/-- 'flonglaw06.CopiesWhere', WHERE WHAT IT READS IS OF BULK AT MOST 1048576: true; the input reads as it did. -/
def copiesWhereUptoRow : OpenClaim := { program := "ytcbgfmalillplaa", sum := "a0d3079a861545715087c7b7f307ed8ffdc0f9ea93cf33c392ed195cb038e7f1", func := "flong/flonglaw06.CopiesWhere", spec := "copiesWhere", unfollowed := true, recurses := true, apart := false, narrowed := true }
def CopiesWhereUptoSaid : Prop := copiesWhereUptoRow.holds Try.pinned (OpenSpec.upto copiesWhereSpec)

/-- 'flonglaw06.CopiesEnds', WHERE WHAT IT READS IS OF BULK AT MOST 1048576: true; the input reads as it did. -/
def copiesEndsUptoRow : OpenClaim := { program := "ytcbgfmalillplaa", sum := "a0d3079a861545715087c7b7f307ed8ffdc0f9ea93cf33c392ed195cb038e7f1", func := "flong/flonglaw06.CopiesEnds", spec := "copiesEnds", unfollowed := true, recurses := true, apart := false, narrowed := true }
def CopiesEndsUptoSaid : Prop := copiesEndsUptoRow.holds Try.pinned (OpenSpec.upto copiesEndsSpec)

/-- 'flonglaw06.CopiesAgain', WHERE WHAT IT READS IS OF BULK AT MOST 1048576: true; the input reads as it did. -/
def copiesAgainUptoRow : OpenClaim := { program := "ytcbgfmalillplaa", sum := "a0d3079a861545715087c7b7f307ed8ffdc0f9ea93cf33c392ed195cb038e7f1", func := "flong/flonglaw06.CopiesAgain", spec := "copiesAgain", unfollowed := true, recurses := true, apart := false, narrowed := true }
def CopiesAgainUptoSaid : Prop := copiesAgainUptoRow.holds Try.pinned (OpenSpec.upto copiesAgainSpec)

/-- 'flonglaw06.CopiesMore', WHERE WHAT IT READS IS OF BULK AT MOST 1048576: true; the input reads as it did. -/
def copiesMoreUptoRow : OpenClaim := { program := "ytcbgfmalillplaa", sum := "a0d3079a861545715087c7b7f307ed8ffdc0f9ea93cf33c392ed195cb038e7f1", func := "flong/flonglaw06.CopiesMore", spec := "copiesMore", unfollowed := true, recurses := true, apart := false, narrowed := true }
def CopiesMoreUptoSaid : Prop := copiesMoreUptoRow.holds Try.pinned (OpenSpec.upto copiesMoreSpec)

/-- 'flonglaw06.CopiesClearer', WHERE WHAT IT READS IS OF BULK AT MOST 1048576: true; the input reads as it did. -/
def copiesClearerUptoRow : OpenClaim := { program := "ytcbgfmalillplaa", sum := "a0d3079a861545715087c7b7f307ed8ffdc0f9ea93cf33c392ed195cb038e7f1", func := "flong/flonglaw06.CopiesClearer", spec := "copiesClearer", unfollowed := true, recurses := true, apart := false, narrowed := true }
def CopiesClearerUptoSaid : Prop := copiesClearerUptoRow.holds Try.pinned (OpenSpec.upto copiesClearerSpec)

/-- 'flonglaw06.CopiesOrder', WHERE WHAT IT READS IS OF BULK AT MOST 1048576: true; the input reads as it did. -/
def copiesOrderUptoRow : OpenClaim := { program := "ytcbgfmalillplaa", sum := "a0d3079a861545715087c7b7f307ed8ffdc0f9ea93cf33c392ed195cb038e7f1", func := "flong/flonglaw06.CopiesOrder", spec := "copiesOrder", unfollowed := true, recurses := true, apart := false, narrowed := true }
def CopiesOrderUptoSaid : Prop := copiesOrderUptoRow.holds Try.pinned (OpenSpec.upto copiesOrderSpec)

/-- 'flonglaw06.CopiesEach', WHERE WHAT IT READS IS OF BULK AT MOST 1048576: true; the input reads as it did. -/
def copiesEachUptoRow : OpenClaim := { program := "ytcbgfmalillplaa", sum := "a0d3079a861545715087c7b7f307ed8ffdc0f9ea93cf33c392ed195cb038e7f1", func := "flong/flonglaw06.CopiesEach", spec := "copiesEach", unfollowed := true, recurses := true, apart := false, narrowed := true }
def CopiesEachUptoSaid : Prop := copiesEachUptoRow.holds Try.pinned (OpenSpec.upto copiesEachSpec)

/-- 'flonglaw06.CopiesFound', WHERE WHAT IT READS IS OF BULK AT MOST 1048576: true; the input reads as it did. -/
def copiesFoundUptoRow : OpenClaim := { program := "ytcbgfmalillplaa", sum := "a0d3079a861545715087c7b7f307ed8ffdc0f9ea93cf33c392ed195cb038e7f1", func := "flong/flonglaw06.CopiesFound", spec := "copiesFound", unfollowed := true, recurses := true, apart := false, narrowed := true }
def CopiesFoundUptoSaid : Prop := copiesFoundUptoRow.holds Try.pinned (OpenSpec.upto copiesFoundSpec)

/-- 'flongtop.TopShown', WHERE WHAT IT READS IS OF BULK AT MOST 1048576: true; the input reads as it did. -/
def topShownUptoRow : OpenClaim := { program := "ytcbgfmalillplaa", sum := "a0d3079a861545715087c7b7f307ed8ffdc0f9ea93cf33c392ed195cb038e7f1", func := "flong/flongtop.TopShown", spec := "topShown", unfollowed := true, recurses := true, apart := false, narrowed := true }
def TopShownUptoSaid : Prop := topShownUptoRow.holds Try.pinned (OpenSpec.upto topShownSpec)

/-- 'flonglaw06.CopiesMixes', WHERE WHAT IT READS IS OF BULK AT MOST 1048576: true; the input reads as it did. -/
def copiesMixesUptoRow : OpenClaim := { program := "ytcbgfmalillplaa", sum := "a0d3079a861545715087c7b7f307ed8ffdc0f9ea93cf33c392ed195cb038e7f1", func := "flong/flonglaw06.CopiesMixes", spec := "copiesMixes", unfollowed := true, recurses := true, apart := false, narrowed := true }
def CopiesMixesUptoSaid : Prop := copiesMixesUptoRow.holds Try.pinned (OpenSpec.upto copiesMixesSpec)

/-- 'flonglaw06.CopiesHolds', WHERE WHAT IT READS IS OF BULK AT MOST 1048576: true; the input reads as it did. -/
def copiesHoldsUptoRow : OpenClaim := { program := "ytcbgfmalillplaa", sum := "a0d3079a861545715087c7b7f307ed8ffdc0f9ea93cf33c392ed195cb038e7f1", func := "flong/flonglaw06.CopiesHolds", spec := "copiesHolds", unfollowed := true, recurses := true, apart := false, narrowed := true }
def CopiesHoldsUptoSaid : Prop := copiesHoldsUptoRow.holds Try.pinned (OpenSpec.upto copiesHoldsSpec)

end Rows
end Go.Proofs.Ytcbgfmalillplaa
