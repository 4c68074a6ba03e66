/-
  No cell of these rows narrows 'for every input' (looked for: loops, veiled, ifaces, maps, wideKeys, modest, calm, conditions, laid).
  DERIVED. THE GIVEN ROWS OF THIS SEAT. 11 by the template 'for every input the law returns true; each argument reads behind the call as it read before'; 0 by the template 'total and deterministic' (their statements: YtdmkicejjbjdkaaTotals.lean).
  GIVEN WITH THE SEED: the statements are not yours to turn. If you find one false, say at which input.
  Laid BY PROGRAM, IN A SANDBOX (cutbox-rows.mjs): the forced cells as the released guide's own fill.sh prints them over the translation 028463e1e50786ed… (all of the seat's roots in one cut). By AI agents, Wed Nov 11 2026. No macro, syntax, notation, axiom, sorry.
-/
import Derived.Test.YtdmkicejjbjdkaaChecked
import GoSem.Claim
import GoSem.ClaimJoined
import GoSem.ClaimMapViews
import Derived.JoinedTies
import Derived.KernelRfl
namespace Go.Proofs.Ytdmkicejjbjdkaa
/- THE CELL 'sum', in the pinned program and in every row, IS THE sha256 OF THE DUMP (.gsa) THAT YtdmkicejjbjdkaaProg.lean LOADS. Nothing in Lean hashes anything: it is a label: what it is worth is what the hold of that sum in a sandbox is worth. -/
noncomputable def Try.pinned : Pinned := { name := "ytdmkicejjbjdkaa", sum := "028463e1e50786ed491a8d9d15f67aee5fa9c6f335d74f46f7ff114b6011906e", checked := Try.checked }
namespace Rows
def none {H : Type} : Left H := { results := [], args := [] }

/-- 'flonglaw08.AdvertsCost': WHATEVER THE INPUT: true; the input reads as it did. -/
def advertsCostSpec : ChangeSpec := { name := "advertsCost", fn := fun _ => fun
  | [d1, d2, d3] => { results := [.lit (.bool true)], args := [d1, d2, d3] }
  | _ => none }
def advertsCostRow : OpenClaim := { program := "ytdmkicejjbjdkaa", sum := "028463e1e50786ed491a8d9d15f67aee5fa9c6f335d74f46f7ff114b6011906e", func := "flong/flonglaw08.AdvertsCost", spec := "advertsCost", unfollowed := true, recurses := true, apart := false }
def AdvertsCostSaid : Prop := advertsCostRow.holds Try.pinned (OpenSpec.ofChange advertsCostSpec)

/-- ITS FALSE NEIGHBOUR: 'it returns false'. Refute it at one input. -/
def advertsCostWrong : ChangeSpec := { name := "advertsCost", fn := fun _ => fun
  | [d1, d2, d3] => { results := [.lit (.bool false)], args := [d1, d2, d3] }
  | _ => none }
def AdvertsCostWrongFalsely : Prop := advertsCostRow.holds Try.pinned (OpenSpec.ofChange advertsCostWrong)

/-- 'flonglaw08.AdvertsBilled': WHATEVER THE INPUT: true; the input reads as it did. -/
def advertsBilledSpec : ChangeSpec := { name := "advertsBilled", fn := fun _ => fun
  | [d1, d2] => { results := [.lit (.bool true)], args := [d1, d2] }
  | _ => none }
def advertsBilledRow : OpenClaim := { program := "ytdmkicejjbjdkaa", sum := "028463e1e50786ed491a8d9d15f67aee5fa9c6f335d74f46f7ff114b6011906e", func := "flong/flonglaw08.AdvertsBilled", spec := "advertsBilled", unfollowed := true, recurses := true, apart := false }
def AdvertsBilledSaid : Prop := advertsBilledRow.holds Try.pinned (OpenSpec.ofChange advertsBilledSpec)

/-- ITS FALSE NEIGHBOUR: 'it returns false'. Refute it at one input. -/
def advertsBilledWrong : ChangeSpec := { name := "advertsBilled", fn := fun _ => fun
  | [d1, d2] => { results := [.lit (.bool false)], args := [d1, d2] }
  | _ => none }
def AdvertsBilledWrongFalsely : Prop := advertsBilledRow.holds Try.pinned (OpenSpec.ofChange advertsBilledWrong)

/-- 'flonglaw08.AdvertsSingle': WHATEVER THE INPUT: true; the input reads as it did. -/
def advertsSingleSpec : ChangeSpec := { name := "advertsSingle", fn := fun _ => fun
  | [d1, d2] => { results := [.lit (.bool true)], args := [d1, d2] }
  | _ => none }
def advertsSingleRow : OpenClaim := { program := "ytdmkicejjbjdkaa", sum := "028463e1e50786ed491a8d9d15f67aee5fa9c6f335d74f46f7ff114b6011906e", func := "flong/flonglaw08.AdvertsSingle", spec := "advertsSingle", unfollowed := true, recurses := true, apart := false }
def AdvertsSingleSaid : Prop := advertsSingleRow.holds Try.pinned (OpenSpec.ofChange advertsSingleSpec)

/-- ITS FALSE NEIGHBOUR: 'it returns false'. Refute it at one input. -/
def advertsSingleWrong : ChangeSpec := { name := "advertsSingle", fn := fun _ => fun
  | [d1, d2] => { results := [.lit (.bool false)], args := [d1, d2] }
  | _ => none }
def AdvertsSingleWrongFalsely : Prop := advertsSingleRow.holds Try.pinned (OpenSpec.ofChange advertsSingleWrong)

/-- 'flonglaw08.AdvertsDearer': WHATEVER THE INPUT: true; the input reads as it did. -/
def advertsDearerSpec : ChangeSpec := { name := "advertsDearer", fn := fun _ => fun
  | [d1, d2, d3] => { results := [.lit (.bool true)], args := [d1, d2, d3] }
  | _ => none }
def advertsDearerRow : OpenClaim := { program := "ytdmkicejjbjdkaa", sum := "028463e1e50786ed491a8d9d15f67aee5fa9c6f335d74f46f7ff114b6011906e", func := "flong/flonglaw08.AdvertsDearer", spec := "advertsDearer", unfollowed := true, recurses := true, apart := false }
def AdvertsDearerSaid : Prop := advertsDearerRow.holds Try.pinned (OpenSpec.ofChange advertsDearerSpec)

/-- ITS FALSE NEIGHBOUR: 'it returns false'. Refute it at one input. -/
def advertsDearerWrong : ChangeSpec := { name := "advertsDearer", fn := fun _ => fun
  | [d1, d2, d3] => { results := [.lit (.bool false)], args := [d1, d2, d3] }
  | _ => none }
def AdvertsDearerWrongFalsely : Prop := advertsDearerRow.holds Try.pinned (OpenSpec.ofChange advertsDearerWrong)

/-- 'flonglaw08.AdvertsOnce': WHATEVER THE INPUT: true; the input reads as it did. -/
def advertsOnceSpec : ChangeSpec := { name := "advertsOnce", fn := fun _ => fun
  | [d1, d2] => { results := [.lit (.bool true)], args := [d1, d2] }
  | _ => none }
def advertsOnceRow : OpenClaim := { program := "ytdmkicejjbjdkaa", sum := "028463e1e50786ed491a8d9d15f67aee5fa9c6f335d74f46f7ff114b6011906e", func := "flong/flonglaw08.AdvertsOnce", spec := "advertsOnce", unfollowed := true, recurses := true, apart := false }
def AdvertsOnceSaid : Prop := advertsOnceRow.holds Try.pinned (OpenSpec.ofChange advertsOnceSpec)

/-- ITS FALSE NEIGHBOUR: 'it returns false'. Refute it at one input. -/
def advertsOnceWrong : ChangeSpec := { name := "advertsOnce", fn := fun _ => fun
  | [d1, d2] => { results := [.lit (.bool false)], args := [d1, d2] }
  | _ => none }
def AdvertsOnceWrongFalsely : Prop := advertsOnceRow.holds Try.pinned (OpenSpec.ofChange advertsOnceWrong)

/-- 'flonglaw08.AdvertsEach': WHATEVER THE INPUT: true; the input reads as it did. -/
def advertsEachSpec : ChangeSpec := { name := "advertsEach", fn := fun _ => fun
  | [d1, d2, d3] => { results := [.lit (.bool true)], args := [d1, d2, d3] }
  | _ => none }
def advertsEachRow : OpenClaim := { program := "ytdmkicejjbjdkaa", sum := "028463e1e50786ed491a8d9d15f67aee5fa9c6f335d74f46f7ff114b6011906e", func := "flong/flonglaw08.AdvertsEach", spec := "advertsEach", unfollowed := true, recurses := true, apart := false }
def AdvertsEachSaid : Prop := advertsEachRow.holds Try.pinned (OpenSpec.ofChange advertsEachSpec)

/-- ITS FALSE NEIGHBOUR: 'it returns false'. Refute it at one input. -/
def advertsEachWrong : ChangeSpec := { name := "advertsEach", fn := fun _ => fun
  | [d1, d2, d3] => { results := [.lit (.bool false)], args := [d1, d2, d3] }
  | _ => none }
def AdvertsEachWrongFalsely : Prop := advertsEachRow.holds Try.pinned (OpenSpec.ofChange advertsEachWrong)

/-- 'flonglaw08.AdvertsLeast': WHATEVER THE INPUT: true; the input reads as it did. -/
def advertsLeastSpec : ChangeSpec := { name := "advertsLeast", fn := fun _ => fun
  | [d1, d2, d3] => { results := [.lit (.bool true)], args := [d1, d2, d3] }
  | _ => none }
def advertsLeastRow : OpenClaim := { program := "ytdmkicejjbjdkaa", sum := "028463e1e50786ed491a8d9d15f67aee5fa9c6f335d74f46f7ff114b6011906e", func := "flong/flonglaw08.AdvertsLeast", spec := "advertsLeast", unfollowed := true, recurses := true, apart := false }
def AdvertsLeastSaid : Prop := advertsLeastRow.holds Try.pinned (OpenSpec.ofChange advertsLeastSpec)

/-- ITS FALSE NEIGHBOUR: 'it returns false'. Refute it at one input. -/
def advertsLeastWrong : ChangeSpec := { name := "advertsLeast", fn := fun _ => fun
  | [d1, d2, d3] => { results := [.lit (.bool false)], args := [d1, d2, d3] }
  | _ => none }
def AdvertsLeastWrongFalsely : Prop := advertsLeastRow.holds Try.pinned (OpenSpec.ofChange advertsLeastWrong)

/-- 'flonglaw08.AdvertsMore': WHATEVER THE INPUT: true; the input reads as it did. -/
def advertsMoreSpec : ChangeSpec := { name := "advertsMore", fn := fun _ => fun
  | [d1, d2, d3] => { results := [.lit (.bool true)], args := [d1, d2, d3] }
  | _ => none }
def advertsMoreRow : OpenClaim := { program := "ytdmkicejjbjdkaa", sum := "028463e1e50786ed491a8d9d15f67aee5fa9c6f335d74f46f7ff114b6011906e", func := "flong/flonglaw08.AdvertsMore", spec := "advertsMore", unfollowed := true, recurses := true, apart := false }
def AdvertsMoreSaid : Prop := advertsMoreRow.holds Try.pinned (OpenSpec.ofChange advertsMoreSpec)

/-- ITS FALSE NEIGHBOUR: 'it returns false'. Refute it at one input. -/
def advertsMoreWrong : ChangeSpec := { name := "advertsMore", fn := fun _ => fun
  | [d1, d2, d3] => { results := [.lit (.bool false)], args := [d1, d2, d3] }
  | _ => none }
def AdvertsMoreWrongFalsely : Prop := advertsMoreRow.holds Try.pinned (OpenSpec.ofChange advertsMoreWrong)

/-- 'flonglaw08.AdvertsContract': WHATEVER THE INPUT: true; the input reads as it did. -/
def advertsContractSpec : ChangeSpec := { name := "advertsContract", fn := fun _ => fun
  | [d1, d2, d3] => { results := [.lit (.bool true)], args := [d1, d2, d3] }
  | _ => none }
def advertsContractRow : OpenClaim := { program := "ytdmkicejjbjdkaa", sum := "028463e1e50786ed491a8d9d15f67aee5fa9c6f335d74f46f7ff114b6011906e", func := "flong/flonglaw08.AdvertsContract", spec := "advertsContract", unfollowed := true, recurses := true, apart := false }
def AdvertsContractSaid : Prop := advertsContractRow.holds Try.pinned (OpenSpec.ofChange advertsContractSpec)

/-- ITS FALSE NEIGHBOUR: 'it returns false'. Refute it at one input. -/
def advertsContractWrong : ChangeSpec := { name := "advertsContract", fn := fun _ => fun
  | [d1, d2, d3] => { results := [.lit (.bool false)], args := [d1, d2, d3] }
  | _ => none }
def AdvertsContractWrongFalsely : Prop := advertsContractRow.holds Try.pinned (OpenSpec.ofChange advertsContractWrong)

/-- 'flonglaw08.AdvertsCounted': WHATEVER THE INPUT: true; the input reads as it did. -/
def advertsCountedSpec : ChangeSpec := { name := "advertsCounted", fn := fun _ => fun
  | [d1, d2] => { results := [.lit (.bool true)], args := [d1, d2] }
  | _ => none }
def advertsCountedRow : OpenClaim := { program := "ytdmkicejjbjdkaa", sum := "028463e1e50786ed491a8d9d15f67aee5fa9c6f335d74f46f7ff114b6011906e", func := "flong/flonglaw08.AdvertsCounted", spec := "advertsCounted", unfollowed := true, recurses := true, apart := false }
def AdvertsCountedSaid : Prop := advertsCountedRow.holds Try.pinned (OpenSpec.ofChange advertsCountedSpec)

/-- ITS FALSE NEIGHBOUR: 'it returns false'. Refute it at one input. -/
def advertsCountedWrong : ChangeSpec := { name := "advertsCounted", fn := fun _ => fun
  | [d1, d2] => { results := [.lit (.bool false)], args := [d1, d2] }
  | _ => none }
def AdvertsCountedWrongFalsely : Prop := advertsCountedRow.holds Try.pinned (OpenSpec.ofChange advertsCountedWrong)

/-- 'flonglaw08.AdvertsLater': WHATEVER THE INPUT: true; the input reads as it did. -/
def advertsLaterSpec : ChangeSpec := { name := "advertsLater", fn := fun _ => fun
  | [d1, d2, d3] => { results := [.lit (.bool true)], args := [d1, d2, d3] }
  | _ => none }
def advertsLaterRow : OpenClaim := { program := "ytdmkicejjbjdkaa", sum := "028463e1e50786ed491a8d9d15f67aee5fa9c6f335d74f46f7ff114b6011906e", func := "flong/flonglaw08.AdvertsLater", spec := "advertsLater", unfollowed := true, recurses := true, apart := false }
def AdvertsLaterSaid : Prop := advertsLaterRow.holds Try.pinned (OpenSpec.ofChange advertsLaterSpec)

/-- ITS FALSE NEIGHBOUR: 'it returns false'. Refute it at one input. -/
def advertsLaterWrong : ChangeSpec := { name := "advertsLater", fn := fun _ => fun
  | [d1, d2, d3] => { results := [.lit (.bool false)], args := [d1, d2, d3] }
  | _ => none }
def AdvertsLaterWrongFalsely : Prop := advertsLaterRow.holds Try.pinned (OpenSpec.ofChange advertsLaterWrong)

/- THE SECOND FORM. 'bulk': how many values and letters a reading holds, each counted each time it is reached (what is shared counts as often as it is met; a slice's spare places count too). A statement '..UptoSaid' is the law's where the arguments, and the package variables that the reading takes, are together of bulk at most 1048576: NARROWER than '..Said'. Prove '..Said' where nothing that the law and all that it calls make is longer than what came in: it says more and counts as full. Else prove '..UptoSaid'. A law counts once. -/
mutual
def uptoBulk {H : Type} : DataW H → Nat
  | .lit (.string bytes) => bytes.length + 1
  | .lit _ => 1
  | .nil => 1
  | .ptr d => uptoBulk d + 1
  | .slice elems spare => uptoBulkAll elems + uptoBulkAll spare + 1
  | .agg parts => uptoBulkAll parts + 1
  | .iface _ d => uptoBulk d + 1
  | .map entries => uptoBulkEntries entries + 1
  | .held _ => 1
def uptoBulkAll {H : Type} : List (DataW H) → Nat
  | [] => 0
  | d :: r => uptoBulk d + uptoBulkAll r
def uptoBulkEntries {H : Type} : List (Lit × DataW H) → Nat
  | [] => 0
  | x :: r => uptoBulkEntry x + uptoBulkEntries r
def uptoBulkEntry {H : Type} : Lit × DataW H → Nat
  | (.string bytes, d) => bytes.length + uptoBulk d + 1
  | (_, d) => uptoBulk d + 1
 end
def uptoSmall : (H : Type) → List (DataW H) → Bool := fun _ ds => decide (uptoBulkAll ds ≤ 1048576)
def OpenSpec.upto (s : _root_.Go.ChangeSpec) : _root_.Go.OpenSpec := { _root_.Go.OpenSpec.ofChange s with cond := some uptoSmall }

/-- 'flonglaw08.AdvertsCost', WHERE WHAT IT READS IS OF BULK AT MOST 1048576: true; the input reads as it did. -/
def advertsCostUptoRow : OpenClaim := { program := "ytdmkicejjbjdkaa", sum := "028463e1e50786ed491a8d9d15f67aee5fa9c6f335d74f46f7ff114b6011906e", func := "flong/flonglaw08.AdvertsCost", spec := "advertsCost", unfollowed := true, recurses := true, apart := false, narrowed := true }
def AdvertsCostUptoSaid : Prop := advertsCostUptoRow.holds Try.pinned (OpenSpec.upto advertsCostSpec)

/-- 'flonglaw08.AdvertsBilled', WHERE WHAT IT READS IS OF BULK AT MOST 1048576: true; the input reads as it did. -/
def advertsBilledUptoRow : OpenClaim := { program := "ytdmkicejjbjdkaa", sum := "028463e1e50786ed491a8d9d15f67aee5fa9c6f335d74f46f7ff114b6011906e", func := "flong/flonglaw08.AdvertsBilled", spec := "advertsBilled", unfollowed := true, recurses := true, apart := false, narrowed := true }
def AdvertsBilledUptoSaid : Prop := advertsBilledUptoRow.holds Try.pinned (OpenSpec.upto advertsBilledSpec)

/-- 'flonglaw08.AdvertsSingle', WHERE WHAT IT READS IS OF BULK AT MOST 1048576: true; the input reads as it did. -/
def advertsSingleUptoRow : OpenClaim := { program := "ytdmkicejjbjdkaa", sum := "028463e1e50786ed491a8d9d15f67aee5fa9c6f335d74f46f7ff114b6011906e", func := "flong/flonglaw08.AdvertsSingle", spec := "advertsSingle", unfollowed := true, recurses := true, apart := false, narrowed := true }
def AdvertsSingleUptoSaid : Prop := advertsSingleUptoRow.holds Try.pinned (OpenSpec.upto advertsSingleSpec)

/-- 'flonglaw08.AdvertsDearer', WHERE WHAT IT READS IS OF BULK AT MOST 1048576: true; the input reads as it did. -/
def advertsDearerUptoRow : OpenClaim := { program := "ytdmkicejjbjdkaa", sum := "028463e1e50786ed491a8d9d15f67aee5fa9c6f335d74f46f7ff114b6011906e", func := "flong/flonglaw08.AdvertsDearer", spec := "advertsDearer", unfollowed := true, recurses := true, apart := false, narrowed := true }
def AdvertsDearerUptoSaid : Prop := advertsDearerUptoRow.holds Try.pinned (OpenSpec.upto advertsDearerSpec)

/-- 'flonglaw08.AdvertsOnce', WHERE WHAT IT READS IS OF BULK AT MOST 1048576: true; the input reads as it did. -/
def advertsOnceUptoRow : OpenClaim := { program := "ytdmkicejjbjdkaa", sum := "028463e1e50786ed491a8d9d15f67aee5fa9c6f335d74f46f7ff114b6011906e", func := "flong/flonglaw08.AdvertsOnce", spec := "advertsOnce", unfollowed := true, recurses := true, apart := false, narrowed := true }
def AdvertsOnceUptoSaid : Prop := advertsOnceUptoRow.holds Try.pinned (OpenSpec.upto advertsOnceSpec)

/-- 'flonglaw08.AdvertsEach', WHERE WHAT IT READS IS OF BULK AT MOST 1048576: true; the input reads as it did. -/
def advertsEachUptoRow : OpenClaim := { program := "ytdmkicejjbjdkaa", sum := "028463e1e50786ed491a8d9d15f67aee5fa9c6f335d74f46f7ff114b6011906e", func := "flong/flonglaw08.AdvertsEach", spec := "advertsEach", unfollowed := true, recurses := true, apart := false, narrowed := true }
def AdvertsEachUptoSaid : Prop := advertsEachUptoRow.holds Try.pinned (OpenSpec.upto advertsEachSpec)

/-- 'flonglaw08.AdvertsLeast', WHERE WHAT IT READS IS OF BULK AT MOST 1048576: true; the input reads as it did. -/
def advertsLeastUptoRow : OpenClaim := { program := "ytdmkicejjbjdkaa", sum := "028463e1e50786ed491a8d9d15f67aee5fa9c6f335d74f46f7ff114b6011906e", func := "flong/flonglaw08.AdvertsLeast", spec := "advertsLeast", unfollowed := true, recurses := true, apart := false, narrowed := true }
def AdvertsLeastUptoSaid : Prop := advertsLeastUptoRow.holds Try.pinned (OpenSpec.upto advertsLeastSpec)

/-- 'flonglaw08.AdvertsMore', WHERE WHAT IT READS IS OF BULK AT MOST 1048576: true; the input reads as it did. -/
def advertsMoreUptoRow : OpenClaim := { program := "ytdmkicejjbjdkaa", sum := "028463e1e50786ed491a8d9d15f67aee5fa9c6f335d74f46f7ff114b6011906e", func := "flong/flonglaw08.AdvertsMore", spec := "advertsMore", unfollowed := true, recurses := true, apart := false, narrowed := true }
def AdvertsMoreUptoSaid : Prop := advertsMoreUptoRow.holds Try.pinned (OpenSpec.upto advertsMoreSpec)

/-- 'flonglaw08.AdvertsContract', WHERE WHAT IT READS IS OF BULK AT MOST 1048576: true; the input reads as it did. -/
def advertsContractUptoRow : OpenClaim := { program := "ytdmkicejjbjdkaa", sum := "028463e1e50786ed491a8d9d15f67aee5fa9c6f335d74f46f7ff114b6011906e", func := "flong/flonglaw08.AdvertsContract", spec := "advertsContract", unfollowed := true, recurses := true, apart := false, narrowed := true }
def AdvertsContractUptoSaid : Prop := advertsContractUptoRow.holds Try.pinned (OpenSpec.upto advertsContractSpec)

/-- 'flonglaw08.AdvertsCounted', WHERE WHAT IT READS IS OF BULK AT MOST 1048576: true; the input reads as it did. -/
def advertsCountedUptoRow : OpenClaim := { program := "ytdmkicejjbjdkaa", sum := "028463e1e50786ed491a8d9d15f67aee5fa9c6f335d74f46f7ff114b6011906e", func := "flong/flonglaw08.AdvertsCounted", spec := "advertsCounted", unfollowed := true, recurses := true, apart := false, narrowed := true }
def AdvertsCountedUptoSaid : Prop := advertsCountedUptoRow.holds Try.pinned (OpenSpec.upto advertsCountedSpec)

/-- 'flonglaw08.AdvertsLater', WHERE WHAT IT READS IS OF BULK AT MOST 1048576: true; the input reads as it did. -/
def advertsLaterUptoRow : OpenClaim := { program := "ytdmkicejjbjdkaa", sum := "028463e1e50786ed491a8d9d15f67aee5fa9c6f335d74f46f7ff114b6011906e", func := "flong/flonglaw08.AdvertsLater", spec := "advertsLater", unfollowed := true, recurses := true, apart := false, narrowed := true }
def AdvertsLaterUptoSaid : Prop := advertsLaterUptoRow.holds Try.pinned (OpenSpec.upto advertsLaterSpec)

end Rows
end Go.Proofs.Ytdmkicejjbjdkaa
