/-
  No cell of these rows narrows 'for every input' (looked for: loops, veiled, ifaces, maps, wideKeys, modest, calm, conditions, laid).
  DERIVED. THE GIVEN ROWS OF THIS SEAT. 12 by the template 'for every input the law returns true; each argument reads behind the call as it read before'; 0 by the template 'total and deterministic' (their statements: YtmojfojdkolaiaaTotals.lean).
  GIVEN WITH THE SEED: the statements are not yours to turn. If you find one false, say at which input.
  Laid BY PROGRAM, IN A SANDBOX (cutbox-rows.mjs): the forced cells as the released guide's own fill.sh prints them over the translation f53c8291c1e9ded3… (all of the seat's roots in one cut). By AI agents, Wed Nov 11 2026. No macro, syntax, notation, axiom, sorry.
-/
import Derived.Test.YtmojfojdkolaiaaChecked
import GoSem.Claim
import GoSem.ClaimJoined
import GoSem.ClaimMapViews
import Derived.JoinedTies
import Derived.KernelRfl
namespace Go.Proofs.Ytmojfojdkolaiaa
/- THE CELL 'sum', in the pinned program and in every row, IS THE sha256 OF THE DUMP (.gsa) THAT YtmojfojdkolaiaaProg.lean LOADS. Nothing in Lean hashes anything: it is a label: what it is worth is what the hold of that sum in a sandbox is worth. -/
noncomputable def Try.pinned : Pinned := { name := "ytmojfojdkolaiaa", sum := "f53c8291c1e9ded3f502ce247352e07a840cb75d269bab55f9cf4e7050f83816", checked := Try.checked }
namespace Rows
def none {H : Type} : Left H := { results := [], args := [] }

/-- 'laws.FnExactOrbitsOfSolution': WHATEVER THE INPUT: true; the input reads as it did. -/
def fnExactOrbitsOfSolutionSpec : ChangeSpec := { name := "fnExactOrbitsOfSolution", fn := fun _ => fun
  | [d] => { results := [.lit (.bool true)], args := [d] }
  | _ => none }
def fnExactOrbitsOfSolutionRow : OpenClaim := { program := "ytmojfojdkolaiaa", sum := "f53c8291c1e9ded3f502ce247352e07a840cb75d269bab55f9cf4e7050f83816", func := "loop.example/g01119/laws.FnExactOrbitsOfSolution", spec := "fnExactOrbitsOfSolution", unfollowed := true, recurses := true, apart := false }
def FnExactOrbitsOfSolutionSaid : Prop := fnExactOrbitsOfSolutionRow.holds Try.pinned (OpenSpec.ofChange fnExactOrbitsOfSolutionSpec)

/-- ITS FALSE NEIGHBOUR: 'it returns false'. Refute it at one input. -/
def fnExactOrbitsOfSolutionWrong : ChangeSpec := { name := "fnExactOrbitsOfSolution", fn := fun _ => fun
  | [d] => { results := [.lit (.bool false)], args := [d] }
  | _ => none }
def FnExactOrbitsOfSolutionWrongFalsely : Prop := fnExactOrbitsOfSolutionRow.holds Try.pinned (OpenSpec.ofChange fnExactOrbitsOfSolutionWrong)

/-- 'laws.FnExactTwistedSolution': WHATEVER THE INPUT: true; the input reads as it did. -/
def fnExactTwistedSolutionSpec : ChangeSpec := { name := "fnExactTwistedSolution", fn := fun _ => fun
  | [d1, d2] => { results := [.lit (.bool true)], args := [d1, d2] }
  | _ => none }
def fnExactTwistedSolutionRow : OpenClaim := { program := "ytmojfojdkolaiaa", sum := "f53c8291c1e9ded3f502ce247352e07a840cb75d269bab55f9cf4e7050f83816", func := "loop.example/g01119/laws.FnExactTwistedSolution", spec := "fnExactTwistedSolution", unfollowed := true, recurses := true, apart := false }
def FnExactTwistedSolutionSaid : Prop := fnExactTwistedSolutionRow.holds Try.pinned (OpenSpec.ofChange fnExactTwistedSolutionSpec)

/-- ITS FALSE NEIGHBOUR: 'it returns false'. Refute it at one input. -/
def fnExactTwistedSolutionWrong : ChangeSpec := { name := "fnExactTwistedSolution", fn := fun _ => fun
  | [d1, d2] => { results := [.lit (.bool false)], args := [d1, d2] }
  | _ => none }
def FnExactTwistedSolutionWrongFalsely : Prop := fnExactTwistedSolutionRow.holds Try.pinned (OpenSpec.ofChange fnExactTwistedSolutionWrong)

/-- 'laws.FnExactIsIrretractable': WHATEVER THE INPUT: true; the input reads as it did. -/
def fnExactIsIrretractableSpec : ChangeSpec := { name := "fnExactIsIrretractable", fn := fun _ => fun
  | [d] => { results := [.lit (.bool true)], args := [d] }
  | _ => none }
def fnExactIsIrretractableRow : OpenClaim := { program := "ytmojfojdkolaiaa", sum := "f53c8291c1e9ded3f502ce247352e07a840cb75d269bab55f9cf4e7050f83816", func := "loop.example/g01119/laws.FnExactIsIrretractable", spec := "fnExactIsIrretractable", unfollowed := true, recurses := true, apart := false }
def FnExactIsIrretractableSaid : Prop := fnExactIsIrretractableRow.holds Try.pinned (OpenSpec.ofChange fnExactIsIrretractableSpec)

/-- ITS FALSE NEIGHBOUR: 'it returns false'. Refute it at one input. -/
def fnExactIsIrretractableWrong : ChangeSpec := { name := "fnExactIsIrretractable", fn := fun _ => fun
  | [d] => { results := [.lit (.bool false)], args := [d] }
  | _ => none }
def FnExactIsIrretractableWrongFalsely : Prop := fnExactIsIrretractableRow.holds Try.pinned (OpenSpec.ofChange fnExactIsIrretractableWrong)

/-- 'laws.FnExactFixedElements': WHATEVER THE INPUT: true; the input reads as it did. -/
def fnExactFixedElementsSpec : ChangeSpec := { name := "fnExactFixedElements", fn := fun _ => fun
  | [d] => { results := [.lit (.bool true)], args := [d] }
  | _ => none }
def fnExactFixedElementsRow : OpenClaim := { program := "ytmojfojdkolaiaa", sum := "f53c8291c1e9ded3f502ce247352e07a840cb75d269bab55f9cf4e7050f83816", func := "loop.example/g01119/laws.FnExactFixedElements", spec := "fnExactFixedElements", unfollowed := true, recurses := true, apart := false }
def FnExactFixedElementsSaid : Prop := fnExactFixedElementsRow.holds Try.pinned (OpenSpec.ofChange fnExactFixedElementsSpec)

/-- ITS FALSE NEIGHBOUR: 'it returns false'. Refute it at one input. -/
def fnExactFixedElementsWrong : ChangeSpec := { name := "fnExactFixedElements", fn := fun _ => fun
  | [d] => { results := [.lit (.bool false)], args := [d] }
  | _ => none }
def FnExactFixedElementsWrongFalsely : Prop := fnExactFixedElementsRow.holds Try.pinned (OpenSpec.ofChange fnExactFixedElementsWrong)

/-- 'laws.FnExactWholeGroupOrder': WHATEVER THE INPUT: true; the input reads as it did. -/
def fnExactWholeGroupOrderSpec : ChangeSpec := { name := "fnExactWholeGroupOrder", fn := fun _ => fun
  | [d] => { results := [.lit (.bool true)], args := [d] }
  | _ => none }
def fnExactWholeGroupOrderRow : OpenClaim := { program := "ytmojfojdkolaiaa", sum := "f53c8291c1e9ded3f502ce247352e07a840cb75d269bab55f9cf4e7050f83816", func := "loop.example/g01119/laws.FnExactWholeGroupOrder", spec := "fnExactWholeGroupOrder", unfollowed := true, recurses := true, apart := false }
def FnExactWholeGroupOrderSaid : Prop := fnExactWholeGroupOrderRow.holds Try.pinned (OpenSpec.ofChange fnExactWholeGroupOrderSpec)

/-- ITS FALSE NEIGHBOUR: 'it returns false'. Refute it at one input. -/
def fnExactWholeGroupOrderWrong : ChangeSpec := { name := "fnExactWholeGroupOrder", fn := fun _ => fun
  | [d] => { results := [.lit (.bool false)], args := [d] }
  | _ => none }
def FnExactWholeGroupOrderWrongFalsely : Prop := fnExactWholeGroupOrderRow.holds Try.pinned (OpenSpec.ofChange fnExactWholeGroupOrderWrong)

/-- 'laws.FnExactDecompositionOf': WHATEVER THE INPUT: true; the input reads as it did. -/
def fnExactDecompositionOfSpec : ChangeSpec := { name := "fnExactDecompositionOf", fn := fun _ => fun
  | [d] => { results := [.lit (.bool true)], args := [d] }
  | _ => none }
def fnExactDecompositionOfRow : OpenClaim := { program := "ytmojfojdkolaiaa", sum := "f53c8291c1e9ded3f502ce247352e07a840cb75d269bab55f9cf4e7050f83816", func := "loop.example/g01119/laws.FnExactDecompositionOf", spec := "fnExactDecompositionOf", unfollowed := true, recurses := true, apart := false }
def FnExactDecompositionOfSaid : Prop := fnExactDecompositionOfRow.holds Try.pinned (OpenSpec.ofChange fnExactDecompositionOfSpec)

/-- ITS FALSE NEIGHBOUR: 'it returns false'. Refute it at one input. -/
def fnExactDecompositionOfWrong : ChangeSpec := { name := "fnExactDecompositionOf", fn := fun _ => fun
  | [d] => { results := [.lit (.bool false)], args := [d] }
  | _ => none }
def FnExactDecompositionOfWrongFalsely : Prop := fnExactDecompositionOfRow.holds Try.pinned (OpenSpec.ofChange fnExactDecompositionOfWrong)

/-- 'laws.FnExactLevelOf': WHATEVER THE INPUT: true; the input reads as it did. -/
def fnExactLevelOfSpec : ChangeSpec := { name := "fnExactLevelOf", fn := fun _ => fun
  | [d] => { results := [.lit (.bool true)], args := [d] }
  | _ => none }
def fnExactLevelOfRow : OpenClaim := { program := "ytmojfojdkolaiaa", sum := "f53c8291c1e9ded3f502ce247352e07a840cb75d269bab55f9cf4e7050f83816", func := "loop.example/g01119/laws.FnExactLevelOf", spec := "fnExactLevelOf", unfollowed := true, recurses := true, apart := false }
def FnExactLevelOfSaid : Prop := fnExactLevelOfRow.holds Try.pinned (OpenSpec.ofChange fnExactLevelOfSpec)

/-- ITS FALSE NEIGHBOUR: 'it returns false'. Refute it at one input. -/
def fnExactLevelOfWrong : ChangeSpec := { name := "fnExactLevelOf", fn := fun _ => fun
  | [d] => { results := [.lit (.bool false)], args := [d] }
  | _ => none }
def FnExactLevelOfWrongFalsely : Prop := fnExactLevelOfRow.holds Try.pinned (OpenSpec.ofChange fnExactLevelOfWrong)

/-- 'laws.FnExactRetractOf': WHATEVER THE INPUT: true; the input reads as it did. -/
def fnExactRetractOfSpec : ChangeSpec := { name := "fnExactRetractOf", fn := fun _ => fun
  | [d] => { results := [.lit (.bool true)], args := [d] }
  | _ => none }
def fnExactRetractOfRow : OpenClaim := { program := "ytmojfojdkolaiaa", sum := "f53c8291c1e9ded3f502ce247352e07a840cb75d269bab55f9cf4e7050f83816", func := "loop.example/g01119/laws.FnExactRetractOf", spec := "fnExactRetractOf", unfollowed := true, recurses := true, apart := false }
def FnExactRetractOfSaid : Prop := fnExactRetractOfRow.holds Try.pinned (OpenSpec.ofChange fnExactRetractOfSpec)

/-- ITS FALSE NEIGHBOUR: 'it returns false'. Refute it at one input. -/
def fnExactRetractOfWrong : ChangeSpec := { name := "fnExactRetractOf", fn := fun _ => fun
  | [d] => { results := [.lit (.bool false)], args := [d] }
  | _ => none }
def FnExactRetractOfWrongFalsely : Prop := fnExactRetractOfRow.holds Try.pinned (OpenSpec.ofChange fnExactRetractOfWrong)

/-- 'laws.FnExactRetractSizes': WHATEVER THE INPUT: true; the input reads as it did. -/
def fnExactRetractSizesSpec : ChangeSpec := { name := "fnExactRetractSizes", fn := fun _ => fun
  | [d] => { results := [.lit (.bool true)], args := [d] }
  | _ => none }
def fnExactRetractSizesRow : OpenClaim := { program := "ytmojfojdkolaiaa", sum := "f53c8291c1e9ded3f502ce247352e07a840cb75d269bab55f9cf4e7050f83816", func := "loop.example/g01119/laws.FnExactRetractSizes", spec := "fnExactRetractSizes", unfollowed := true, recurses := true, apart := false }
def FnExactRetractSizesSaid : Prop := fnExactRetractSizesRow.holds Try.pinned (OpenSpec.ofChange fnExactRetractSizesSpec)

/-- ITS FALSE NEIGHBOUR: 'it returns false'. Refute it at one input. -/
def fnExactRetractSizesWrong : ChangeSpec := { name := "fnExactRetractSizes", fn := fun _ => fun
  | [d] => { results := [.lit (.bool false)], args := [d] }
  | _ => none }
def FnExactRetractSizesWrongFalsely : Prop := fnExactRetractSizesRow.holds Try.pinned (OpenSpec.ofChange fnExactRetractSizesWrong)

/-- 'laws.FnExactIsPrimitiveSolution': WHATEVER THE INPUT: true; the input reads as it did. -/
def fnExactIsPrimitiveSolutionSpec : ChangeSpec := { name := "fnExactIsPrimitiveSolution", fn := fun _ => fun
  | [d] => { results := [.lit (.bool true)], args := [d] }
  | _ => none }
def fnExactIsPrimitiveSolutionRow : OpenClaim := { program := "ytmojfojdkolaiaa", sum := "f53c8291c1e9ded3f502ce247352e07a840cb75d269bab55f9cf4e7050f83816", func := "loop.example/g01119/laws.FnExactIsPrimitiveSolution", spec := "fnExactIsPrimitiveSolution", unfollowed := true, recurses := true, apart := false }
def FnExactIsPrimitiveSolutionSaid : Prop := fnExactIsPrimitiveSolutionRow.holds Try.pinned (OpenSpec.ofChange fnExactIsPrimitiveSolutionSpec)

/-- ITS FALSE NEIGHBOUR: 'it returns false'. Refute it at one input. -/
def fnExactIsPrimitiveSolutionWrong : ChangeSpec := { name := "fnExactIsPrimitiveSolution", fn := fun _ => fun
  | [d] => { results := [.lit (.bool false)], args := [d] }
  | _ => none }
def FnExactIsPrimitiveSolutionWrongFalsely : Prop := fnExactIsPrimitiveSolutionRow.holds Try.pinned (OpenSpec.ofChange fnExactIsPrimitiveSolutionWrong)

/-- 'laws.FnExactSeriesLabels': WHATEVER THE INPUT: true; the input reads as it did. -/
def fnExactSeriesLabelsSpec : ChangeSpec := { name := "fnExactSeriesLabels", fn := fun _ => fun
  | [d1, d2] => { results := [.lit (.bool true)], args := [d1, d2] }
  | _ => none }
def fnExactSeriesLabelsRow : OpenClaim := { program := "ytmojfojdkolaiaa", sum := "f53c8291c1e9ded3f502ce247352e07a840cb75d269bab55f9cf4e7050f83816", func := "loop.example/g01119/laws.FnExactSeriesLabels", spec := "fnExactSeriesLabels", unfollowed := true, recurses := true, apart := false }
def FnExactSeriesLabelsSaid : Prop := fnExactSeriesLabelsRow.holds Try.pinned (OpenSpec.ofChange fnExactSeriesLabelsSpec)

/-- ITS FALSE NEIGHBOUR: 'it returns false'. Refute it at one input. -/
def fnExactSeriesLabelsWrong : ChangeSpec := { name := "fnExactSeriesLabels", fn := fun _ => fun
  | [d1, d2] => { results := [.lit (.bool false)], args := [d1, d2] }
  | _ => none }
def FnExactSeriesLabelsWrongFalsely : Prop := fnExactSeriesLabelsRow.holds Try.pinned (OpenSpec.ofChange fnExactSeriesLabelsWrong)

/-- 'laws.FnExactLastRetract': WHATEVER THE INPUT: true; the input reads as it did. -/
def fnExactLastRetractSpec : ChangeSpec := { name := "fnExactLastRetract", fn := fun _ => fun
  | [d] => { results := [.lit (.bool true)], args := [d] }
  | _ => none }
def fnExactLastRetractRow : OpenClaim := { program := "ytmojfojdkolaiaa", sum := "f53c8291c1e9ded3f502ce247352e07a840cb75d269bab55f9cf4e7050f83816", func := "loop.example/g01119/laws.FnExactLastRetract", spec := "fnExactLastRetract", unfollowed := true, recurses := true, apart := false }
def FnExactLastRetractSaid : Prop := fnExactLastRetractRow.holds Try.pinned (OpenSpec.ofChange fnExactLastRetractSpec)

/-- ITS FALSE NEIGHBOUR: 'it returns false'. Refute it at one input. -/
def fnExactLastRetractWrong : ChangeSpec := { name := "fnExactLastRetract", fn := fun _ => fun
  | [d] => { results := [.lit (.bool false)], args := [d] }
  | _ => none }
def FnExactLastRetractWrongFalsely : Prop := fnExactLastRetractRow.holds Try.pinned (OpenSpec.ofChange fnExactLastRetractWrong)

/- THE SECOND FORM. 'bulk': how many values and letters a reading holds, each counted each time it is reached (what is shared counts as often as it is met; a slice's spare places count too). A statement '..UptoSaid' is the law's where the arguments, and the package variables that the reading takes, are together of bulk at most 1048576: NARROWER than '..Said'. Prove '..Said' where nothing that the law and all that it calls make is longer than what came in: it says more and counts as full. Else prove '..UptoSaid'. A law counts once. -/
mutual
def uptoBulk {H : Type} : DataW H → Nat
  | .lit (.string bytes) => bytes.length + 1
  | .lit _ => 1
  | .nil => 1
  | .ptr d => uptoBulk d + 1
  | .slice elems spare => uptoBulkAll elems + uptoBulkAll spare + 1
  | .agg parts => uptoBulkAll parts + 1
  | .iface _ d => uptoBulk d + 1
  | .map entries => uptoBulkEntries entries + 1
  | .held _ => 1
def uptoBulkAll {H : Type} : List (DataW H) → Nat
  | [] => 0
  | d :: r => uptoBulk d + uptoBulkAll r
def uptoBulkEntries {H : Type} : List (Lit × DataW H) → Nat
  | [] => 0
  | x :: r => uptoBulkEntry x + uptoBulkEntries r
def uptoBulkEntry {H : Type} : Lit × DataW H → Nat
  | (.string bytes, d) => bytes.length + uptoBulk d + 1
  | (_, d) => uptoBulk d + 1
 end
def uptoSmall : (H : Type) → List (DataW H) → Bool := fun _ ds => decide (uptoBulkAll ds ≤ 1048576)
def OpenSpec.upto (s : _root_.Go.ChangeSpec) : _root_.Go.OpenSpec := { _root_.Go.OpenSpec.ofChange s with cond := some uptoSmall }

/-- 'laws.FnExactOrbitsOfSolution', WHERE WHAT IT READS IS OF BULK AT MOST 1048576: true; the input reads as it did. -/
def fnExactOrbitsOfSolutionUptoRow : OpenClaim := { program := "ytmojfojdkolaiaa", sum := "f53c8291c1e9ded3f502ce247352e07a840cb75d269bab55f9cf4e7050f83816", func := "loop.example/g01119/laws.FnExactOrbitsOfSolution", spec := "fnExactOrbitsOfSolution", unfollowed := true, recurses := true, apart := false, narrowed := true }
def FnExactOrbitsOfSolutionUptoSaid : Prop := fnExactOrbitsOfSolutionUptoRow.holds Try.pinned (OpenSpec.upto fnExactOrbitsOfSolutionSpec)

/-- 'laws.FnExactTwistedSolution', WHERE WHAT IT READS IS OF BULK AT MOST 1048576: true; the input reads as it did. -/
def fnExactTwistedSolutionUptoRow : OpenClaim := { program := "ytmojfojdkolaiaa", sum := "f53c8291c1e9ded3f502ce247352e07a840cb75d269bab55f9cf4e7050f83816", func := "loop.example/g01119/laws.FnExactTwistedSolution", spec := "fnExactTwistedSolution", unfollowed := true, recurses := true, apart := false, narrowed := true }
def FnExactTwistedSolutionUptoSaid : Prop := fnExactTwistedSolutionUptoRow.holds Try.pinned (OpenSpec.upto fnExactTwistedSolutionSpec)

/-- 'laws.FnExactIsIrretractable', WHERE WHAT IT READS IS OF BULK AT MOST 1048576: true; the input reads as it did. -/
def fnExactIsIrretractableUptoRow : OpenClaim := { program := "ytmojfojdkolaiaa", sum := "f53c8291c1e9ded3f502ce247352e07a840cb75d269bab55f9cf4e7050f83816", func := "loop.example/g01119/laws.FnExactIsIrretractable", spec := "fnExactIsIrretractable", unfollowed := true, recurses := true, apart := false, narrowed := true }
def FnExactIsIrretractableUptoSaid : Prop := fnExactIsIrretractableUptoRow.holds Try.pinned (OpenSpec.upto fnExactIsIrretractableSpec)

/-- 'laws.FnExactFixedElements', WHERE WHAT IT READS IS OF BULK AT MOST 1048576: true; the input reads as it did. -/
def fnExactFixedElementsUptoRow : OpenClaim := { program := "ytmojfojdkolaiaa", sum := "f53c8291c1e9ded3f502ce247352e07a840cb75d269bab55f9cf4e7050f83816", func := "loop.example/g01119/laws.FnExactFixedElements", spec := "fnExactFixedElements", unfollowed := true, recurses := true, apart := false, narrowed := true }
def FnExactFixedElementsUptoSaid : Prop := fnExactFixedElementsUptoRow.holds Try.pinned (OpenSpec.upto fnExactFixedElementsSpec)

/-- 'laws.FnExactWholeGroupOrder', WHERE WHAT IT READS IS OF BULK AT MOST 1048576: true; the input reads as it did. -/
def fnExactWholeGroupOrderUptoRow : OpenClaim := { program := "ytmojfojdkolaiaa", sum := "f53c8291c1e9ded3f502ce247352e07a840cb75d269bab55f9cf4e7050f83816", func := "loop.example/g01119/laws.FnExactWholeGroupOrder", spec := "fnExactWholeGroupOrder", unfollowed := true, recurses := true, apart := false, narrowed := true }
def FnExactWholeGroupOrderUptoSaid : Prop := fnExactWholeGroupOrderUptoRow.holds Try.pinned (OpenSpec.upto fnExactWholeGroupOrderSpec)

/-- 'laws.FnExactDecompositionOf', WHERE WHAT IT READS IS OF BULK AT MOST 1048576: true; the input reads as it did. -/
def fnExactDecompositionOfUptoRow : OpenClaim := { program := "ytmojfojdkolaiaa", sum := "f53c8291c1e9ded3f502ce247352e07a840cb75d269bab55f9cf4e7050f83816", func := "loop.example/g01119/laws.FnExactDecompositionOf", spec := "fnExactDecompositionOf", unfollowed := true, recurses := true, apart := false, narrowed := true }
def FnExactDecompositionOfUptoSaid : Prop := fnExactDecompositionOfUptoRow.holds Try.pinned (OpenSpec.upto fnExactDecompositionOfSpec)

/-- 'laws.FnExactLevelOf', WHERE WHAT IT READS IS OF BULK AT MOST 1048576: true; the input reads as it did. -/
def fnExactLevelOfUptoRow : OpenClaim := { program := "ytmojfojdkolaiaa", sum := "f53c8291c1e9ded3f502ce247352e07a840cb75d269bab55f9cf4e7050f83816", func := "loop.example/g01119/laws.FnExactLevelOf", spec := "fnExactLevelOf", unfollowed := true, recurses := true, apart := false, narrowed := true }
def FnExactLevelOfUptoSaid : Prop := fnExactLevelOfUptoRow.holds Try.pinned (OpenSpec.upto fnExactLevelOfSpec)

/-- 'laws.FnExactRetractOf', WHERE WHAT IT READS IS OF BULK AT MOST 1048576: true; the input reads as it did. -/
def fnExactRetractOfUptoRow : OpenClaim := { program := "ytmojfojdkolaiaa", sum := "f53c8291c1e9ded3f502ce247352e07a840cb75d269bab55f9cf4e7050f83816", func := "loop.example/g01119/laws.FnExactRetractOf", spec := "fnExactRetractOf", unfollowed := true, recurses := true, apart := false, narrowed := true }
def FnExactRetractOfUptoSaid : Prop := fnExactRetractOfUptoRow.holds Try.pinned (OpenSpec.upto fnExactRetractOfSpec)

/-- 'laws.FnExactRetractSizes', WHERE WHAT IT READS IS OF BULK AT MOST 1048576: true; the input reads as it did. -/
def fnExactRetractSizesUptoRow : OpenClaim := { program := "ytmojfojdkolaiaa", sum := "f53c8291c1e9ded3f502ce247352e07a840cb75d269bab55f9cf4e7050f83816", func := "loop.example/g01119/laws.FnExactRetractSizes", spec := "fnExactRetractSizes", unfollowed := true, recurses := true, apart := false, narrowed := true }
def FnExactRetractSizesUptoSaid : Prop := fnExactRetractSizesUptoRow.holds Try.pinned (OpenSpec.upto fnExactRetractSizesSpec)

/-- 'laws.FnExactIsPrimitiveSolution', WHERE WHAT IT READS IS OF BULK AT MOST 1048576: true; the input reads as it did. -/
def fnExactIsPrimitiveSolutionUptoRow : OpenClaim := { program := "ytmojfojdkolaiaa", sum := "f53c8291c1e9ded3f502ce247352e07a840cb75d269bab55f9cf4e7050f83816", func := "loop.example/g01119/laws.FnExactIsPrimitiveSolution", spec := "fnExactIsPrimitiveSolution", unfollowed := true, recurses := true, apart := false, narrowed := true }
def FnExactIsPrimitiveSolutionUptoSaid : Prop := fnExactIsPrimitiveSolutionUptoRow.holds Try.pinned (OpenSpec.upto fnExactIsPrimitiveSolutionSpec)

/-- 'laws.FnExactSeriesLabels', WHERE WHAT IT READS IS OF BULK AT MOST 1048576: true; the input reads as it did. -/
def fnExactSeriesLabelsUptoRow : OpenClaim := { program := "ytmojfojdkolaiaa", sum := "f53c8291c1e9ded3f502ce247352e07a840cb75d269bab55f9cf4e7050f83816", func := "loop.example/g01119/laws.FnExactSeriesLabels", spec := "fnExactSeriesLabels", unfollowed := true, recurses := true, apart := false, narrowed := true }
def FnExactSeriesLabelsUptoSaid : Prop := fnExactSeriesLabelsUptoRow.holds Try.pinned (OpenSpec.upto fnExactSeriesLabelsSpec)

/-- 'laws.FnExactLastRetract', WHERE WHAT IT READS IS OF BULK AT MOST 1048576: true; the input reads as it did. -/
def fnExactLastRetractUptoRow : OpenClaim := { program := "ytmojfojdkolaiaa", sum := "f53c8291c1e9ded3f502ce247352e07a840cb75d269bab55f9cf4e7050f83816", func := "loop.example/g01119/laws.FnExactLastRetract", spec := "fnExactLastRetract", unfollowed := true, recurses := true, apart := false, narrowed := true }
def FnExactLastRetractUptoSaid : Prop := fnExactLastRetractUptoRow.holds Try.pinned (OpenSpec.upto fnExactLastRetractSpec)

end Rows
end Go.Proofs.Ytmojfojdkolaiaa
