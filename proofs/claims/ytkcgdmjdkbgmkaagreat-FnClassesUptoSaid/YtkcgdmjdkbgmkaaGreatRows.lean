/-
  No cell of these rows narrows 'for every input' (looked for: loops, veiled, ifaces, maps, wideKeys, modest, calm, conditions, laid).
  DERIVED. THE GIVEN ROWS OF THIS SEAT. 7 by the template 'for every input the law returns true; each argument reads behind the call as it read before'; 0 by the template 'total and deterministic' (their statements: YtkcgdmjdkbgmkaaGreatTotals.lean).
  GIVEN WITH THE SEED: the statements are not yours to turn. If you find one false, say at which input.
  Laid BY PROGRAM, IN A SANDBOX (cutbox-rows.mjs): the forced cells as the released guide's own fill.sh prints them over the translation f15d3af5be89554c… (all of the seat's roots in one cut). By AI agents, Wed Nov 11 2026. No macro, syntax, notation, axiom, sorry.
-/
import Derived.Test.YtkcgdmjdkbgmkaaGreatChecked
import GoSem.Claim
import GoSem.ClaimJoined
import GoSem.ClaimMapViews
import Derived.JoinedTies
import Derived.KernelRfl
namespace Go.Proofs.YtkcgdmjdkbgmkaaGreat
/- THE CELL 'sum', in the pinned program and in every row, IS THE sha256 OF THE DUMP (.gsa) THAT YtkcgdmjdkbgmkaaGreatProg.lean LOADS. Nothing in Lean hashes anything: it is a label: what it is worth is what the hold of that sum in a sandbox is worth. -/
noncomputable def Tryz.pinned : Pinned := { name := "ytkcgdmjdkbgmkaagreat", sum := "f15d3af5be89554c6cd29061de29d1a448f5c6285f3571489ad90d4a3c1a5cc9", checked := Tryz.checked }
namespace Rows
def none {H : Type} : Left H := { results := [], args := [] }

/-- 'laws.FnSolutionGroups': WHATEVER THE INPUT: true; the input reads as it did. -/
def fnSolutionGroupsSpec : ChangeSpec := { name := "fnSolutionGroups", fn := fun _ => fun
  | [d] => { results := [.lit (.bool true)], args := [d] }
  | _ => none }
def fnSolutionGroupsRow : OpenClaim := { program := "ytkcgdmjdkbgmkaagreat", sum := "f15d3af5be89554c6cd29061de29d1a448f5c6285f3571489ad90d4a3c1a5cc9", func := "loop.example/g01119/laws.FnSolutionGroups", spec := "fnSolutionGroups", unfollowed := true, recurses := true, apart := false }
def FnSolutionGroupsSaid : Prop := fnSolutionGroupsRow.holds Tryz.pinned (OpenSpec.ofChange fnSolutionGroupsSpec)

/-- ITS FALSE NEIGHBOUR: 'it returns false'. Refute it at one input. -/
def fnSolutionGroupsWrong : ChangeSpec := { name := "fnSolutionGroups", fn := fun _ => fun
  | [d] => { results := [.lit (.bool false)], args := [d] }
  | _ => none }
def FnSolutionGroupsWrongFalsely : Prop := fnSolutionGroupsRow.holds Tryz.pinned (OpenSpec.ofChange fnSolutionGroupsWrong)

/-- 'laws.FnClassCounts': WHATEVER THE INPUT: true; the input reads as it did. -/
def fnClassCountsSpec : ChangeSpec := { name := "fnClassCounts", fn := fun _ => fun
  | [d] => { results := [.lit (.bool true)], args := [d] }
  | _ => none }
def fnClassCountsRow : OpenClaim := { program := "ytkcgdmjdkbgmkaagreat", sum := "f15d3af5be89554c6cd29061de29d1a448f5c6285f3571489ad90d4a3c1a5cc9", func := "loop.example/g01119/laws.FnClassCounts", spec := "fnClassCounts", unfollowed := true, recurses := true, apart := false }
def FnClassCountsSaid : Prop := fnClassCountsRow.holds Tryz.pinned (OpenSpec.ofChange fnClassCountsSpec)

/-- ITS FALSE NEIGHBOUR: 'it returns false'. Refute it at one input. -/
def fnClassCountsWrong : ChangeSpec := { name := "fnClassCounts", fn := fun _ => fun
  | [d] => { results := [.lit (.bool false)], args := [d] }
  | _ => none }
def FnClassCountsWrongFalsely : Prop := fnClassCountsRow.holds Tryz.pinned (OpenSpec.ofChange fnClassCountsWrong)

/-- 'laws.FnTupleOrbits': WHATEVER THE INPUT: true; the input reads as it did. -/
def fnTupleOrbitsSpec : ChangeSpec := { name := "fnTupleOrbits", fn := fun _ => fun
  | [d] => { results := [.lit (.bool true)], args := [d] }
  | _ => none }
def fnTupleOrbitsRow : OpenClaim := { program := "ytkcgdmjdkbgmkaagreat", sum := "f15d3af5be89554c6cd29061de29d1a448f5c6285f3571489ad90d4a3c1a5cc9", func := "loop.example/g01119/laws.FnTupleOrbits", spec := "fnTupleOrbits", unfollowed := true, recurses := true, apart := false }
def FnTupleOrbitsSaid : Prop := fnTupleOrbitsRow.holds Tryz.pinned (OpenSpec.ofChange fnTupleOrbitsSpec)

/-- ITS FALSE NEIGHBOUR: 'it returns false'. Refute it at one input. -/
def fnTupleOrbitsWrong : ChangeSpec := { name := "fnTupleOrbits", fn := fun _ => fun
  | [d] => { results := [.lit (.bool false)], args := [d] }
  | _ => none }
def FnTupleOrbitsWrongFalsely : Prop := fnTupleOrbitsRow.holds Tryz.pinned (OpenSpec.ofChange fnTupleOrbitsWrong)

/-- 'laws.FnLevels': WHATEVER THE INPUT: true; the input reads as it did. -/
def fnLevelsSpec : ChangeSpec := { name := "fnLevels", fn := fun _ => fun
  | [d] => { results := [.lit (.bool true)], args := [d] }
  | _ => none }
def fnLevelsRow : OpenClaim := { program := "ytkcgdmjdkbgmkaagreat", sum := "f15d3af5be89554c6cd29061de29d1a448f5c6285f3571489ad90d4a3c1a5cc9", func := "loop.example/g01119/laws.FnLevels", spec := "fnLevels", unfollowed := true, recurses := true, apart := false }
def FnLevelsSaid : Prop := fnLevelsRow.holds Tryz.pinned (OpenSpec.ofChange fnLevelsSpec)

/-- ITS FALSE NEIGHBOUR: 'it returns false'. Refute it at one input. -/
def fnLevelsWrong : ChangeSpec := { name := "fnLevels", fn := fun _ => fun
  | [d] => { results := [.lit (.bool false)], args := [d] }
  | _ => none }
def FnLevelsWrongFalsely : Prop := fnLevelsRow.holds Tryz.pinned (OpenSpec.ofChange fnLevelsWrong)

/-- 'laws.FnDerivedRacks': WHATEVER THE INPUT: true; the input reads as it did. -/
def fnDerivedRacksSpec : ChangeSpec := { name := "fnDerivedRacks", fn := fun _ => fun
  | [d] => { results := [.lit (.bool true)], args := [d] }
  | _ => none }
def fnDerivedRacksRow : OpenClaim := { program := "ytkcgdmjdkbgmkaagreat", sum := "f15d3af5be89554c6cd29061de29d1a448f5c6285f3571489ad90d4a3c1a5cc9", func := "loop.example/g01119/laws.FnDerivedRacks", spec := "fnDerivedRacks", unfollowed := true, recurses := true, apart := false }
def FnDerivedRacksSaid : Prop := fnDerivedRacksRow.holds Tryz.pinned (OpenSpec.ofChange fnDerivedRacksSpec)

/-- ITS FALSE NEIGHBOUR: 'it returns false'. Refute it at one input. -/
def fnDerivedRacksWrong : ChangeSpec := { name := "fnDerivedRacks", fn := fun _ => fun
  | [d] => { results := [.lit (.bool false)], args := [d] }
  | _ => none }
def FnDerivedRacksWrongFalsely : Prop := fnDerivedRacksRow.holds Tryz.pinned (OpenSpec.ofChange fnDerivedRacksWrong)

/-- 'laws.FnDualCycles': WHATEVER THE INPUT: true; the input reads as it did. -/
def fnDualCyclesSpec : ChangeSpec := { name := "fnDualCycles", fn := fun _ => fun
  | [d] => { results := [.lit (.bool true)], args := [d] }
  | _ => none }
def fnDualCyclesRow : OpenClaim := { program := "ytkcgdmjdkbgmkaagreat", sum := "f15d3af5be89554c6cd29061de29d1a448f5c6285f3571489ad90d4a3c1a5cc9", func := "loop.example/g01119/laws.FnDualCycles", spec := "fnDualCycles", unfollowed := true, recurses := true, apart := false }
def FnDualCyclesSaid : Prop := fnDualCyclesRow.holds Tryz.pinned (OpenSpec.ofChange fnDualCyclesSpec)

/-- ITS FALSE NEIGHBOUR: 'it returns false'. Refute it at one input. -/
def fnDualCyclesWrong : ChangeSpec := { name := "fnDualCycles", fn := fun _ => fun
  | [d] => { results := [.lit (.bool false)], args := [d] }
  | _ => none }
def FnDualCyclesWrongFalsely : Prop := fnDualCyclesRow.holds Tryz.pinned (OpenSpec.ofChange fnDualCyclesWrong)

/-- 'laws.FnClasses': WHATEVER THE INPUT: true; the input reads as it did. -/
def fnClassesSpec : ChangeSpec := { name := "fnClasses", fn := fun _ => fun
  | [d] => { results := [.lit (.bool true)], args := [d] }
  | _ => none }
def fnClassesRow : OpenClaim := { program := "ytkcgdmjdkbgmkaagreat", sum := "f15d3af5be89554c6cd29061de29d1a448f5c6285f3571489ad90d4a3c1a5cc9", func := "loop.example/g01119/laws.FnClasses", spec := "fnClasses", unfollowed := true, recurses := true, apart := false }
def FnClassesSaid : Prop := fnClassesRow.holds Tryz.pinned (OpenSpec.ofChange fnClassesSpec)

/-- ITS FALSE NEIGHBOUR: 'it returns false'. Refute it at one input. -/
def fnClassesWrong : ChangeSpec := { name := "fnClasses", fn := fun _ => fun
  | [d] => { results := [.lit (.bool false)], args := [d] }
  | _ => none }
def FnClassesWrongFalsely : Prop := fnClassesRow.holds Tryz.pinned (OpenSpec.ofChange fnClassesWrong)

/- THE SECOND FORM. 'bulk': how many values and letters a reading holds, each counted each time it is reached (what is shared counts as often as it is met; a slice's spare places count too). A statement '..UptoSaid' is the law's where the arguments, and the package variables that the reading takes, are together of bulk at most 1048576: NARROWER than '..Said'. Prove '..Said' where nothing that the law and all that it calls make is longer than what came in: it says more and counts as full. Else prove '..UptoSaid'. A law counts once. -/
mutual
def uptoBulk {H : Type} : DataW H → Nat
  | .lit (.string bytes) => bytes.length + 1
  | .lit _ => 1
  | .nil => 1
  | .ptr d => uptoBulk d + 1
  | .slice elems spare => uptoBulkAll elems + uptoBulkAll spare + 1
  | .agg parts => uptoBulkAll parts + 1
  | .iface _ d => uptoBulk d + 1
  | .map entries => uptoBulkEntries entries + 1
  | .held _ => 1
def uptoBulkAll {H : Type} : List (DataW H) → Nat
  | [] => 0
  | d :: r => uptoBulk d + uptoBulkAll r
def uptoBulkEntries {H : Type} : List (Lit × DataW H) → Nat
  | [] => 0
  | x :: r => uptoBulkEntry x + uptoBulkEntries r
def uptoBulkEntry {H : Type} : Lit × DataW H → Nat
  | (.string bytes, d) => bytes.length + uptoBulk d + 1
  | (_, d) => uptoBulk d + 1
 end
def uptoSmall : (H : Type) → List (DataW H) → Bool := fun _ ds => decide (uptoBulkAll ds ≤ 1048576)
def OpenSpec.upto (s : _root_.Go.ChangeSpec) : _root_.Go.OpenSpec := { _root_.Go.OpenSpec.ofChange s with cond := some uptoSmall }

/-- 'laws.FnSolutionGroups', WHERE WHAT IT READS IS OF BULK AT MOST 1048576: true; the input reads as it did. -/
def fnSolutionGroupsUptoRow : OpenClaim := { program := "ytkcgdmjdkbgmkaagreat", sum := "f15d3af5be89554c6cd29061de29d1a448f5c6285f3571489ad90d4a3c1a5cc9", func := "loop.example/g01119/laws.FnSolutionGroups", spec := "fnSolutionGroups", unfollowed := true, recurses := true, apart := false, narrowed := true }
def FnSolutionGroupsUptoSaid : Prop := fnSolutionGroupsUptoRow.holds Tryz.pinned (OpenSpec.upto fnSolutionGroupsSpec)

/-- 'laws.FnClassCounts', WHERE WHAT IT READS IS OF BULK AT MOST 1048576: true; the input reads as it did. -/
def fnClassCountsUptoRow : OpenClaim := { program := "ytkcgdmjdkbgmkaagreat", sum := "f15d3af5be89554c6cd29061de29d1a448f5c6285f3571489ad90d4a3c1a5cc9", func := "loop.example/g01119/laws.FnClassCounts", spec := "fnClassCounts", unfollowed := true, recurses := true, apart := false, narrowed := true }
def FnClassCountsUptoSaid : Prop := fnClassCountsUptoRow.holds Tryz.pinned (OpenSpec.upto fnClassCountsSpec)

/-- 'laws.FnTupleOrbits', WHERE WHAT IT READS IS OF BULK AT MOST 1048576: true; the input reads as it did. -/
def fnTupleOrbitsUptoRow : OpenClaim := { program := "ytkcgdmjdkbgmkaagreat", sum := "f15d3af5be89554c6cd29061de29d1a448f5c6285f3571489ad90d4a3c1a5cc9", func := "loop.example/g01119/laws.FnTupleOrbits", spec := "fnTupleOrbits", unfollowed := true, recurses := true, apart := false, narrowed := true }
def FnTupleOrbitsUptoSaid : Prop := fnTupleOrbitsUptoRow.holds Tryz.pinned (OpenSpec.upto fnTupleOrbitsSpec)

/-- 'laws.FnLevels', WHERE WHAT IT READS IS OF BULK AT MOST 1048576: true; the input reads as it did. -/
def fnLevelsUptoRow : OpenClaim := { program := "ytkcgdmjdkbgmkaagreat", sum := "f15d3af5be89554c6cd29061de29d1a448f5c6285f3571489ad90d4a3c1a5cc9", func := "loop.example/g01119/laws.FnLevels", spec := "fnLevels", unfollowed := true, recurses := true, apart := false, narrowed := true }
def FnLevelsUptoSaid : Prop := fnLevelsUptoRow.holds Tryz.pinned (OpenSpec.upto fnLevelsSpec)

/-- 'laws.FnDerivedRacks', WHERE WHAT IT READS IS OF BULK AT MOST 1048576: true; the input reads as it did. -/
def fnDerivedRacksUptoRow : OpenClaim := { program := "ytkcgdmjdkbgmkaagreat", sum := "f15d3af5be89554c6cd29061de29d1a448f5c6285f3571489ad90d4a3c1a5cc9", func := "loop.example/g01119/laws.FnDerivedRacks", spec := "fnDerivedRacks", unfollowed := true, recurses := true, apart := false, narrowed := true }
def FnDerivedRacksUptoSaid : Prop := fnDerivedRacksUptoRow.holds Tryz.pinned (OpenSpec.upto fnDerivedRacksSpec)

/-- 'laws.FnDualCycles', WHERE WHAT IT READS IS OF BULK AT MOST 1048576: true; the input reads as it did. -/
def fnDualCyclesUptoRow : OpenClaim := { program := "ytkcgdmjdkbgmkaagreat", sum := "f15d3af5be89554c6cd29061de29d1a448f5c6285f3571489ad90d4a3c1a5cc9", func := "loop.example/g01119/laws.FnDualCycles", spec := "fnDualCycles", unfollowed := true, recurses := true, apart := false, narrowed := true }
def FnDualCyclesUptoSaid : Prop := fnDualCyclesUptoRow.holds Tryz.pinned (OpenSpec.upto fnDualCyclesSpec)

/-- 'laws.FnClasses', WHERE WHAT IT READS IS OF BULK AT MOST 1048576: true; the input reads as it did. -/
def fnClassesUptoRow : OpenClaim := { program := "ytkcgdmjdkbgmkaagreat", sum := "f15d3af5be89554c6cd29061de29d1a448f5c6285f3571489ad90d4a3c1a5cc9", func := "loop.example/g01119/laws.FnClasses", spec := "fnClasses", unfollowed := true, recurses := true, apart := false, narrowed := true }
def FnClassesUptoSaid : Prop := fnClassesUptoRow.holds Tryz.pinned (OpenSpec.upto fnClassesSpec)

end Rows
end Go.Proofs.YtkcgdmjdkbgmkaaGreat
