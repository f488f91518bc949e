/-
  No cell of these rows narrows 'for every input' (looked for: loops, veiled, ifaces, maps, wideKeys, modest, calm, conditions, laid).
  DERIVED. THE GIVEN ROWS OF THIS SEAT. 12 by the template 'for every input the law returns true; each argument reads behind the call as it read before'; 0 by the template 'total and deterministic' (their statements: YtbjgmanbanhhiaaTotals.lean).
  GIVEN WITH THE SEED: the statements are not yours to turn. If you find one false, say at which input.
  Laid BY PROGRAM, IN A SANDBOX (cutbox-rows.mjs): the forced cells as the released guide's own fill.sh prints them over the translation 9c97be62c5c702cf… (all of the seat's roots in one cut). By AI agents, Wed Nov 11 2026. No macro, syntax, notation, axiom, sorry.
-/
import Derived.Test.YtbjgmanbanhhiaaChecked
import GoSem.Claim
import GoSem.ClaimJoined
import GoSem.ClaimMapViews
import Derived.JoinedTies
import Derived.KernelRfl
namespace Go.Proofs.Ytbjgmanbanhhiaa
/- THE CELL 'sum', in the pinned program and in every row, IS THE sha256 OF THE DUMP (.gsa) THAT YtbjgmanbanhhiaaProg.lean LOADS. Nothing in Lean hashes anything: it is a label: what it is worth is what the hold of that sum in a sandbox is worth. -/
noncomputable def Try.pinned : Pinned := { name := "ytbjgmanbanhhiaa", sum := "9c97be62c5c702cfbb15e3aef3192ea04f22e9c5b1ac0d055403e75905e9ecab", checked := Try.checked }
namespace Rows
def none {H : Type} : Left H := { results := [], args := [] }

/-- 'laws.FnExactLeftGroupOrder': WHATEVER THE INPUT: true; the input reads as it did. -/
def fnExactLeftGroupOrderSpec : ChangeSpec := { name := "fnExactLeftGroupOrder", fn := fun _ => fun
  | [d] => { results := [.lit (.bool true)], args := [d] }
  | _ => none }
def fnExactLeftGroupOrderRow : OpenClaim := { program := "ytbjgmanbanhhiaa", sum := "9c97be62c5c702cfbb15e3aef3192ea04f22e9c5b1ac0d055403e75905e9ecab", func := "loop.example/g01119/laws.FnExactLeftGroupOrder", spec := "fnExactLeftGroupOrder", unfollowed := true, recurses := true, apart := false }
def FnExactLeftGroupOrderSaid : Prop := fnExactLeftGroupOrderRow.holds Try.pinned (OpenSpec.ofChange fnExactLeftGroupOrderSpec)

/-- ITS FALSE NEIGHBOUR: 'it returns false'. Refute it at one input. -/
def fnExactLeftGroupOrderWrong : ChangeSpec := { name := "fnExactLeftGroupOrder", fn := fun _ => fun
  | [d] => { results := [.lit (.bool false)], args := [d] }
  | _ => none }
def FnExactLeftGroupOrderWrongFalsely : Prop := fnExactLeftGroupOrderRow.holds Try.pinned (OpenSpec.ofChange fnExactLeftGroupOrderWrong)

/-- 'laws.FnExactRightGroupOrder': WHATEVER THE INPUT: true; the input reads as it did. -/
def fnExactRightGroupOrderSpec : ChangeSpec := { name := "fnExactRightGroupOrder", fn := fun _ => fun
  | [d] => { results := [.lit (.bool true)], args := [d] }
  | _ => none }
def fnExactRightGroupOrderRow : OpenClaim := { program := "ytbjgmanbanhhiaa", sum := "9c97be62c5c702cfbb15e3aef3192ea04f22e9c5b1ac0d055403e75905e9ecab", func := "loop.example/g01119/laws.FnExactRightGroupOrder", spec := "fnExactRightGroupOrder", unfollowed := true, recurses := true, apart := false }
def FnExactRightGroupOrderSaid : Prop := fnExactRightGroupOrderRow.holds Try.pinned (OpenSpec.ofChange fnExactRightGroupOrderSpec)

/-- ITS FALSE NEIGHBOUR: 'it returns false'. Refute it at one input. -/
def fnExactRightGroupOrderWrong : ChangeSpec := { name := "fnExactRightGroupOrder", fn := fun _ => fun
  | [d] => { results := [.lit (.bool false)], args := [d] }
  | _ => none }
def FnExactRightGroupOrderWrongFalsely : Prop := fnExactRightGroupOrderRow.holds Try.pinned (OpenSpec.ofChange fnExactRightGroupOrderWrong)

/-- 'laws.FnExactClassSolution': WHATEVER THE INPUT: true; the input reads as it did. -/
def fnExactClassSolutionSpec : ChangeSpec := { name := "fnExactClassSolution", fn := fun _ => fun
  | [d1, d2] => { results := [.lit (.bool true)], args := [d1, d2] }
  | _ => none }
def fnExactClassSolutionRow : OpenClaim := { program := "ytbjgmanbanhhiaa", sum := "9c97be62c5c702cfbb15e3aef3192ea04f22e9c5b1ac0d055403e75905e9ecab", func := "loop.example/g01119/laws.FnExactClassSolution", spec := "fnExactClassSolution", unfollowed := true, recurses := true, apart := false }
def FnExactClassSolutionSaid : Prop := fnExactClassSolutionRow.holds Try.pinned (OpenSpec.ofChange fnExactClassSolutionSpec)

/-- ITS FALSE NEIGHBOUR: 'it returns false'. Refute it at one input. -/
def fnExactClassSolutionWrong : ChangeSpec := { name := "fnExactClassSolution", fn := fun _ => fun
  | [d1, d2] => { results := [.lit (.bool false)], args := [d1, d2] }
  | _ => none }
def FnExactClassSolutionWrongFalsely : Prop := fnExactClassSolutionRow.holds Try.pinned (OpenSpec.ofChange fnExactClassSolutionWrong)

/-- 'laws.FnExactBlockSystemOf': WHATEVER THE INPUT: true; the input reads as it did. -/
def fnExactBlockSystemOfSpec : ChangeSpec := { name := "fnExactBlockSystemOf", fn := fun _ => fun
  | [d1, d2, d3] => { results := [.lit (.bool true)], args := [d1, d2, d3] }
  | _ => none }
def fnExactBlockSystemOfRow : OpenClaim := { program := "ytbjgmanbanhhiaa", sum := "9c97be62c5c702cfbb15e3aef3192ea04f22e9c5b1ac0d055403e75905e9ecab", func := "loop.example/g01119/laws.FnExactBlockSystemOf", spec := "fnExactBlockSystemOf", unfollowed := true, recurses := true, apart := false }
def FnExactBlockSystemOfSaid : Prop := fnExactBlockSystemOfRow.holds Try.pinned (OpenSpec.ofChange fnExactBlockSystemOfSpec)

/-- ITS FALSE NEIGHBOUR: 'it returns false'. Refute it at one input. -/
def fnExactBlockSystemOfWrong : ChangeSpec := { name := "fnExactBlockSystemOf", fn := fun _ => fun
  | [d1, d2, d3] => { results := [.lit (.bool false)], args := [d1, d2, d3] }
  | _ => none }
def FnExactBlockSystemOfWrongFalsely : Prop := fnExactBlockSystemOfRow.holds Try.pinned (OpenSpec.ofChange fnExactBlockSystemOfWrong)

/-- 'laws.FnExactTupleOrbit': WHATEVER THE INPUT: true; the input reads as it did. -/
def fnExactTupleOrbitSpec : ChangeSpec := { name := "fnExactTupleOrbit", fn := fun _ => fun
  | [d1, d2] => { results := [.lit (.bool true)], args := [d1, d2] }
  | _ => none }
def fnExactTupleOrbitRow : OpenClaim := { program := "ytbjgmanbanhhiaa", sum := "9c97be62c5c702cfbb15e3aef3192ea04f22e9c5b1ac0d055403e75905e9ecab", func := "loop.example/g01119/laws.FnExactTupleOrbit", spec := "fnExactTupleOrbit", unfollowed := true, recurses := true, apart := false }
def FnExactTupleOrbitSaid : Prop := fnExactTupleOrbitRow.holds Try.pinned (OpenSpec.ofChange fnExactTupleOrbitSpec)

/-- ITS FALSE NEIGHBOUR: 'it returns false'. Refute it at one input. -/
def fnExactTupleOrbitWrong : ChangeSpec := { name := "fnExactTupleOrbit", fn := fun _ => fun
  | [d1, d2] => { results := [.lit (.bool false)], args := [d1, d2] }
  | _ => none }
def FnExactTupleOrbitWrongFalsely : Prop := fnExactTupleOrbitRow.holds Try.pinned (OpenSpec.ofChange fnExactTupleOrbitWrong)

/-- 'laws.FnExactAreEqualWords': WHATEVER THE INPUT: true; the input reads as it did. -/
def fnExactAreEqualWordsSpec : ChangeSpec := { name := "fnExactAreEqualWords", fn := fun _ => fun
  | [d1, d2, d3] => { results := [.lit (.bool true)], args := [d1, d2, d3] }
  | _ => none }
def fnExactAreEqualWordsRow : OpenClaim := { program := "ytbjgmanbanhhiaa", sum := "9c97be62c5c702cfbb15e3aef3192ea04f22e9c5b1ac0d055403e75905e9ecab", func := "loop.example/g01119/laws.FnExactAreEqualWords", spec := "fnExactAreEqualWords", unfollowed := true, recurses := true, apart := false }
def FnExactAreEqualWordsSaid : Prop := fnExactAreEqualWordsRow.holds Try.pinned (OpenSpec.ofChange fnExactAreEqualWordsSpec)

/-- ITS FALSE NEIGHBOUR: 'it returns false'. Refute it at one input. -/
def fnExactAreEqualWordsWrong : ChangeSpec := { name := "fnExactAreEqualWords", fn := fun _ => fun
  | [d1, d2, d3] => { results := [.lit (.bool false)], args := [d1, d2, d3] }
  | _ => none }
def FnExactAreEqualWordsWrongFalsely : Prop := fnExactAreEqualWordsRow.holds Try.pinned (OpenSpec.ofChange fnExactAreEqualWordsWrong)

/-- 'laws.FnExactClassOfWord': WHATEVER THE INPUT: true; the input reads as it did. -/
def fnExactClassOfWordSpec : ChangeSpec := { name := "fnExactClassOfWord", fn := fun _ => fun
  | [d1, d2] => { results := [.lit (.bool true)], args := [d1, d2] }
  | _ => none }
def fnExactClassOfWordRow : OpenClaim := { program := "ytbjgmanbanhhiaa", sum := "9c97be62c5c702cfbb15e3aef3192ea04f22e9c5b1ac0d055403e75905e9ecab", func := "loop.example/g01119/laws.FnExactClassOfWord", spec := "fnExactClassOfWord", unfollowed := true, recurses := true, apart := false }
def FnExactClassOfWordSaid : Prop := fnExactClassOfWordRow.holds Try.pinned (OpenSpec.ofChange fnExactClassOfWordSpec)

/-- ITS FALSE NEIGHBOUR: 'it returns false'. Refute it at one input. -/
def fnExactClassOfWordWrong : ChangeSpec := { name := "fnExactClassOfWord", fn := fun _ => fun
  | [d1, d2] => { results := [.lit (.bool false)], args := [d1, d2] }
  | _ => none }
def FnExactClassOfWordWrongFalsely : Prop := fnExactClassOfWordRow.holds Try.pinned (OpenSpec.ofChange fnExactClassOfWordWrong)

/-- 'laws.FnExactNormalWord': WHATEVER THE INPUT: true; the input reads as it did. -/
def fnExactNormalWordSpec : ChangeSpec := { name := "fnExactNormalWord", fn := fun _ => fun
  | [d1, d2] => { results := [.lit (.bool true)], args := [d1, d2] }
  | _ => none }
def fnExactNormalWordRow : OpenClaim := { program := "ytbjgmanbanhhiaa", sum := "9c97be62c5c702cfbb15e3aef3192ea04f22e9c5b1ac0d055403e75905e9ecab", func := "loop.example/g01119/laws.FnExactNormalWord", spec := "fnExactNormalWord", unfollowed := true, recurses := true, apart := false }
def FnExactNormalWordSaid : Prop := fnExactNormalWordRow.holds Try.pinned (OpenSpec.ofChange fnExactNormalWordSpec)

/-- ITS FALSE NEIGHBOUR: 'it returns false'. Refute it at one input. -/
def fnExactNormalWordWrong : ChangeSpec := { name := "fnExactNormalWord", fn := fun _ => fun
  | [d1, d2] => { results := [.lit (.bool false)], args := [d1, d2] }
  | _ => none }
def FnExactNormalWordWrongFalsely : Prop := fnExactNormalWordRow.holds Try.pinned (OpenSpec.ofChange fnExactNormalWordWrong)

/-- 'laws.FnExactLeftGroup': WHATEVER THE INPUT: true; the input reads as it did. -/
def fnExactLeftGroupSpec : ChangeSpec := { name := "fnExactLeftGroup", fn := fun _ => fun
  | [d] => { results := [.lit (.bool true)], args := [d] }
  | _ => none }
def fnExactLeftGroupRow : OpenClaim := { program := "ytbjgmanbanhhiaa", sum := "9c97be62c5c702cfbb15e3aef3192ea04f22e9c5b1ac0d055403e75905e9ecab", func := "loop.example/g01119/laws.FnExactLeftGroup", spec := "fnExactLeftGroup", unfollowed := true, recurses := true, apart := false }
def FnExactLeftGroupSaid : Prop := fnExactLeftGroupRow.holds Try.pinned (OpenSpec.ofChange fnExactLeftGroupSpec)

/-- ITS FALSE NEIGHBOUR: 'it returns false'. Refute it at one input. -/
def fnExactLeftGroupWrong : ChangeSpec := { name := "fnExactLeftGroup", fn := fun _ => fun
  | [d] => { results := [.lit (.bool false)], args := [d] }
  | _ => none }
def FnExactLeftGroupWrongFalsely : Prop := fnExactLeftGroupRow.holds Try.pinned (OpenSpec.ofChange fnExactLeftGroupWrong)

/-- 'laws.FnExactCountClasses': WHATEVER THE INPUT: true; the input reads as it did. -/
def fnExactCountClassesSpec : ChangeSpec := { name := "fnExactCountClasses", fn := fun _ => fun
  | [d1, d2] => { results := [.lit (.bool true)], args := [d1, d2] }
  | _ => none }
def fnExactCountClassesRow : OpenClaim := { program := "ytbjgmanbanhhiaa", sum := "9c97be62c5c702cfbb15e3aef3192ea04f22e9c5b1ac0d055403e75905e9ecab", func := "loop.example/g01119/laws.FnExactCountClasses", spec := "fnExactCountClasses", unfollowed := true, recurses := true, apart := false }
def FnExactCountClassesSaid : Prop := fnExactCountClassesRow.holds Try.pinned (OpenSpec.ofChange fnExactCountClassesSpec)

/-- ITS FALSE NEIGHBOUR: 'it returns false'. Refute it at one input. -/
def fnExactCountClassesWrong : ChangeSpec := { name := "fnExactCountClasses", fn := fun _ => fun
  | [d1, d2] => { results := [.lit (.bool false)], args := [d1, d2] }
  | _ => none }
def FnExactCountClassesWrongFalsely : Prop := fnExactCountClassesRow.holds Try.pinned (OpenSpec.ofChange fnExactCountClassesWrong)

/-- 'laws.FnExactDividesWord': WHATEVER THE INPUT: true; the input reads as it did. -/
def fnExactDividesWordSpec : ChangeSpec := { name := "fnExactDividesWord", fn := fun _ => fun
  | [d1, d2, d3] => { results := [.lit (.bool true)], args := [d1, d2, d3] }
  | _ => none }
def fnExactDividesWordRow : OpenClaim := { program := "ytbjgmanbanhhiaa", sum := "9c97be62c5c702cfbb15e3aef3192ea04f22e9c5b1ac0d055403e75905e9ecab", func := "loop.example/g01119/laws.FnExactDividesWord", spec := "fnExactDividesWord", unfollowed := true, recurses := true, apart := false }
def FnExactDividesWordSaid : Prop := fnExactDividesWordRow.holds Try.pinned (OpenSpec.ofChange fnExactDividesWordSpec)

/-- ITS FALSE NEIGHBOUR: 'it returns false'. Refute it at one input. -/
def fnExactDividesWordWrong : ChangeSpec := { name := "fnExactDividesWord", fn := fun _ => fun
  | [d1, d2, d3] => { results := [.lit (.bool false)], args := [d1, d2, d3] }
  | _ => none }
def FnExactDividesWordWrongFalsely : Prop := fnExactDividesWordRow.holds Try.pinned (OpenSpec.ofChange fnExactDividesWordWrong)

/-- 'laws.FnExactOrbitSolutions': WHATEVER THE INPUT: true; the input reads as it did. -/
def fnExactOrbitSolutionsSpec : ChangeSpec := { name := "fnExactOrbitSolutions", fn := fun _ => fun
  | [d] => { results := [.lit (.bool true)], args := [d] }
  | _ => none }
def fnExactOrbitSolutionsRow : OpenClaim := { program := "ytbjgmanbanhhiaa", sum := "9c97be62c5c702cfbb15e3aef3192ea04f22e9c5b1ac0d055403e75905e9ecab", func := "loop.example/g01119/laws.FnExactOrbitSolutions", spec := "fnExactOrbitSolutions", unfollowed := true, recurses := true, apart := false }
def FnExactOrbitSolutionsSaid : Prop := fnExactOrbitSolutionsRow.holds Try.pinned (OpenSpec.ofChange fnExactOrbitSolutionsSpec)

/-- ITS FALSE NEIGHBOUR: 'it returns false'. Refute it at one input. -/
def fnExactOrbitSolutionsWrong : ChangeSpec := { name := "fnExactOrbitSolutions", fn := fun _ => fun
  | [d] => { results := [.lit (.bool false)], args := [d] }
  | _ => none }
def FnExactOrbitSolutionsWrongFalsely : Prop := fnExactOrbitSolutionsRow.holds Try.pinned (OpenSpec.ofChange fnExactOrbitSolutionsWrong)

/- THE SECOND FORM. 'bulk': how many values and letters a reading holds, each counted each time it is reached (what is shared counts as often as it is met; a slice's spare places count too). A statement '..UptoSaid' is the law's where the arguments, and the package variables that the reading takes, are together of bulk at most 1048576: NARROWER than '..Said'. Prove '..Said' where nothing that the law and all that it calls make is longer than what came in: it says more and counts as full. Else prove '..UptoSaid'. A law counts once. -/
mutual
def uptoBulk {H : Type} : DataW H → Nat
  | .lit (.string bytes) => bytes.length + 1
  | .lit _ => 1
  | .nil => 1
  | .ptr d => uptoBulk d + 1
  | .slice elems spare => uptoBulkAll elems + uptoBulkAll spare + 1
  | .agg parts => uptoBulkAll parts + 1
  | .iface _ d => uptoBulk d + 1
  | .map entries => uptoBulkEntries entries + 1
  | .held _ => 1
def uptoBulkAll {H : Type} : List (DataW H) → Nat
  | [] => 0
  | d :: r => uptoBulk d + uptoBulkAll r
def uptoBulkEntries {H : Type} : List (Lit × DataW H) → Nat
  | [] => 0
  | x :: r => uptoBulkEntry x + uptoBulkEntries r
def uptoBulkEntry {H : Type} : Lit × DataW H → Nat
  | (.string bytes, d) => bytes.length + uptoBulk d + 1
  | (_, d) => uptoBulk d + 1
 end
def uptoSmall : (H : Type) → List (DataW H) → Bool := fun _ ds => decide (uptoBulkAll ds ≤ 1048576)
def OpenSpec.upto (s : _root_.Go.ChangeSpec) : _root_.Go.OpenSpec := { _root_.Go.OpenSpec.ofChange s with cond := some uptoSmall }

/-- 'laws.FnExactLeftGroupOrder', WHERE WHAT IT READS IS OF BULK AT MOST 1048576: true; the input reads as it did. -/
def fnExactLeftGroupOrderUptoRow : OpenClaim := { program := "ytbjgmanbanhhiaa", sum := "9c97be62c5c702cfbb15e3aef3192ea04f22e9c5b1ac0d055403e75905e9ecab", func := "loop.example/g01119/laws.FnExactLeftGroupOrder", spec := "fnExactLeftGroupOrder", unfollowed := true, recurses := true, apart := false, narrowed := true }
def FnExactLeftGroupOrderUptoSaid : Prop := fnExactLeftGroupOrderUptoRow.holds Try.pinned (OpenSpec.upto fnExactLeftGroupOrderSpec)

/-- 'laws.FnExactRightGroupOrder', WHERE WHAT IT READS IS OF BULK AT MOST 1048576: true; the input reads as it did. -/
def fnExactRightGroupOrderUptoRow : OpenClaim := { program := "ytbjgmanbanhhiaa", sum := "9c97be62c5c702cfbb15e3aef3192ea04f22e9c5b1ac0d055403e75905e9ecab", func := "loop.example/g01119/laws.FnExactRightGroupOrder", spec := "fnExactRightGroupOrder", unfollowed := true, recurses := true, apart := false, narrowed := true }
def FnExactRightGroupOrderUptoSaid : Prop := fnExactRightGroupOrderUptoRow.holds Try.pinned (OpenSpec.upto fnExactRightGroupOrderSpec)

/-- 'laws.FnExactClassSolution', WHERE WHAT IT READS IS OF BULK AT MOST 1048576: true; the input reads as it did. -/
def fnExactClassSolutionUptoRow : OpenClaim := { program := "ytbjgmanbanhhiaa", sum := "9c97be62c5c702cfbb15e3aef3192ea04f22e9c5b1ac0d055403e75905e9ecab", func := "loop.example/g01119/laws.FnExactClassSolution", spec := "fnExactClassSolution", unfollowed := true, recurses := true, apart := false, narrowed := true }
def FnExactClassSolutionUptoSaid : Prop := fnExactClassSolutionUptoRow.holds Try.pinned (OpenSpec.upto fnExactClassSolutionSpec)

/-- 'laws.FnExactBlockSystemOf', WHERE WHAT IT READS IS OF BULK AT MOST 1048576: true; the input reads as it did. -/
def fnExactBlockSystemOfUptoRow : OpenClaim := { program := "ytbjgmanbanhhiaa", sum := "9c97be62c5c702cfbb15e3aef3192ea04f22e9c5b1ac0d055403e75905e9ecab", func := "loop.example/g01119/laws.FnExactBlockSystemOf", spec := "fnExactBlockSystemOf", unfollowed := true, recurses := true, apart := false, narrowed := true }
def FnExactBlockSystemOfUptoSaid : Prop := fnExactBlockSystemOfUptoRow.holds Try.pinned (OpenSpec.upto fnExactBlockSystemOfSpec)

/-- 'laws.FnExactTupleOrbit', WHERE WHAT IT READS IS OF BULK AT MOST 1048576: true; the input reads as it did. -/
def fnExactTupleOrbitUptoRow : OpenClaim := { program := "ytbjgmanbanhhiaa", sum := "9c97be62c5c702cfbb15e3aef3192ea04f22e9c5b1ac0d055403e75905e9ecab", func := "loop.example/g01119/laws.FnExactTupleOrbit", spec := "fnExactTupleOrbit", unfollowed := true, recurses := true, apart := false, narrowed := true }
def FnExactTupleOrbitUptoSaid : Prop := fnExactTupleOrbitUptoRow.holds Try.pinned (OpenSpec.upto fnExactTupleOrbitSpec)

/-- 'laws.FnExactAreEqualWords', WHERE WHAT IT READS IS OF BULK AT MOST 1048576: true; the input reads as it did. -/
def fnExactAreEqualWordsUptoRow : OpenClaim := { program := "ytbjgmanbanhhiaa", sum := "9c97be62c5c702cfbb15e3aef3192ea04f22e9c5b1ac0d055403e75905e9ecab", func := "loop.example/g01119/laws.FnExactAreEqualWords", spec := "fnExactAreEqualWords", unfollowed := true, recurses := true, apart := false, narrowed := true }
def FnExactAreEqualWordsUptoSaid : Prop := fnExactAreEqualWordsUptoRow.holds Try.pinned (OpenSpec.upto fnExactAreEqualWordsSpec)

/-- 'laws.FnExactClassOfWord', WHERE WHAT IT READS IS OF BULK AT MOST 1048576: true; the input reads as it did. -/
def fnExactClassOfWordUptoRow : OpenClaim := { program := "ytbjgmanbanhhiaa", sum := "9c97be62c5c702cfbb15e3aef3192ea04f22e9c5b1ac0d055403e75905e9ecab", func := "loop.example/g01119/laws.FnExactClassOfWord", spec := "fnExactClassOfWord", unfollowed := true, recurses := true, apart := false, narrowed := true }
def FnExactClassOfWordUptoSaid : Prop := fnExactClassOfWordUptoRow.holds Try.pinned (OpenSpec.upto fnExactClassOfWordSpec)

/-- 'laws.FnExactNormalWord', WHERE WHAT IT READS IS OF BULK AT MOST 1048576: true; the input reads as it did. -/
def fnExactNormalWordUptoRow : OpenClaim := { program := "ytbjgmanbanhhiaa", sum := "9c97be62c5c702cfbb15e3aef3192ea04f22e9c5b1ac0d055403e75905e9ecab", func := "loop.example/g01119/laws.FnExactNormalWord", spec := "fnExactNormalWord", unfollowed := true, recurses := true, apart := false, narrowed := true }
def FnExactNormalWordUptoSaid : Prop := fnExactNormalWordUptoRow.holds Try.pinned (OpenSpec.upto fnExactNormalWordSpec)

/-- 'laws.FnExactLeftGroup', WHERE WHAT IT READS IS OF BULK AT MOST 1048576: true; the input reads as it did. -/
def fnExactLeftGroupUptoRow : OpenClaim := { program := "ytbjgmanbanhhiaa", sum := "9c97be62c5c702cfbb15e3aef3192ea04f22e9c5b1ac0d055403e75905e9ecab", func := "loop.example/g01119/laws.FnExactLeftGroup", spec := "fnExactLeftGroup", unfollowed := true, recurses := true, apart := false, narrowed := true }
def FnExactLeftGroupUptoSaid : Prop := fnExactLeftGroupUptoRow.holds Try.pinned (OpenSpec.upto fnExactLeftGroupSpec)

/-- 'laws.FnExactCountClasses', WHERE WHAT IT READS IS OF BULK AT MOST 1048576: true; the input reads as it did. -/
def fnExactCountClassesUptoRow : OpenClaim := { program := "ytbjgmanbanhhiaa", sum := "9c97be62c5c702cfbb15e3aef3192ea04f22e9c5b1ac0d055403e75905e9ecab", func := "loop.example/g01119/laws.FnExactCountClasses", spec := "fnExactCountClasses", unfollowed := true, recurses := true, apart := false, narrowed := true }
def FnExactCountClassesUptoSaid : Prop := fnExactCountClassesUptoRow.holds Try.pinned (OpenSpec.upto fnExactCountClassesSpec)

/-- 'laws.FnExactDividesWord', WHERE WHAT IT READS IS OF BULK AT MOST 1048576: true; the input reads as it did. -/
def fnExactDividesWordUptoRow : OpenClaim := { program := "ytbjgmanbanhhiaa", sum := "9c97be62c5c702cfbb15e3aef3192ea04f22e9c5b1ac0d055403e75905e9ecab", func := "loop.example/g01119/laws.FnExactDividesWord", spec := "fnExactDividesWord", unfollowed := true, recurses := true, apart := false, narrowed := true }
def FnExactDividesWordUptoSaid : Prop := fnExactDividesWordUptoRow.holds Try.pinned (OpenSpec.upto fnExactDividesWordSpec)

/-- 'laws.FnExactOrbitSolutions', WHERE WHAT IT READS IS OF BULK AT MOST 1048576: true; the input reads as it did. -/
def fnExactOrbitSolutionsUptoRow : OpenClaim := { program := "ytbjgmanbanhhiaa", sum := "9c97be62c5c702cfbb15e3aef3192ea04f22e9c5b1ac0d055403e75905e9ecab", func := "loop.example/g01119/laws.FnExactOrbitSolutions", spec := "fnExactOrbitSolutions", unfollowed := true, recurses := true, apart := false, narrowed := true }
def FnExactOrbitSolutionsUptoSaid : Prop := fnExactOrbitSolutionsUptoRow.holds Try.pinned (OpenSpec.upto fnExactOrbitSolutionsSpec)

end Rows
end Go.Proofs.Ytbjgmanbanhhiaa
