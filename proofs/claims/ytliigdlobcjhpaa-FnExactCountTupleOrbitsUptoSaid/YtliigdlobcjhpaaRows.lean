/-
  No cell of these rows narrows 'for every input' (looked for: loops, veiled, ifaces, maps, wideKeys, modest, calm, conditions, laid).
  DERIVED. THE GIVEN ROWS OF THIS SEAT. 12 by the template 'for every input the law returns true; each argument reads behind the call as it read before'; 0 by the template 'total and deterministic' (their statements: YtliigdlobcjhpaaTotals.lean).
  GIVEN WITH THE SEED: the statements are not yours to turn. If you find one false, say at which input.
  Laid BY PROGRAM, IN A SANDBOX (cutbox-rows.mjs): the forced cells as the released guide's own fill.sh prints them over the translation 824c46e8ebb3e787… (all of the seat's roots in one cut). By AI agents, Wed Nov 11 2026. No macro, syntax, notation, axiom, sorry.
-/
import Derived.Test.YtliigdlobcjhpaaChecked
import GoSem.Claim
import GoSem.ClaimJoined
import GoSem.ClaimMapViews
import Derived.JoinedTies
import Derived.KernelRfl
namespace Go.Proofs.Ytliigdlobcjhpaa
/- THE CELL 'sum', in the pinned program and in every row, IS THE sha256 OF THE DUMP (.gsa) THAT YtliigdlobcjhpaaProg.lean LOADS. Nothing in Lean hashes anything: it is a label: what it is worth is what the hold of that sum in a sandbox is worth. -/
noncomputable def Try.pinned : Pinned := { name := "ytliigdlobcjhpaa", sum := "824c46e8ebb3e7871bdc06df3338b5ed0848b1a4b6271db77c20f41109166b3c", checked := Try.checked }
namespace Rows
def none {H : Type} : Left H := { results := [], args := [] }

/-- 'laws.FnExactCountTupleOrbits': WHATEVER THE INPUT: true; the input reads as it did. -/
def fnExactCountTupleOrbitsSpec : ChangeSpec := { name := "fnExactCountTupleOrbits", fn := fun _ => fun
  | [d1, d2] => { results := [.lit (.bool true)], args := [d1, d2] }
  | _ => none }
def fnExactCountTupleOrbitsRow : OpenClaim := { program := "ytliigdlobcjhpaa", sum := "824c46e8ebb3e7871bdc06df3338b5ed0848b1a4b6271db77c20f41109166b3c", func := "loop.example/g01119/laws.FnExactCountTupleOrbits", spec := "fnExactCountTupleOrbits", unfollowed := true, recurses := true, apart := false }
def FnExactCountTupleOrbitsSaid : Prop := fnExactCountTupleOrbitsRow.holds Try.pinned (OpenSpec.ofChange fnExactCountTupleOrbitsSpec)

/-- ITS FALSE NEIGHBOUR: 'it returns false'. Refute it at one input. -/
def fnExactCountTupleOrbitsWrong : ChangeSpec := { name := "fnExactCountTupleOrbits", fn := fun _ => fun
  | [d1, d2] => { results := [.lit (.bool false)], args := [d1, d2] }
  | _ => none }
def FnExactCountTupleOrbitsWrongFalsely : Prop := fnExactCountTupleOrbitsRow.holds Try.pinned (OpenSpec.ofChange fnExactCountTupleOrbitsWrong)

/-- 'laws.FnExactRhoMaps': WHATEVER THE INPUT: true; the input reads as it did. -/
def fnExactRhoMapsSpec : ChangeSpec := { name := "fnExactRhoMaps", fn := fun _ => fun
  | [d] => { results := [.lit (.bool true)], args := [d] }
  | _ => none }
def fnExactRhoMapsRow : OpenClaim := { program := "ytliigdlobcjhpaa", sum := "824c46e8ebb3e7871bdc06df3338b5ed0848b1a4b6271db77c20f41109166b3c", func := "loop.example/g01119/laws.FnExactRhoMaps", spec := "fnExactRhoMaps", unfollowed := true, recurses := true, apart := false }
def FnExactRhoMapsSaid : Prop := fnExactRhoMapsRow.holds Try.pinned (OpenSpec.ofChange fnExactRhoMapsSpec)

/-- ITS FALSE NEIGHBOUR: 'it returns false'. Refute it at one input. -/
def fnExactRhoMapsWrong : ChangeSpec := { name := "fnExactRhoMaps", fn := fun _ => fun
  | [d] => { results := [.lit (.bool false)], args := [d] }
  | _ => none }
def FnExactRhoMapsWrongFalsely : Prop := fnExactRhoMapsRow.holds Try.pinned (OpenSpec.ofChange fnExactRhoMapsWrong)

/-- 'laws.FnExactIsAbelianLeft': WHATEVER THE INPUT: true; the input reads as it did. -/
def fnExactIsAbelianLeftSpec : ChangeSpec := { name := "fnExactIsAbelianLeft", fn := fun _ => fun
  | [d] => { results := [.lit (.bool true)], args := [d] }
  | _ => none }
def fnExactIsAbelianLeftRow : OpenClaim := { program := "ytliigdlobcjhpaa", sum := "824c46e8ebb3e7871bdc06df3338b5ed0848b1a4b6271db77c20f41109166b3c", func := "loop.example/g01119/laws.FnExactIsAbelianLeft", spec := "fnExactIsAbelianLeft", unfollowed := true, recurses := true, apart := false }
def FnExactIsAbelianLeftSaid : Prop := fnExactIsAbelianLeftRow.holds Try.pinned (OpenSpec.ofChange fnExactIsAbelianLeftSpec)

/-- ITS FALSE NEIGHBOUR: 'it returns false'. Refute it at one input. -/
def fnExactIsAbelianLeftWrong : ChangeSpec := { name := "fnExactIsAbelianLeft", fn := fun _ => fun
  | [d] => { results := [.lit (.bool false)], args := [d] }
  | _ => none }
def FnExactIsAbelianLeftWrongFalsely : Prop := fnExactIsAbelianLeftRow.holds Try.pinned (OpenSpec.ofChange fnExactIsAbelianLeftWrong)

/-- 'laws.FnExactLambdaMaps': WHATEVER THE INPUT: true; the input reads as it did. -/
def fnExactLambdaMapsSpec : ChangeSpec := { name := "fnExactLambdaMaps", fn := fun _ => fun
  | [d] => { results := [.lit (.bool true)], args := [d] }
  | _ => none }
def fnExactLambdaMapsRow : OpenClaim := { program := "ytliigdlobcjhpaa", sum := "824c46e8ebb3e7871bdc06df3338b5ed0848b1a4b6271db77c20f41109166b3c", func := "loop.example/g01119/laws.FnExactLambdaMaps", spec := "fnExactLambdaMaps", unfollowed := true, recurses := true, apart := false }
def FnExactLambdaMapsSaid : Prop := fnExactLambdaMapsRow.holds Try.pinned (OpenSpec.ofChange fnExactLambdaMapsSpec)

/-- ITS FALSE NEIGHBOUR: 'it returns false'. Refute it at one input. -/
def fnExactLambdaMapsWrong : ChangeSpec := { name := "fnExactLambdaMaps", fn := fun _ => fun
  | [d] => { results := [.lit (.bool false)], args := [d] }
  | _ => none }
def FnExactLambdaMapsWrongFalsely : Prop := fnExactLambdaMapsRow.holds Try.pinned (OpenSpec.ofChange fnExactLambdaMapsWrong)

/-- 'laws.FnExactGuitarMap': WHATEVER THE INPUT: true; the input reads as it did. -/
def fnExactGuitarMapSpec : ChangeSpec := { name := "fnExactGuitarMap", fn := fun _ => fun
  | [d1, d2] => { results := [.lit (.bool true)], args := [d1, d2] }
  | _ => none }
def fnExactGuitarMapRow : OpenClaim := { program := "ytliigdlobcjhpaa", sum := "824c46e8ebb3e7871bdc06df3338b5ed0848b1a4b6271db77c20f41109166b3c", func := "loop.example/g01119/laws.FnExactGuitarMap", spec := "fnExactGuitarMap", unfollowed := true, recurses := true, apart := false }
def FnExactGuitarMapSaid : Prop := fnExactGuitarMapRow.holds Try.pinned (OpenSpec.ofChange fnExactGuitarMapSpec)

/-- ITS FALSE NEIGHBOUR: 'it returns false'. Refute it at one input. -/
def fnExactGuitarMapWrong : ChangeSpec := { name := "fnExactGuitarMap", fn := fun _ => fun
  | [d1, d2] => { results := [.lit (.bool false)], args := [d1, d2] }
  | _ => none }
def FnExactGuitarMapWrongFalsely : Prop := fnExactGuitarMapRow.holds Try.pinned (OpenSpec.ofChange fnExactGuitarMapWrong)

/-- 'laws.FnExactDerivedRack': WHATEVER THE INPUT: true; the input reads as it did. -/
def fnExactDerivedRackSpec : ChangeSpec := { name := "fnExactDerivedRack", fn := fun _ => fun
  | [d] => { results := [.lit (.bool true)], args := [d] }
  | _ => none }
def fnExactDerivedRackRow : OpenClaim := { program := "ytliigdlobcjhpaa", sum := "824c46e8ebb3e7871bdc06df3338b5ed0848b1a4b6271db77c20f41109166b3c", func := "loop.example/g01119/laws.FnExactDerivedRack", spec := "fnExactDerivedRack", unfollowed := true, recurses := true, apart := false }
def FnExactDerivedRackSaid : Prop := fnExactDerivedRackRow.holds Try.pinned (OpenSpec.ofChange fnExactDerivedRackSpec)

/-- ITS FALSE NEIGHBOUR: 'it returns false'. Refute it at one input. -/
def fnExactDerivedRackWrong : ChangeSpec := { name := "fnExactDerivedRack", fn := fun _ => fun
  | [d] => { results := [.lit (.bool false)], args := [d] }
  | _ => none }
def FnExactDerivedRackWrongFalsely : Prop := fnExactDerivedRackRow.holds Try.pinned (OpenSpec.ofChange fnExactDerivedRackWrong)

/-- 'laws.FnExactGuitarBack': WHATEVER THE INPUT: true; the input reads as it did. -/
def fnExactGuitarBackSpec : ChangeSpec := { name := "fnExactGuitarBack", fn := fun _ => fun
  | [d1, d2] => { results := [.lit (.bool true)], args := [d1, d2] }
  | _ => none }
def fnExactGuitarBackRow : OpenClaim := { program := "ytliigdlobcjhpaa", sum := "824c46e8ebb3e7871bdc06df3338b5ed0848b1a4b6271db77c20f41109166b3c", func := "loop.example/g01119/laws.FnExactGuitarBack", spec := "fnExactGuitarBack", unfollowed := true, recurses := true, apart := false }
def FnExactGuitarBackSaid : Prop := fnExactGuitarBackRow.holds Try.pinned (OpenSpec.ofChange fnExactGuitarBackSpec)

/-- ITS FALSE NEIGHBOUR: 'it returns false'. Refute it at one input. -/
def fnExactGuitarBackWrong : ChangeSpec := { name := "fnExactGuitarBack", fn := fun _ => fun
  | [d1, d2] => { results := [.lit (.bool false)], args := [d1, d2] }
  | _ => none }
def FnExactGuitarBackWrongFalsely : Prop := fnExactGuitarBackRow.holds Try.pinned (OpenSpec.ofChange fnExactGuitarBackWrong)

/-- 'laws.FnExactIsTwist': WHATEVER THE INPUT: true; the input reads as it did. -/
def fnExactIsTwistSpec : ChangeSpec := { name := "fnExactIsTwist", fn := fun _ => fun
  | [d] => { results := [.lit (.bool true)], args := [d] }
  | _ => none }
def fnExactIsTwistRow : OpenClaim := { program := "ytliigdlobcjhpaa", sum := "824c46e8ebb3e7871bdc06df3338b5ed0848b1a4b6271db77c20f41109166b3c", func := "loop.example/g01119/laws.FnExactIsTwist", spec := "fnExactIsTwist", unfollowed := true, recurses := true, apart := false }
def FnExactIsTwistSaid : Prop := fnExactIsTwistRow.holds Try.pinned (OpenSpec.ofChange fnExactIsTwistSpec)

/-- ITS FALSE NEIGHBOUR: 'it returns false'. Refute it at one input. -/
def fnExactIsTwistWrong : ChangeSpec := { name := "fnExactIsTwist", fn := fun _ => fun
  | [d] => { results := [.lit (.bool false)], args := [d] }
  | _ => none }
def FnExactIsTwistWrongFalsely : Prop := fnExactIsTwistRow.holds Try.pinned (OpenSpec.ofChange fnExactIsTwistWrong)

/-- 'laws.FnExactAlikeClasses': WHATEVER THE INPUT: true; the input reads as it did. -/
def fnExactAlikeClassesSpec : ChangeSpec := { name := "fnExactAlikeClasses", fn := fun _ => fun
  | [d] => { results := [.lit (.bool true)], args := [d] }
  | _ => none }
def fnExactAlikeClassesRow : OpenClaim := { program := "ytliigdlobcjhpaa", sum := "824c46e8ebb3e7871bdc06df3338b5ed0848b1a4b6271db77c20f41109166b3c", func := "loop.example/g01119/laws.FnExactAlikeClasses", spec := "fnExactAlikeClasses", unfollowed := true, recurses := true, apart := false }
def FnExactAlikeClassesSaid : Prop := fnExactAlikeClassesRow.holds Try.pinned (OpenSpec.ofChange fnExactAlikeClassesSpec)

/-- ITS FALSE NEIGHBOUR: 'it returns false'. Refute it at one input. -/
def fnExactAlikeClassesWrong : ChangeSpec := { name := "fnExactAlikeClasses", fn := fun _ => fun
  | [d] => { results := [.lit (.bool false)], args := [d] }
  | _ => none }
def FnExactAlikeClassesWrongFalsely : Prop := fnExactAlikeClassesRow.holds Try.pinned (OpenSpec.ofChange fnExactAlikeClassesWrong)

/-- 'laws.FnExactIsIndecomposable': WHATEVER THE INPUT: true; the input reads as it did. -/
def fnExactIsIndecomposableSpec : ChangeSpec := { name := "fnExactIsIndecomposable", fn := fun _ => fun
  | [d] => { results := [.lit (.bool true)], args := [d] }
  | _ => none }
def fnExactIsIndecomposableRow : OpenClaim := { program := "ytliigdlobcjhpaa", sum := "824c46e8ebb3e7871bdc06df3338b5ed0848b1a4b6271db77c20f41109166b3c", func := "loop.example/g01119/laws.FnExactIsIndecomposable", spec := "fnExactIsIndecomposable", unfollowed := true, recurses := true, apart := false }
def FnExactIsIndecomposableSaid : Prop := fnExactIsIndecomposableRow.holds Try.pinned (OpenSpec.ofChange fnExactIsIndecomposableSpec)

/-- ITS FALSE NEIGHBOUR: 'it returns false'. Refute it at one input. -/
def fnExactIsIndecomposableWrong : ChangeSpec := { name := "fnExactIsIndecomposable", fn := fun _ => fun
  | [d] => { results := [.lit (.bool false)], args := [d] }
  | _ => none }
def FnExactIsIndecomposableWrongFalsely : Prop := fnExactIsIndecomposableRow.holds Try.pinned (OpenSpec.ofChange fnExactIsIndecomposableWrong)

/-- 'laws.FnExactLeftGroupOrder': WHATEVER THE INPUT: true; the input reads as it did. -/
def fnExactLeftGroupOrderSpec : ChangeSpec := { name := "fnExactLeftGroupOrder", fn := fun _ => fun
  | [d] => { results := [.lit (.bool true)], args := [d] }
  | _ => none }
def fnExactLeftGroupOrderRow : OpenClaim := { program := "ytliigdlobcjhpaa", sum := "824c46e8ebb3e7871bdc06df3338b5ed0848b1a4b6271db77c20f41109166b3c", func := "loop.example/g01119/laws.FnExactLeftGroupOrder", spec := "fnExactLeftGroupOrder", unfollowed := true, recurses := true, apart := false }
def FnExactLeftGroupOrderSaid : Prop := fnExactLeftGroupOrderRow.holds Try.pinned (OpenSpec.ofChange fnExactLeftGroupOrderSpec)

/-- ITS FALSE NEIGHBOUR: 'it returns false'. Refute it at one input. -/
def fnExactLeftGroupOrderWrong : ChangeSpec := { name := "fnExactLeftGroupOrder", fn := fun _ => fun
  | [d] => { results := [.lit (.bool false)], args := [d] }
  | _ => none }
def FnExactLeftGroupOrderWrongFalsely : Prop := fnExactLeftGroupOrderRow.holds Try.pinned (OpenSpec.ofChange fnExactLeftGroupOrderWrong)

/-- 'laws.FnExactRightGroupOrder': WHATEVER THE INPUT: true; the input reads as it did. -/
def fnExactRightGroupOrderSpec : ChangeSpec := { name := "fnExactRightGroupOrder", fn := fun _ => fun
  | [d] => { results := [.lit (.bool true)], args := [d] }
  | _ => none }
def fnExactRightGroupOrderRow : OpenClaim := { program := "ytliigdlobcjhpaa", sum := "824c46e8ebb3e7871bdc06df3338b5ed0848b1a4b6271db77c20f41109166b3c", func := "loop.example/g01119/laws.FnExactRightGroupOrder", spec := "fnExactRightGroupOrder", unfollowed := true, recurses := true, apart := false }
def FnExactRightGroupOrderSaid : Prop := fnExactRightGroupOrderRow.holds Try.pinned (OpenSpec.ofChange fnExactRightGroupOrderSpec)

/-- ITS FALSE NEIGHBOUR: 'it returns false'. Refute it at one input. -/
def fnExactRightGroupOrderWrong : ChangeSpec := { name := "fnExactRightGroupOrder", fn := fun _ => fun
  | [d] => { results := [.lit (.bool false)], args := [d] }
  | _ => none }
def FnExactRightGroupOrderWrongFalsely : Prop := fnExactRightGroupOrderRow.holds Try.pinned (OpenSpec.ofChange fnExactRightGroupOrderWrong)

/- THE SECOND FORM. 'bulk': how many values and letters a reading holds, each counted each time it is reached (what is shared counts as often as it is met; a slice's spare places count too). A statement '..UptoSaid' is the law's where the arguments, and the package variables that the reading takes, are together of bulk at most 1048576: NARROWER than '..Said'. Prove '..Said' where nothing that the law and all that it calls make is longer than what came in: it says more and counts as full. Else prove '..UptoSaid'. A law counts once. -/
mutual
def uptoBulk {H : Type} : DataW H → Nat
  | .lit (.string bytes) => bytes.length + 1
  | .lit _ => 1
  | .nil => 1
  | .ptr d => uptoBulk d + 1
  | .slice elems spare => uptoBulkAll elems + uptoBulkAll spare + 1
  | .agg parts => uptoBulkAll parts + 1
  | .iface _ d => uptoBulk d + 1
  | .map entries => uptoBulkEntries entries + 1
  | .held _ => 1
def uptoBulkAll {H : Type} : List (DataW H) → Nat
  | [] => 0
  | d :: r => uptoBulk d + uptoBulkAll r
def uptoBulkEntries {H : Type} : List (Lit × DataW H) → Nat
  | [] => 0
  | x :: r => uptoBulkEntry x + uptoBulkEntries r
def uptoBulkEntry {H : Type} : Lit × DataW H → Nat
  | (.string bytes, d) => bytes.length + uptoBulk d + 1
  | (_, d) => uptoBulk d + 1
 end
def uptoSmall : (H : Type) → List (DataW H) → Bool := fun _ ds => decide (uptoBulkAll ds ≤ 1048576)
def OpenSpec.upto (s : _root_.Go.ChangeSpec) : _root_.Go.OpenSpec := { _root_.Go.OpenSpec.ofChange s with cond := some uptoSmall }

/-- 'laws.FnExactCountTupleOrbits', WHERE WHAT IT READS IS OF BULK AT MOST 1048576: true; the input reads as it did. -/
def fnExactCountTupleOrbitsUptoRow : OpenClaim := { program := "ytliigdlobcjhpaa", sum := "824c46e8ebb3e7871bdc06df3338b5ed0848b1a4b6271db77c20f41109166b3c", func := "loop.example/g01119/laws.FnExactCountTupleOrbits", spec := "fnExactCountTupleOrbits", unfollowed := true, recurses := true, apart := false, narrowed := true }
def FnExactCountTupleOrbitsUptoSaid : Prop := fnExactCountTupleOrbitsUptoRow.holds Try.pinned (OpenSpec.upto fnExactCountTupleOrbitsSpec)

/-- 'laws.FnExactRhoMaps', WHERE WHAT IT READS IS OF BULK AT MOST 1048576: true; the input reads as it did. -/
def fnExactRhoMapsUptoRow : OpenClaim := { program := "ytliigdlobcjhpaa", sum := "824c46e8ebb3e7871bdc06df3338b5ed0848b1a4b6271db77c20f41109166b3c", func := "loop.example/g01119/laws.FnExactRhoMaps", spec := "fnExactRhoMaps", unfollowed := true, recurses := true, apart := false, narrowed := true }
def FnExactRhoMapsUptoSaid : Prop := fnExactRhoMapsUptoRow.holds Try.pinned (OpenSpec.upto fnExactRhoMapsSpec)

/-- 'laws.FnExactIsAbelianLeft', WHERE WHAT IT READS IS OF BULK AT MOST 1048576: true; the input reads as it did. -/
def fnExactIsAbelianLeftUptoRow : OpenClaim := { program := "ytliigdlobcjhpaa", sum := "824c46e8ebb3e7871bdc06df3338b5ed0848b1a4b6271db77c20f41109166b3c", func := "loop.example/g01119/laws.FnExactIsAbelianLeft", spec := "fnExactIsAbelianLeft", unfollowed := true, recurses := true, apart := false, narrowed := true }
def FnExactIsAbelianLeftUptoSaid : Prop := fnExactIsAbelianLeftUptoRow.holds Try.pinned (OpenSpec.upto fnExactIsAbelianLeftSpec)

/-- 'laws.FnExactLambdaMaps', WHERE WHAT IT READS IS OF BULK AT MOST 1048576: true; the input reads as it did. -/
def fnExactLambdaMapsUptoRow : OpenClaim := { program := "ytliigdlobcjhpaa", sum := "824c46e8ebb3e7871bdc06df3338b5ed0848b1a4b6271db77c20f41109166b3c", func := "loop.example/g01119/laws.FnExactLambdaMaps", spec := "fnExactLambdaMaps", unfollowed := true, recurses := true, apart := false, narrowed := true }
def FnExactLambdaMapsUptoSaid : Prop := fnExactLambdaMapsUptoRow.holds Try.pinned (OpenSpec.upto fnExactLambdaMapsSpec)

/-- 'laws.FnExactGuitarMap', WHERE WHAT IT READS IS OF BULK AT MOST 1048576: true; the input reads as it did. -/
def fnExactGuitarMapUptoRow : OpenClaim := { program := "ytliigdlobcjhpaa", sum := "824c46e8ebb3e7871bdc06df3338b5ed0848b1a4b6271db77c20f41109166b3c", func := "loop.example/g01119/laws.FnExactGuitarMap", spec := "fnExactGuitarMap", unfollowed := true, recurses := true, apart := false, narrowed := true }
def FnExactGuitarMapUptoSaid : Prop := fnExactGuitarMapUptoRow.holds Try.pinned (OpenSpec.upto fnExactGuitarMapSpec)

/-- 'laws.FnExactDerivedRack', WHERE WHAT IT READS IS OF BULK AT MOST 1048576: true; the input reads as it did. -/
def fnExactDerivedRackUptoRow : OpenClaim := { program := "ytliigdlobcjhpaa", sum := "824c46e8ebb3e7871bdc06df3338b5ed0848b1a4b6271db77c20f41109166b3c", func := "loop.example/g01119/laws.FnExactDerivedRack", spec := "fnExactDerivedRack", unfollowed := true, recurses := true, apart := false, narrowed := true }
def FnExactDerivedRackUptoSaid : Prop := fnExactDerivedRackUptoRow.holds Try.pinned (OpenSpec.upto fnExactDerivedRackSpec)

/-- 'laws.FnExactGuitarBack', WHERE WHAT IT READS IS OF BULK AT MOST 1048576: true; the input reads as it did. -/
def fnExactGuitarBackUptoRow : OpenClaim := { program := "ytliigdlobcjhpaa", sum := "824c46e8ebb3e7871bdc06df3338b5ed0848b1a4b6271db77c20f41109166b3c", func := "loop.example/g01119/laws.FnExactGuitarBack", spec := "fnExactGuitarBack", unfollowed := true, recurses := true, apart := false, narrowed := true }
def FnExactGuitarBackUptoSaid : Prop := fnExactGuitarBackUptoRow.holds Try.pinned (OpenSpec.upto fnExactGuitarBackSpec)

/-- 'laws.FnExactIsTwist', WHERE WHAT IT READS IS OF BULK AT MOST 1048576: true; the input reads as it did. -/
def fnExactIsTwistUptoRow : OpenClaim := { program := "ytliigdlobcjhpaa", sum := "824c46e8ebb3e7871bdc06df3338b5ed0848b1a4b6271db77c20f41109166b3c", func := "loop.example/g01119/laws.FnExactIsTwist", spec := "fnExactIsTwist", unfollowed := true, recurses := true, apart := false, narrowed := true }
def FnExactIsTwistUptoSaid : Prop := fnExactIsTwistUptoRow.holds Try.pinned (OpenSpec.upto fnExactIsTwistSpec)

/-- 'laws.FnExactAlikeClasses', WHERE WHAT IT READS IS OF BULK AT MOST 1048576: true; the input reads as it did. -/
def fnExactAlikeClassesUptoRow : OpenClaim := { program := "ytliigdlobcjhpaa", sum := "824c46e8ebb3e7871bdc06df3338b5ed0848b1a4b6271db77c20f41109166b3c", func := "loop.example/g01119/laws.FnExactAlikeClasses", spec := "fnExactAlikeClasses", unfollowed := true, recurses := true, apart := false, narrowed := true }
def FnExactAlikeClassesUptoSaid : Prop := fnExactAlikeClassesUptoRow.holds Try.pinned (OpenSpec.upto fnExactAlikeClassesSpec)

/-- 'laws.FnExactIsIndecomposable', WHERE WHAT IT READS IS OF BULK AT MOST 1048576: true; the input reads as it did. -/
def fnExactIsIndecomposableUptoRow : OpenClaim := { program := "ytliigdlobcjhpaa", sum := "824c46e8ebb3e7871bdc06df3338b5ed0848b1a4b6271db77c20f41109166b3c", func := "loop.example/g01119/laws.FnExactIsIndecomposable", spec := "fnExactIsIndecomposable", unfollowed := true, recurses := true, apart := false, narrowed := true }
def FnExactIsIndecomposableUptoSaid : Prop := fnExactIsIndecomposableUptoRow.holds Try.pinned (OpenSpec.upto fnExactIsIndecomposableSpec)

/-- 'laws.FnExactLeftGroupOrder', WHERE WHAT IT READS IS OF BULK AT MOST 1048576: true; the input reads as it did. -/
def fnExactLeftGroupOrderUptoRow : OpenClaim := { program := "ytliigdlobcjhpaa", sum := "824c46e8ebb3e7871bdc06df3338b5ed0848b1a4b6271db77c20f41109166b3c", func := "loop.example/g01119/laws.FnExactLeftGroupOrder", spec := "fnExactLeftGroupOrder", unfollowed := true, recurses := true, apart := false, narrowed := true }
def FnExactLeftGroupOrderUptoSaid : Prop := fnExactLeftGroupOrderUptoRow.holds Try.pinned (OpenSpec.upto fnExactLeftGroupOrderSpec)

/-- 'laws.FnExactRightGroupOrder', WHERE WHAT IT READS IS OF BULK AT MOST 1048576: true; the input reads as it did. -/
def fnExactRightGroupOrderUptoRow : OpenClaim := { program := "ytliigdlobcjhpaa", sum := "824c46e8ebb3e7871bdc06df3338b5ed0848b1a4b6271db77c20f41109166b3c", func := "loop.example/g01119/laws.FnExactRightGroupOrder", spec := "fnExactRightGroupOrder", unfollowed := true, recurses := true, apart := false, narrowed := true }
def FnExactRightGroupOrderUptoSaid : Prop := fnExactRightGroupOrderUptoRow.holds Try.pinned (OpenSpec.upto fnExactRightGroupOrderSpec)

end Rows
end Go.Proofs.Ytliigdlobcjhpaa
