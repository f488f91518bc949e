/-
  No cell of these rows narrows 'for every input' (looked for: loops, veiled, ifaces, maps, wideKeys, modest, calm, conditions, laid).
  DERIVED. THE GIVEN ROWS OF THIS SEAT. 4 by the template 'for every input the law returns true; each argument reads behind the call as it read before'; 0 by the template 'total and deterministic' (their statements: YtkdoegjnnfmpaaaTotals.lean).
  GIVEN WITH THE SEED: the statements are not yours to turn. If you find one false, say at which input.
  Laid BY PROGRAM, IN A SANDBOX (cutbox-rows.mjs): the forced cells as the released guide's own fill.sh prints them over the translation a0b9c1116a54c434… (all of the seat's roots in one cut). By AI agents, Wed Nov 11 2026. No macro, syntax, notation, axiom, sorry.
-/
import Derived.Test.YtkdoegjnnfmpaaaChecked
import GoSem.Claim
import GoSem.ClaimJoined
import GoSem.ClaimMapViews
import Derived.JoinedTies
import Derived.KernelRfl
namespace Go.Proofs.Ytkdoegjnnfmpaaa
/- THE CELL 'sum', in the pinned program and in every row, IS THE sha256 OF THE DUMP (.gsa) THAT YtkdoegjnnfmpaaaProg.lean LOADS. Nothing in Lean hashes anything: it is a label: what it is worth is what the hold of that sum in a sandbox is worth. -/
noncomputable def Try.pinned : Pinned := { name := "ytkdoegjnnfmpaaa", sum := "a0b9c1116a54c434612d8f4f6afe58bfe40aa7008f536ce9c847ca1322655771", checked := Try.checked }
namespace Rows
def none {H : Type} : Left H := { results := [], args := [] }

/-- 'laws.FnExactRackMove': WHATEVER THE INPUT: true; the input reads as it did. -/
def fnExactRackMoveSpec : ChangeSpec := { name := "fnExactRackMove", fn := fun _ => fun
  | [d1, d2, d3] => { results := [.lit (.bool true)], args := [d1, d2, d3] }
  | _ => none }
def fnExactRackMoveRow : OpenClaim := { program := "ytkdoegjnnfmpaaa", sum := "a0b9c1116a54c434612d8f4f6afe58bfe40aa7008f536ce9c847ca1322655771", func := "loop.example/g01119/laws.FnExactRackMove", spec := "fnExactRackMove", unfollowed := true, recurses := true, apart := false }
def FnExactRackMoveSaid : Prop := fnExactRackMoveRow.holds Try.pinned (OpenSpec.ofChange fnExactRackMoveSpec)

/-- ITS FALSE NEIGHBOUR: 'it returns false'. Refute it at one input. -/
def fnExactRackMoveWrong : ChangeSpec := { name := "fnExactRackMove", fn := fun _ => fun
  | [d1, d2, d3] => { results := [.lit (.bool false)], args := [d1, d2, d3] }
  | _ => none }
def FnExactRackMoveWrongFalsely : Prop := fnExactRackMoveRow.holds Try.pinned (OpenSpec.ofChange fnExactRackMoveWrong)

/-- 'laws.FnExactActWord': WHATEVER THE INPUT: true; the input reads as it did. -/
def fnExactActWordSpec : ChangeSpec := { name := "fnExactActWord", fn := fun _ => fun
  | [d1, d2, d3] => { results := [.lit (.bool true)], args := [d1, d2, d3] }
  | _ => none }
def fnExactActWordRow : OpenClaim := { program := "ytkdoegjnnfmpaaa", sum := "a0b9c1116a54c434612d8f4f6afe58bfe40aa7008f536ce9c847ca1322655771", func := "loop.example/g01119/laws.FnExactActWord", spec := "fnExactActWord", unfollowed := true, recurses := true, apart := false }
def FnExactActWordSaid : Prop := fnExactActWordRow.holds Try.pinned (OpenSpec.ofChange fnExactActWordSpec)

/-- ITS FALSE NEIGHBOUR: 'it returns false'. Refute it at one input. -/
def fnExactActWordWrong : ChangeSpec := { name := "fnExactActWord", fn := fun _ => fun
  | [d1, d2, d3] => { results := [.lit (.bool false)], args := [d1, d2, d3] }
  | _ => none }
def FnExactActWordWrongFalsely : Prop := fnExactActWordRow.holds Try.pinned (OpenSpec.ofChange fnExactActWordWrong)

/-- 'laws.FnExactFixedPairs': WHATEVER THE INPUT: true; the input reads as it did. -/
def fnExactFixedPairsSpec : ChangeSpec := { name := "fnExactFixedPairs", fn := fun _ => fun
  | [d] => { results := [.lit (.bool true)], args := [d] }
  | _ => none }
def fnExactFixedPairsRow : OpenClaim := { program := "ytkdoegjnnfmpaaa", sum := "a0b9c1116a54c434612d8f4f6afe58bfe40aa7008f536ce9c847ca1322655771", func := "loop.example/g01119/laws.FnExactFixedPairs", spec := "fnExactFixedPairs", unfollowed := true, recurses := true, apart := false }
def FnExactFixedPairsSaid : Prop := fnExactFixedPairsRow.holds Try.pinned (OpenSpec.ofChange fnExactFixedPairsSpec)

/-- ITS FALSE NEIGHBOUR: 'it returns false'. Refute it at one input. -/
def fnExactFixedPairsWrong : ChangeSpec := { name := "fnExactFixedPairs", fn := fun _ => fun
  | [d] => { results := [.lit (.bool false)], args := [d] }
  | _ => none }
def FnExactFixedPairsWrongFalsely : Prop := fnExactFixedPairsRow.holds Try.pinned (OpenSpec.ofChange fnExactFixedPairsWrong)

/-- 'laws.FnExactTupleMove': WHATEVER THE INPUT: true; the input reads as it did. -/
def fnExactTupleMoveSpec : ChangeSpec := { name := "fnExactTupleMove", fn := fun _ => fun
  | [d1, d2, d3] => { results := [.lit (.bool true)], args := [d1, d2, d3] }
  | _ => none }
def fnExactTupleMoveRow : OpenClaim := { program := "ytkdoegjnnfmpaaa", sum := "a0b9c1116a54c434612d8f4f6afe58bfe40aa7008f536ce9c847ca1322655771", func := "loop.example/g01119/laws.FnExactTupleMove", spec := "fnExactTupleMove", unfollowed := true, recurses := true, apart := false }
def FnExactTupleMoveSaid : Prop := fnExactTupleMoveRow.holds Try.pinned (OpenSpec.ofChange fnExactTupleMoveSpec)

/-- ITS FALSE NEIGHBOUR: 'it returns false'. Refute it at one input. -/
def fnExactTupleMoveWrong : ChangeSpec := { name := "fnExactTupleMove", fn := fun _ => fun
  | [d1, d2, d3] => { results := [.lit (.bool false)], args := [d1, d2, d3] }
  | _ => none }
def FnExactTupleMoveWrongFalsely : Prop := fnExactTupleMoveRow.holds Try.pinned (OpenSpec.ofChange fnExactTupleMoveWrong)

/- THE SECOND FORM. 'bulk': how many values and letters a reading holds, each counted each time it is reached (what is shared counts as often as it is met; a slice's spare places count too). A statement '..UptoSaid' is the law's where the arguments, and the package variables that the reading takes, are together of bulk at most 1048576: NARROWER than '..Said'. Prove '..Said' where nothing that the law and all that it calls make is longer than what came in: it says more and counts as full. Else prove '..UptoSaid'. A law counts once. -/
mutual
def uptoBulk {H : Type} : DataW H → Nat
  | .lit (.string bytes) => bytes.length + 1
  | .lit _ => 1
  | .nil => 1
  | .ptr d => uptoBulk d + 1
  | .slice elems spare => uptoBulkAll elems + uptoBulkAll spare + 1
  | .agg parts => uptoBulkAll parts + 1
  | .iface _ d => uptoBulk d + 1
  | .map entries => uptoBulkEntries entries + 1
  | .held _ => 1
def uptoBulkAll {H : Type} : List (DataW H) → Nat
  | [] => 0
  | d :: r => uptoBulk d + uptoBulkAll r
def uptoBulkEntries {H : Type} : List (Lit × DataW H) → Nat
  | [] => 0
  | x :: r => uptoBulkEntry x + uptoBulkEntries r
def uptoBulkEntry {H : Type} : Lit × DataW H → Nat
  | (.string bytes, d) => bytes.length + uptoBulk d + 1
  | (_, d) => uptoBulk d + 1
 end
def uptoSmall : (H : Type) → List (DataW H) → Bool := fun _ ds => decide (uptoBulkAll ds ≤ 1048576)
def OpenSpec.upto (s : _root_.Go.ChangeSpec) : _root_.Go.OpenSpec := { _root_.Go.OpenSpec.ofChange s with cond := some uptoSmall }

/-- 'laws.FnExactRackMove', WHERE WHAT IT READS IS OF BULK AT MOST 1048576: true; the input reads as it did. -/
def fnExactRackMoveUptoRow : OpenClaim := { program := "ytkdoegjnnfmpaaa", sum := "a0b9c1116a54c434612d8f4f6afe58bfe40aa7008f536ce9c847ca1322655771", func := "loop.example/g01119/laws.FnExactRackMove", spec := "fnExactRackMove", unfollowed := true, recurses := true, apart := false, narrowed := true }
def FnExactRackMoveUptoSaid : Prop := fnExactRackMoveUptoRow.holds Try.pinned (OpenSpec.upto fnExactRackMoveSpec)

/-- 'laws.FnExactActWord', WHERE WHAT IT READS IS OF BULK AT MOST 1048576: true; the input reads as it did. -/
def fnExactActWordUptoRow : OpenClaim := { program := "ytkdoegjnnfmpaaa", sum := "a0b9c1116a54c434612d8f4f6afe58bfe40aa7008f536ce9c847ca1322655771", func := "loop.example/g01119/laws.FnExactActWord", spec := "fnExactActWord", unfollowed := true, recurses := true, apart := false, narrowed := true }
def FnExactActWordUptoSaid : Prop := fnExactActWordUptoRow.holds Try.pinned (OpenSpec.upto fnExactActWordSpec)

/-- 'laws.FnExactFixedPairs', WHERE WHAT IT READS IS OF BULK AT MOST 1048576: true; the input reads as it did. -/
def fnExactFixedPairsUptoRow : OpenClaim := { program := "ytkdoegjnnfmpaaa", sum := "a0b9c1116a54c434612d8f4f6afe58bfe40aa7008f536ce9c847ca1322655771", func := "loop.example/g01119/laws.FnExactFixedPairs", spec := "fnExactFixedPairs", unfollowed := true, recurses := true, apart := false, narrowed := true }
def FnExactFixedPairsUptoSaid : Prop := fnExactFixedPairsUptoRow.holds Try.pinned (OpenSpec.upto fnExactFixedPairsSpec)

/-- 'laws.FnExactTupleMove', WHERE WHAT IT READS IS OF BULK AT MOST 1048576: true; the input reads as it did. -/
def fnExactTupleMoveUptoRow : OpenClaim := { program := "ytkdoegjnnfmpaaa", sum := "a0b9c1116a54c434612d8f4f6afe58bfe40aa7008f536ce9c847ca1322655771", func := "loop.example/g01119/laws.FnExactTupleMove", spec := "fnExactTupleMove", unfollowed := true, recurses := true, apart := false, narrowed := true }
def FnExactTupleMoveUptoSaid : Prop := fnExactTupleMoveUptoRow.holds Try.pinned (OpenSpec.upto fnExactTupleMoveSpec)

end Rows
end Go.Proofs.Ytkdoegjnnfmpaaa
