/-
  No cell of these rows narrows 'for every input' (looked for: loops, veiled, ifaces, maps, wideKeys, modest, calm, conditions, laid).
  DERIVED. THE GIVEN ROWS OF THIS SEAT. 4 by the template 'for every input the law returns true; each argument reads behind the call as it read before'; 0 by the template 'total and deterministic' (their statements: YtkcgdmjdkbgmkaaTotals.lean).
  GIVEN WITH THE SEED: the statements are not yours to turn. If you find one false, say at which input.
  Laid BY PROGRAM, IN A SANDBOX (cutbox-rows.mjs): the forced cells as the released guide's own fill.sh prints them over the translation dad650e8b6763df4… (all of the seat's roots in one cut). By AI agents, Wed Nov 11 2026. No macro, syntax, notation, axiom, sorry.
-/
import Derived.Test.YtkcgdmjdkbgmkaaChecked
import GoSem.Claim
import GoSem.ClaimJoined
import GoSem.ClaimMapViews
import Derived.JoinedTies
import Derived.KernelRfl
namespace Go.Proofs.Ytkcgdmjdkbgmkaa
/- THE CELL 'sum', in the pinned program and in every row, IS THE sha256 OF THE DUMP (.gsa) THAT YtkcgdmjdkbgmkaaProg.lean LOADS. Nothing in Lean hashes anything: it is a label: what it is worth is what the hold of that sum in a sandbox is worth. -/
noncomputable def Try.pinned : Pinned := { name := "ytkcgdmjdkbgmkaa", sum := "dad650e8b6763df4da8dee81db9dbe9e11ff2a4aa3f21d8b46da44e0f18cd024", checked := Try.checked }
namespace Rows
def none {H : Type} : Left H := { results := [], args := [] }

/-- 'laws.FnExactActWord': WHATEVER THE INPUT: true; the input reads as it did. -/
def fnExactActWordSpec : ChangeSpec := { name := "fnExactActWord", fn := fun _ => fun
  | [d1, d2, d3] => { results := [.lit (.bool true)], args := [d1, d2, d3] }
  | _ => none }
def fnExactActWordRow : OpenClaim := { program := "ytkcgdmjdkbgmkaa", sum := "dad650e8b6763df4da8dee81db9dbe9e11ff2a4aa3f21d8b46da44e0f18cd024", func := "loop.example/g01119/laws.FnExactActWord", spec := "fnExactActWord", unfollowed := true, recurses := true, apart := false }
def FnExactActWordSaid : Prop := fnExactActWordRow.holds Try.pinned (OpenSpec.ofChange fnExactActWordSpec)

/-- ITS FALSE NEIGHBOUR: 'it returns false'. Refute it at one input. -/
def fnExactActWordWrong : ChangeSpec := { name := "fnExactActWord", fn := fun _ => fun
  | [d1, d2, d3] => { results := [.lit (.bool false)], args := [d1, d2, d3] }
  | _ => none }
def FnExactActWordWrongFalsely : Prop := fnExactActWordRow.holds Try.pinned (OpenSpec.ofChange fnExactActWordWrong)

/-- 'laws.FnRackSolutions': WHATEVER THE INPUT: true; the input reads as it did. -/
def fnRackSolutionsSpec : ChangeSpec := { name := "fnRackSolutions", fn := fun _ => fun
  | [d] => { results := [.lit (.bool true)], args := [d] }
  | _ => none }
def fnRackSolutionsRow : OpenClaim := { program := "ytkcgdmjdkbgmkaa", sum := "dad650e8b6763df4da8dee81db9dbe9e11ff2a4aa3f21d8b46da44e0f18cd024", func := "loop.example/g01119/laws.FnRackSolutions", spec := "fnRackSolutions", unfollowed := true, recurses := true, apart := false }
def FnRackSolutionsSaid : Prop := fnRackSolutionsRow.holds Try.pinned (OpenSpec.ofChange fnRackSolutionsSpec)

/-- ITS FALSE NEIGHBOUR: 'it returns false'. Refute it at one input. -/
def fnRackSolutionsWrong : ChangeSpec := { name := "fnRackSolutions", fn := fun _ => fun
  | [d] => { results := [.lit (.bool false)], args := [d] }
  | _ => none }
def FnRackSolutionsWrongFalsely : Prop := fnRackSolutionsRow.holds Try.pinned (OpenSpec.ofChange fnRackSolutionsWrong)

/-- 'laws.FnTwistedSolutions': WHATEVER THE INPUT: true; the input reads as it did. -/
def fnTwistedSolutionsSpec : ChangeSpec := { name := "fnTwistedSolutions", fn := fun _ => fun
  | [d] => { results := [.lit (.bool true)], args := [d] }
  | _ => none }
def fnTwistedSolutionsRow : OpenClaim := { program := "ytkcgdmjdkbgmkaa", sum := "dad650e8b6763df4da8dee81db9dbe9e11ff2a4aa3f21d8b46da44e0f18cd024", func := "loop.example/g01119/laws.FnTwistedSolutions", spec := "fnTwistedSolutions", unfollowed := true, recurses := true, apart := false }
def FnTwistedSolutionsSaid : Prop := fnTwistedSolutionsRow.holds Try.pinned (OpenSpec.ofChange fnTwistedSolutionsSpec)

/-- ITS FALSE NEIGHBOUR: 'it returns false'. Refute it at one input. -/
def fnTwistedSolutionsWrong : ChangeSpec := { name := "fnTwistedSolutions", fn := fun _ => fun
  | [d] => { results := [.lit (.bool false)], args := [d] }
  | _ => none }
def FnTwistedSolutionsWrongFalsely : Prop := fnTwistedSolutionsRow.holds Try.pinned (OpenSpec.ofChange fnTwistedSolutionsWrong)

/-- 'laws.FnGuitar': WHATEVER THE INPUT: true; the input reads as it did. -/
def fnGuitarSpec : ChangeSpec := { name := "fnGuitar", fn := fun _ => fun
  | [d] => { results := [.lit (.bool true)], args := [d] }
  | _ => none }
def fnGuitarRow : OpenClaim := { program := "ytkcgdmjdkbgmkaa", sum := "dad650e8b6763df4da8dee81db9dbe9e11ff2a4aa3f21d8b46da44e0f18cd024", func := "loop.example/g01119/laws.FnGuitar", spec := "fnGuitar", unfollowed := true, recurses := true, apart := false }
def FnGuitarSaid : Prop := fnGuitarRow.holds Try.pinned (OpenSpec.ofChange fnGuitarSpec)

/-- ITS FALSE NEIGHBOUR: 'it returns false'. Refute it at one input. -/
def fnGuitarWrong : ChangeSpec := { name := "fnGuitar", fn := fun _ => fun
  | [d] => { results := [.lit (.bool false)], args := [d] }
  | _ => none }
def FnGuitarWrongFalsely : Prop := fnGuitarRow.holds Try.pinned (OpenSpec.ofChange fnGuitarWrong)

/- THE SECOND FORM. 'bulk': how many values and letters a reading holds, each counted each time it is reached (what is shared counts as often as it is met; a slice's spare places count too). A statement '..UptoSaid' is the law's where the arguments, and the package variables that the reading takes, are together of bulk at most 1048576: NARROWER than '..Said'. Prove '..Said' where nothing that the law and all that it calls make is longer than what came in: it says more and counts as full. Else prove '..UptoSaid'. A law counts once. -/
mutual
def uptoBulk {H : Type} : DataW H → Nat
  | .lit (.string bytes) => bytes.length + 1
  | .lit _ => 1
  | .nil => 1
  | .ptr d => uptoBulk d + 1
  | .slice elems spare => uptoBulkAll elems + uptoBulkAll spare + 1
  | .agg parts => uptoBulkAll parts + 1
  | .iface _ d => uptoBulk d + 1
  | .map entries => uptoBulkEntries entries + 1
  | .held _ => 1
def uptoBulkAll {H : Type} : List (DataW H) → Nat
  | [] => 0
  | d :: r => uptoBulk d + uptoBulkAll r
def uptoBulkEntries {H : Type} : List (Lit × DataW H) → Nat
  | [] => 0
  | x :: r => uptoBulkEntry x + uptoBulkEntries r
def uptoBulkEntry {H : Type} : Lit × DataW H → Nat
  | (.string bytes, d) => bytes.length + uptoBulk d + 1
  | (_, d) => uptoBulk d + 1
 end
def uptoSmall : (H : Type) → List (DataW H) → Bool := fun _ ds => decide (uptoBulkAll ds ≤ 1048576)
def OpenSpec.upto (s : _root_.Go.ChangeSpec) : _root_.Go.OpenSpec := { _root_.Go.OpenSpec.ofChange s with cond := some uptoSmall }

/-- 'laws.FnExactActWord', WHERE WHAT IT READS IS OF BULK AT MOST 1048576: true; the input reads as it did. -/
def fnExactActWordUptoRow : OpenClaim := { program := "ytkcgdmjdkbgmkaa", sum := "dad650e8b6763df4da8dee81db9dbe9e11ff2a4aa3f21d8b46da44e0f18cd024", func := "loop.example/g01119/laws.FnExactActWord", spec := "fnExactActWord", unfollowed := true, recurses := true, apart := false, narrowed := true }
def FnExactActWordUptoSaid : Prop := fnExactActWordUptoRow.holds Try.pinned (OpenSpec.upto fnExactActWordSpec)

/-- 'laws.FnRackSolutions', WHERE WHAT IT READS IS OF BULK AT MOST 1048576: true; the input reads as it did. -/
def fnRackSolutionsUptoRow : OpenClaim := { program := "ytkcgdmjdkbgmkaa", sum := "dad650e8b6763df4da8dee81db9dbe9e11ff2a4aa3f21d8b46da44e0f18cd024", func := "loop.example/g01119/laws.FnRackSolutions", spec := "fnRackSolutions", unfollowed := true, recurses := true, apart := false, narrowed := true }
def FnRackSolutionsUptoSaid : Prop := fnRackSolutionsUptoRow.holds Try.pinned (OpenSpec.upto fnRackSolutionsSpec)

/-- 'laws.FnTwistedSolutions', WHERE WHAT IT READS IS OF BULK AT MOST 1048576: true; the input reads as it did. -/
def fnTwistedSolutionsUptoRow : OpenClaim := { program := "ytkcgdmjdkbgmkaa", sum := "dad650e8b6763df4da8dee81db9dbe9e11ff2a4aa3f21d8b46da44e0f18cd024", func := "loop.example/g01119/laws.FnTwistedSolutions", spec := "fnTwistedSolutions", unfollowed := true, recurses := true, apart := false, narrowed := true }
def FnTwistedSolutionsUptoSaid : Prop := fnTwistedSolutionsUptoRow.holds Try.pinned (OpenSpec.upto fnTwistedSolutionsSpec)

/-- 'laws.FnGuitar', WHERE WHAT IT READS IS OF BULK AT MOST 1048576: true; the input reads as it did. -/
def fnGuitarUptoRow : OpenClaim := { program := "ytkcgdmjdkbgmkaa", sum := "dad650e8b6763df4da8dee81db9dbe9e11ff2a4aa3f21d8b46da44e0f18cd024", func := "loop.example/g01119/laws.FnGuitar", spec := "fnGuitar", unfollowed := true, recurses := true, apart := false, narrowed := true }
def FnGuitarUptoSaid : Prop := fnGuitarUptoRow.holds Try.pinned (OpenSpec.upto fnGuitarSpec)

end Rows
end Go.Proofs.Ytkcgdmjdkbgmkaa
