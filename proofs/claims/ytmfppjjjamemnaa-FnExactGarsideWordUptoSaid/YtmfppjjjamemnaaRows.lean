/-
  No cell of these rows narrows 'for every input' (looked for: loops, veiled, ifaces, maps, wideKeys, modest, calm, conditions, laid).
  DERIVED. THE GIVEN ROWS OF THIS SEAT. 12 by the template 'for every input the law returns true; each argument reads behind the call as it read before'; 0 by the template 'total and deterministic' (their statements: YtmfppjjjamemnaaTotals.lean).
  GIVEN WITH THE SEED: the statements are not yours to turn. If you find one false, say at which input.
  Laid BY PROGRAM, IN A SANDBOX (cutbox-rows.mjs): the forced cells as the released guide's own fill.sh prints them over the translation ac148b7e515bba4a… (all of the seat's roots in one cut). By AI agents, Wed Nov 11 2026. No macro, syntax, notation, axiom, sorry.
-/
import Derived.Test.YtmfppjjjamemnaaChecked
import GoSem.Claim
import GoSem.ClaimJoined
import GoSem.ClaimMapViews
import Derived.JoinedTies
import Derived.KernelRfl
namespace Go.Proofs.Ytmfppjjjamemnaa
/- THE CELL 'sum', in the pinned program and in every row, IS THE sha256 OF THE DUMP (.gsa) THAT YtmfppjjjamemnaaProg.lean LOADS. Nothing in Lean hashes anything: it is a label: what it is worth is what the hold of that sum in a sandbox is worth. -/
noncomputable def Try.pinned : Pinned := { name := "ytmfppjjjamemnaa", sum := "ac148b7e515bba4a21728293ff6a2fb13d7a54caae46bdc7f025a9be94577270", checked := Try.checked }
namespace Rows
def none {H : Type} : Left H := { results := [], args := [] }

/-- 'laws.FnExactAreEqualWords': WHATEVER THE INPUT: true; the input reads as it did. -/
def fnExactAreEqualWordsSpec : ChangeSpec := { name := "fnExactAreEqualWords", fn := fun _ => fun
  | [d1, d2, d3] => { results := [.lit (.bool true)], args := [d1, d2, d3] }
  | _ => none }
def fnExactAreEqualWordsRow : OpenClaim := { program := "ytmfppjjjamemnaa", sum := "ac148b7e515bba4a21728293ff6a2fb13d7a54caae46bdc7f025a9be94577270", func := "loop.example/g01119/laws.FnExactAreEqualWords", spec := "fnExactAreEqualWords", unfollowed := true, recurses := true, apart := false }
def FnExactAreEqualWordsSaid : Prop := fnExactAreEqualWordsRow.holds Try.pinned (OpenSpec.ofChange fnExactAreEqualWordsSpec)

/-- ITS FALSE NEIGHBOUR: 'it returns false'. Refute it at one input. -/
def fnExactAreEqualWordsWrong : ChangeSpec := { name := "fnExactAreEqualWords", fn := fun _ => fun
  | [d1, d2, d3] => { results := [.lit (.bool false)], args := [d1, d2, d3] }
  | _ => none }
def FnExactAreEqualWordsWrongFalsely : Prop := fnExactAreEqualWordsRow.holds Try.pinned (OpenSpec.ofChange fnExactAreEqualWordsWrong)

/-- 'laws.FnExactClassOfWord': WHATEVER THE INPUT: true; the input reads as it did. -/
def fnExactClassOfWordSpec : ChangeSpec := { name := "fnExactClassOfWord", fn := fun _ => fun
  | [d1, d2] => { results := [.lit (.bool true)], args := [d1, d2] }
  | _ => none }
def fnExactClassOfWordRow : OpenClaim := { program := "ytmfppjjjamemnaa", sum := "ac148b7e515bba4a21728293ff6a2fb13d7a54caae46bdc7f025a9be94577270", func := "loop.example/g01119/laws.FnExactClassOfWord", spec := "fnExactClassOfWord", unfollowed := true, recurses := true, apart := false }
def FnExactClassOfWordSaid : Prop := fnExactClassOfWordRow.holds Try.pinned (OpenSpec.ofChange fnExactClassOfWordSpec)

/-- ITS FALSE NEIGHBOUR: 'it returns false'. Refute it at one input. -/
def fnExactClassOfWordWrong : ChangeSpec := { name := "fnExactClassOfWord", fn := fun _ => fun
  | [d1, d2] => { results := [.lit (.bool false)], args := [d1, d2] }
  | _ => none }
def FnExactClassOfWordWrongFalsely : Prop := fnExactClassOfWordRow.holds Try.pinned (OpenSpec.ofChange fnExactClassOfWordWrong)

/-- 'laws.FnExactNormalWord': WHATEVER THE INPUT: true; the input reads as it did. -/
def fnExactNormalWordSpec : ChangeSpec := { name := "fnExactNormalWord", fn := fun _ => fun
  | [d1, d2] => { results := [.lit (.bool true)], args := [d1, d2] }
  | _ => none }
def fnExactNormalWordRow : OpenClaim := { program := "ytmfppjjjamemnaa", sum := "ac148b7e515bba4a21728293ff6a2fb13d7a54caae46bdc7f025a9be94577270", func := "loop.example/g01119/laws.FnExactNormalWord", spec := "fnExactNormalWord", unfollowed := true, recurses := true, apart := false }
def FnExactNormalWordSaid : Prop := fnExactNormalWordRow.holds Try.pinned (OpenSpec.ofChange fnExactNormalWordSpec)

/-- ITS FALSE NEIGHBOUR: 'it returns false'. Refute it at one input. -/
def fnExactNormalWordWrong : ChangeSpec := { name := "fnExactNormalWord", fn := fun _ => fun
  | [d1, d2] => { results := [.lit (.bool false)], args := [d1, d2] }
  | _ => none }
def FnExactNormalWordWrongFalsely : Prop := fnExactNormalWordRow.holds Try.pinned (OpenSpec.ofChange fnExactNormalWordWrong)

/-- 'laws.FnExactLeftGroup': WHATEVER THE INPUT: true; the input reads as it did. -/
def fnExactLeftGroupSpec : ChangeSpec := { name := "fnExactLeftGroup", fn := fun _ => fun
  | [d] => { results := [.lit (.bool true)], args := [d] }
  | _ => none }
def fnExactLeftGroupRow : OpenClaim := { program := "ytmfppjjjamemnaa", sum := "ac148b7e515bba4a21728293ff6a2fb13d7a54caae46bdc7f025a9be94577270", func := "loop.example/g01119/laws.FnExactLeftGroup", spec := "fnExactLeftGroup", unfollowed := true, recurses := true, apart := false }
def FnExactLeftGroupSaid : Prop := fnExactLeftGroupRow.holds Try.pinned (OpenSpec.ofChange fnExactLeftGroupSpec)

/-- ITS FALSE NEIGHBOUR: 'it returns false'. Refute it at one input. -/
def fnExactLeftGroupWrong : ChangeSpec := { name := "fnExactLeftGroup", fn := fun _ => fun
  | [d] => { results := [.lit (.bool false)], args := [d] }
  | _ => none }
def FnExactLeftGroupWrongFalsely : Prop := fnExactLeftGroupRow.holds Try.pinned (OpenSpec.ofChange fnExactLeftGroupWrong)

/-- 'laws.FnExactCountClasses': WHATEVER THE INPUT: true; the input reads as it did. -/
def fnExactCountClassesSpec : ChangeSpec := { name := "fnExactCountClasses", fn := fun _ => fun
  | [d1, d2] => { results := [.lit (.bool true)], args := [d1, d2] }
  | _ => none }
def fnExactCountClassesRow : OpenClaim := { program := "ytmfppjjjamemnaa", sum := "ac148b7e515bba4a21728293ff6a2fb13d7a54caae46bdc7f025a9be94577270", func := "loop.example/g01119/laws.FnExactCountClasses", spec := "fnExactCountClasses", unfollowed := true, recurses := true, apart := false }
def FnExactCountClassesSaid : Prop := fnExactCountClassesRow.holds Try.pinned (OpenSpec.ofChange fnExactCountClassesSpec)

/-- ITS FALSE NEIGHBOUR: 'it returns false'. Refute it at one input. -/
def fnExactCountClassesWrong : ChangeSpec := { name := "fnExactCountClasses", fn := fun _ => fun
  | [d1, d2] => { results := [.lit (.bool false)], args := [d1, d2] }
  | _ => none }
def FnExactCountClassesWrongFalsely : Prop := fnExactCountClassesRow.holds Try.pinned (OpenSpec.ofChange fnExactCountClassesWrong)

/-- 'laws.FnExactDividesWord': WHATEVER THE INPUT: true; the input reads as it did. -/
def fnExactDividesWordSpec : ChangeSpec := { name := "fnExactDividesWord", fn := fun _ => fun
  | [d1, d2, d3] => { results := [.lit (.bool true)], args := [d1, d2, d3] }
  | _ => none }
def fnExactDividesWordRow : OpenClaim := { program := "ytmfppjjjamemnaa", sum := "ac148b7e515bba4a21728293ff6a2fb13d7a54caae46bdc7f025a9be94577270", func := "loop.example/g01119/laws.FnExactDividesWord", spec := "fnExactDividesWord", unfollowed := true, recurses := true, apart := false }
def FnExactDividesWordSaid : Prop := fnExactDividesWordRow.holds Try.pinned (OpenSpec.ofChange fnExactDividesWordSpec)

/-- ITS FALSE NEIGHBOUR: 'it returns false'. Refute it at one input. -/
def fnExactDividesWordWrong : ChangeSpec := { name := "fnExactDividesWord", fn := fun _ => fun
  | [d1, d2, d3] => { results := [.lit (.bool false)], args := [d1, d2, d3] }
  | _ => none }
def FnExactDividesWordWrongFalsely : Prop := fnExactDividesWordRow.holds Try.pinned (OpenSpec.ofChange fnExactDividesWordWrong)

/-- 'laws.FnExactNormalWords': WHATEVER THE INPUT: true; the input reads as it did. -/
def fnExactNormalWordsSpec : ChangeSpec := { name := "fnExactNormalWords", fn := fun _ => fun
  | [d1, d2] => { results := [.lit (.bool true)], args := [d1, d2] }
  | _ => none }
def fnExactNormalWordsRow : OpenClaim := { program := "ytmfppjjjamemnaa", sum := "ac148b7e515bba4a21728293ff6a2fb13d7a54caae46bdc7f025a9be94577270", func := "loop.example/g01119/laws.FnExactNormalWords", spec := "fnExactNormalWords", unfollowed := true, recurses := true, apart := false }
def FnExactNormalWordsSaid : Prop := fnExactNormalWordsRow.holds Try.pinned (OpenSpec.ofChange fnExactNormalWordsSpec)

/-- ITS FALSE NEIGHBOUR: 'it returns false'. Refute it at one input. -/
def fnExactNormalWordsWrong : ChangeSpec := { name := "fnExactNormalWords", fn := fun _ => fun
  | [d1, d2] => { results := [.lit (.bool false)], args := [d1, d2] }
  | _ => none }
def FnExactNormalWordsWrongFalsely : Prop := fnExactNormalWordsRow.holds Try.pinned (OpenSpec.ofChange fnExactNormalWordsWrong)

/-- 'laws.FnExactDivisorsOfWord': WHATEVER THE INPUT: true; the input reads as it did. -/
def fnExactDivisorsOfWordSpec : ChangeSpec := { name := "fnExactDivisorsOfWord", fn := fun _ => fun
  | [d1, d2] => { results := [.lit (.bool true)], args := [d1, d2] }
  | _ => none }
def fnExactDivisorsOfWordRow : OpenClaim := { program := "ytmfppjjjamemnaa", sum := "ac148b7e515bba4a21728293ff6a2fb13d7a54caae46bdc7f025a9be94577270", func := "loop.example/g01119/laws.FnExactDivisorsOfWord", spec := "fnExactDivisorsOfWord", unfollowed := true, recurses := true, apart := false }
def FnExactDivisorsOfWordSaid : Prop := fnExactDivisorsOfWordRow.holds Try.pinned (OpenSpec.ofChange fnExactDivisorsOfWordSpec)

/-- ITS FALSE NEIGHBOUR: 'it returns false'. Refute it at one input. -/
def fnExactDivisorsOfWordWrong : ChangeSpec := { name := "fnExactDivisorsOfWord", fn := fun _ => fun
  | [d1, d2] => { results := [.lit (.bool false)], args := [d1, d2] }
  | _ => none }
def FnExactDivisorsOfWordWrongFalsely : Prop := fnExactDivisorsOfWordRow.holds Try.pinned (OpenSpec.ofChange fnExactDivisorsOfWordWrong)

/-- 'laws.FnExactCommonMultiple': WHATEVER THE INPUT: true; the input reads as it did. -/
def fnExactCommonMultipleSpec : ChangeSpec := { name := "fnExactCommonMultiple", fn := fun _ => fun
  | [d1, d2, d3] => { results := [.lit (.bool true)], args := [d1, d2, d3] }
  | _ => none }
def fnExactCommonMultipleRow : OpenClaim := { program := "ytmfppjjjamemnaa", sum := "ac148b7e515bba4a21728293ff6a2fb13d7a54caae46bdc7f025a9be94577270", func := "loop.example/g01119/laws.FnExactCommonMultiple", spec := "fnExactCommonMultiple", unfollowed := true, recurses := true, apart := false }
def FnExactCommonMultipleSaid : Prop := fnExactCommonMultipleRow.holds Try.pinned (OpenSpec.ofChange fnExactCommonMultipleSpec)

/-- ITS FALSE NEIGHBOUR: 'it returns false'. Refute it at one input. -/
def fnExactCommonMultipleWrong : ChangeSpec := { name := "fnExactCommonMultiple", fn := fun _ => fun
  | [d1, d2, d3] => { results := [.lit (.bool false)], args := [d1, d2, d3] }
  | _ => none }
def FnExactCommonMultipleWrongFalsely : Prop := fnExactCommonMultipleRow.holds Try.pinned (OpenSpec.ofChange fnExactCommonMultipleWrong)

/-- 'laws.FnExactQuotientWord': WHATEVER THE INPUT: true; the input reads as it did. -/
def fnExactQuotientWordSpec : ChangeSpec := { name := "fnExactQuotientWord", fn := fun _ => fun
  | [d1, d2, d3] => { results := [.lit (.bool true)], args := [d1, d2, d3] }
  | _ => none }
def fnExactQuotientWordRow : OpenClaim := { program := "ytmfppjjjamemnaa", sum := "ac148b7e515bba4a21728293ff6a2fb13d7a54caae46bdc7f025a9be94577270", func := "loop.example/g01119/laws.FnExactQuotientWord", spec := "fnExactQuotientWord", unfollowed := true, recurses := true, apart := false }
def FnExactQuotientWordSaid : Prop := fnExactQuotientWordRow.holds Try.pinned (OpenSpec.ofChange fnExactQuotientWordSpec)

/-- ITS FALSE NEIGHBOUR: 'it returns false'. Refute it at one input. -/
def fnExactQuotientWordWrong : ChangeSpec := { name := "fnExactQuotientWord", fn := fun _ => fun
  | [d1, d2, d3] => { results := [.lit (.bool false)], args := [d1, d2, d3] }
  | _ => none }
def FnExactQuotientWordWrongFalsely : Prop := fnExactQuotientWordRow.holds Try.pinned (OpenSpec.ofChange fnExactQuotientWordWrong)

/-- 'laws.FnExactGarsideWord': WHATEVER THE INPUT: true; the input reads as it did. -/
def fnExactGarsideWordSpec : ChangeSpec := { name := "fnExactGarsideWord", fn := fun _ => fun
  | [d] => { results := [.lit (.bool true)], args := [d] }
  | _ => none }
def fnExactGarsideWordRow : OpenClaim := { program := "ytmfppjjjamemnaa", sum := "ac148b7e515bba4a21728293ff6a2fb13d7a54caae46bdc7f025a9be94577270", func := "loop.example/g01119/laws.FnExactGarsideWord", spec := "fnExactGarsideWord", unfollowed := true, recurses := true, apart := false }
def FnExactGarsideWordSaid : Prop := fnExactGarsideWordRow.holds Try.pinned (OpenSpec.ofChange fnExactGarsideWordSpec)

/-- ITS FALSE NEIGHBOUR: 'it returns false'. Refute it at one input. -/
def fnExactGarsideWordWrong : ChangeSpec := { name := "fnExactGarsideWord", fn := fun _ => fun
  | [d] => { results := [.lit (.bool false)], args := [d] }
  | _ => none }
def FnExactGarsideWordWrongFalsely : Prop := fnExactGarsideWordRow.holds Try.pinned (OpenSpec.ofChange fnExactGarsideWordWrong)

/-- 'laws.FnExactOrbitSolutions': WHATEVER THE INPUT: true; the input reads as it did. -/
def fnExactOrbitSolutionsSpec : ChangeSpec := { name := "fnExactOrbitSolutions", fn := fun _ => fun
  | [d] => { results := [.lit (.bool true)], args := [d] }
  | _ => none }
def fnExactOrbitSolutionsRow : OpenClaim := { program := "ytmfppjjjamemnaa", sum := "ac148b7e515bba4a21728293ff6a2fb13d7a54caae46bdc7f025a9be94577270", func := "loop.example/g01119/laws.FnExactOrbitSolutions", spec := "fnExactOrbitSolutions", unfollowed := true, recurses := true, apart := false }
def FnExactOrbitSolutionsSaid : Prop := fnExactOrbitSolutionsRow.holds Try.pinned (OpenSpec.ofChange fnExactOrbitSolutionsSpec)

/-- ITS FALSE NEIGHBOUR: 'it returns false'. Refute it at one input. -/
def fnExactOrbitSolutionsWrong : ChangeSpec := { name := "fnExactOrbitSolutions", fn := fun _ => fun
  | [d] => { results := [.lit (.bool false)], args := [d] }
  | _ => none }
def FnExactOrbitSolutionsWrongFalsely : Prop := fnExactOrbitSolutionsRow.holds Try.pinned (OpenSpec.ofChange fnExactOrbitSolutionsWrong)

/- THE SECOND FORM. 'bulk': how many values and letters a reading holds, each counted each time it is reached (what is shared counts as often as it is met; a slice's spare places count too). A statement '..UptoSaid' is the law's where the arguments, and the package variables that the reading takes, are together of bulk at most 1048576: NARROWER than '..Said'. Prove '..Said' where nothing that the law and all that it calls make is longer than what came in: it says more and counts as full. Else prove '..UptoSaid'. A law counts once. -/
mutual
def uptoBulk {H : Type} : DataW H → Nat
  | .lit (.string bytes) => bytes.length + 1
  | .lit _ => 1
  | .nil => 1
  | .ptr d => uptoBulk d + 1
  | .slice elems spare => uptoBulkAll elems + uptoBulkAll spare + 1
  | .agg parts => uptoBulkAll parts + 1
  | .iface _ d => uptoBulk d + 1
  | .map entries => uptoBulkEntries entries + 1
  | .held _ => 1
def uptoBulkAll {H : Type} : List (DataW H) → Nat
  | [] => 0
  | d :: r => uptoBulk d + uptoBulkAll r
def uptoBulkEntries {H : Type} : List (Lit × DataW H) → Nat
  | [] => 0
  | x :: r => uptoBulkEntry x + uptoBulkEntries r
def uptoBulkEntry {H : Type} : Lit × DataW H → Nat
  | (.string bytes, d) => bytes.length + uptoBulk d + 1
  | (_, d) => uptoBulk d + 1
 end
def uptoSmall : (H : Type) → List (DataW H) → Bool := fun _ ds => decide (uptoBulkAll ds ≤ 1048576)
def OpenSpec.upto (s : _root_.Go.ChangeSpec) : _root_.Go.OpenSpec := { _root_.Go.OpenSpec.ofChange s with cond := some uptoSmall }

/-- 'laws.FnExactAreEqualWords', WHERE WHAT IT READS IS OF BULK AT MOST 1048576: true; the input reads as it did. -/
def fnExactAreEqualWordsUptoRow : OpenClaim := { program := "ytmfppjjjamemnaa", sum := "ac148b7e515bba4a21728293ff6a2fb13d7a54caae46bdc7f025a9be94577270", func := "loop.example/g01119/laws.FnExactAreEqualWords", spec := "fnExactAreEqualWords", unfollowed := true, recurses := true, apart := false, narrowed := true }
def FnExactAreEqualWordsUptoSaid : Prop := fnExactAreEqualWordsUptoRow.holds Try.pinned (OpenSpec.upto fnExactAreEqualWordsSpec)

/-- 'laws.FnExactClassOfWord', WHERE WHAT IT READS IS OF BULK AT MOST 1048576: true; the input reads as it did. -/
def fnExactClassOfWordUptoRow : OpenClaim := { program := "ytmfppjjjamemnaa", sum := "ac148b7e515bba4a21728293ff6a2fb13d7a54caae46bdc7f025a9be94577270", func := "loop.example/g01119/laws.FnExactClassOfWord", spec := "fnExactClassOfWord", unfollowed := true, recurses := true, apart := false, narrowed := true }
def FnExactClassOfWordUptoSaid : Prop := fnExactClassOfWordUptoRow.holds Try.pinned (OpenSpec.upto fnExactClassOfWordSpec)

/-- 'laws.FnExactNormalWord', WHERE WHAT IT READS IS OF BULK AT MOST 1048576: true; the input reads as it did. -/
def fnExactNormalWordUptoRow : OpenClaim := { program := "ytmfppjjjamemnaa", sum := "ac148b7e515bba4a21728293ff6a2fb13d7a54caae46bdc7f025a9be94577270", func := "loop.example/g01119/laws.FnExactNormalWord", spec := "fnExactNormalWord", unfollowed := true, recurses := true, apart := false, narrowed := true }
def FnExactNormalWordUptoSaid : Prop := fnExactNormalWordUptoRow.holds Try.pinned (OpenSpec.upto fnExactNormalWordSpec)

/-- 'laws.FnExactLeftGroup', WHERE WHAT IT READS IS OF BULK AT MOST 1048576: true; the input reads as it did. -/
def fnExactLeftGroupUptoRow : OpenClaim := { program := "ytmfppjjjamemnaa", sum := "ac148b7e515bba4a21728293ff6a2fb13d7a54caae46bdc7f025a9be94577270", func := "loop.example/g01119/laws.FnExactLeftGroup", spec := "fnExactLeftGroup", unfollowed := true, recurses := true, apart := false, narrowed := true }
def FnExactLeftGroupUptoSaid : Prop := fnExactLeftGroupUptoRow.holds Try.pinned (OpenSpec.upto fnExactLeftGroupSpec)

/-- 'laws.FnExactCountClasses', WHERE WHAT IT READS IS OF BULK AT MOST 1048576: true; the input reads as it did. -/
def fnExactCountClassesUptoRow : OpenClaim := { program := "ytmfppjjjamemnaa", sum := "ac148b7e515bba4a21728293ff6a2fb13d7a54caae46bdc7f025a9be94577270", func := "loop.example/g01119/laws.FnExactCountClasses", spec := "fnExactCountClasses", unfollowed := true, recurses := true, apart := false, narrowed := true }
def FnExactCountClassesUptoSaid : Prop := fnExactCountClassesUptoRow.holds Try.pinned (OpenSpec.upto fnExactCountClassesSpec)

/-- 'laws.FnExactDividesWord', WHERE WHAT IT READS IS OF BULK AT MOST 1048576: true; the input reads as it did. -/
def fnExactDividesWordUptoRow : OpenClaim := { program := "ytmfppjjjamemnaa", sum := "ac148b7e515bba4a21728293ff6a2fb13d7a54caae46bdc7f025a9be94577270", func := "loop.example/g01119/laws.FnExactDividesWord", spec := "fnExactDividesWord", unfollowed := true, recurses := true, apart := false, narrowed := true }
def FnExactDividesWordUptoSaid : Prop := fnExactDividesWordUptoRow.holds Try.pinned (OpenSpec.upto fnExactDividesWordSpec)

/-- 'laws.FnExactNormalWords', WHERE WHAT IT READS IS OF BULK AT MOST 1048576: true; the input reads as it did. -/
def fnExactNormalWordsUptoRow : OpenClaim := { program := "ytmfppjjjamemnaa", sum := "ac148b7e515bba4a21728293ff6a2fb13d7a54caae46bdc7f025a9be94577270", func := "loop.example/g01119/laws.FnExactNormalWords", spec := "fnExactNormalWords", unfollowed := true, recurses := true, apart := false, narrowed := true }
def FnExactNormalWordsUptoSaid : Prop := fnExactNormalWordsUptoRow.holds Try.pinned (OpenSpec.upto fnExactNormalWordsSpec)

/-- 'laws.FnExactDivisorsOfWord', WHERE WHAT IT READS IS OF BULK AT MOST 1048576: true; the input reads as it did. -/
def fnExactDivisorsOfWordUptoRow : OpenClaim := { program := "ytmfppjjjamemnaa", sum := "ac148b7e515bba4a21728293ff6a2fb13d7a54caae46bdc7f025a9be94577270", func := "loop.example/g01119/laws.FnExactDivisorsOfWord", spec := "fnExactDivisorsOfWord", unfollowed := true, recurses := true, apart := false, narrowed := true }
def FnExactDivisorsOfWordUptoSaid : Prop := fnExactDivisorsOfWordUptoRow.holds Try.pinned (OpenSpec.upto fnExactDivisorsOfWordSpec)

/-- 'laws.FnExactCommonMultiple', WHERE WHAT IT READS IS OF BULK AT MOST 1048576: true; the input reads as it did. -/
def fnExactCommonMultipleUptoRow : OpenClaim := { program := "ytmfppjjjamemnaa", sum := "ac148b7e515bba4a21728293ff6a2fb13d7a54caae46bdc7f025a9be94577270", func := "loop.example/g01119/laws.FnExactCommonMultiple", spec := "fnExactCommonMultiple", unfollowed := true, recurses := true, apart := false, narrowed := true }
def FnExactCommonMultipleUptoSaid : Prop := fnExactCommonMultipleUptoRow.holds Try.pinned (OpenSpec.upto fnExactCommonMultipleSpec)

/-- 'laws.FnExactQuotientWord', WHERE WHAT IT READS IS OF BULK AT MOST 1048576: true; the input reads as it did. -/
def fnExactQuotientWordUptoRow : OpenClaim := { program := "ytmfppjjjamemnaa", sum := "ac148b7e515bba4a21728293ff6a2fb13d7a54caae46bdc7f025a9be94577270", func := "loop.example/g01119/laws.FnExactQuotientWord", spec := "fnExactQuotientWord", unfollowed := true, recurses := true, apart := false, narrowed := true }
def FnExactQuotientWordUptoSaid : Prop := fnExactQuotientWordUptoRow.holds Try.pinned (OpenSpec.upto fnExactQuotientWordSpec)

/-- 'laws.FnExactGarsideWord', WHERE WHAT IT READS IS OF BULK AT MOST 1048576: true; the input reads as it did. -/
def fnExactGarsideWordUptoRow : OpenClaim := { program := "ytmfppjjjamemnaa", sum := "ac148b7e515bba4a21728293ff6a2fb13d7a54caae46bdc7f025a9be94577270", func := "loop.example/g01119/laws.FnExactGarsideWord", spec := "fnExactGarsideWord", unfollowed := true, recurses := true, apart := false, narrowed := true }
def FnExactGarsideWordUptoSaid : Prop := fnExactGarsideWordUptoRow.holds Try.pinned (OpenSpec.upto fnExactGarsideWordSpec)

/-- 'laws.FnExactOrbitSolutions', WHERE WHAT IT READS IS OF BULK AT MOST 1048576: true; the input reads as it did. -/
def fnExactOrbitSolutionsUptoRow : OpenClaim := { program := "ytmfppjjjamemnaa", sum := "ac148b7e515bba4a21728293ff6a2fb13d7a54caae46bdc7f025a9be94577270", func := "loop.example/g01119/laws.FnExactOrbitSolutions", spec := "fnExactOrbitSolutions", unfollowed := true, recurses := true, apart := false, narrowed := true }
def FnExactOrbitSolutionsUptoSaid : Prop := fnExactOrbitSolutionsUptoRow.holds Try.pinned (OpenSpec.upto fnExactOrbitSolutionsSpec)

end Rows
end Go.Proofs.Ytmfppjjjamemnaa
