/- The compact code of the functions is this seat's program's: what the machine calls good, the program does. -/
import Derived.Test.YtmojfojdkolaiaaRows
import Derived.KernelRfl
import Derived.Test.YtmojfojdkolaiaaM3
import Derived.Test.YtmojfojdkolaiaaYeA
import Derived.Test.YtmojfojdkolaiaaYeB
import Derived.Test.YtmojfojdkolaiaaYeC
import Derived.Test.YtmojfojdkolaiaaYeE
import Derived.Test.YtmojfojdkolaiaaP1
namespace Go.Proofs.Ytmojfojdkolaiaa.Tie
open Go.Mch
def fmL : List Nat := [0, 0, 0, 0, 0, 0, 0, 27, 0, 19, 0, 0, 0, 0, 15, 0, 17, 0, 20, 0, 0, 58, 0, 0, 0, 0, 0, 52, 0, 0, 91, 141, 55, 0, 0, 93, 0, 0, 0, 0, 0, 99, 102, 0, 0, 98, 105, 61, 0, 0, 110, 111, 0, 0, 143, 0, 132, 133, 134, 137, 138, 139, 107, 77, 142, 144, 66, 108, 155, 140, 120, 0, 0, 0, 0, 0, 0, 0, 0, 0, 0, 0, 0, 0, 0, 0, 0, 0, 0, 0, 0, 0, 0, 0, 0, 0, 12, 0, 0, 0, 0, 0, 0, 0, 0, 0, 0, 0, 0, 0, 0, 0, 0, 0, 0, 0, 0, 0, 0, 0, 0, 0, 0, 0, 0, 0, 0, 0, 0, 0, 0, 0, 0, 0, 0, 0, 0, 0, 0, 0, 0, 0, 0, 0, 0, 0, 0, 0, 0, 0, 0, 0, 0, 0, 0, 0, 0, 0, 0, 0, 0, 0, 0, 0, 0, 0, 0, 0, 0, 0, 0, 0, 0, 0, 0, 0, 0, 0, 0, 0, 0, 0, 0, 0, 0, 0, 0, 0, 0, 0, 0, 0, 0, 0, 0, 0, 0, 46, 47, 0, 0, 0, 0, 0, 0, 0, 0, 0, 0, 0, 0, 0, 0, 0, 0, 0, 0, 0, 0, 0, 0, 0, 0, 0, 0, 0, 0, 0, 0, 0, 0, 0, 0, 0, 0, 0, 0, 0, 0, 0, 0, 0, 0, 0, 0, 0, 0, 0, 0, 0, 0, 0, 0, 0, 0, 0, 0, 0, 0, 0, 0, 0, 0, 0, 53, 118, 56, 122, 0, 0, 0, 78, 0, 81, 0, 0, 0, 0, 0, 0, 109, 0, 0, 0, 0, 103, 0, 0, 73, 0, 83, 0, 0, 0, 0, 0, 0, 0, 0, 54, 89, 57, 0, 0, 0, 0, 0, 0, 0, 0, 0, 0, 0, 0, 0, 0, 0, 0, 0, 0, 0, 0, 0, 0, 0, 0, 0, 0, 0, 88, 90, 0, 0, 0, 92, 94, 0, 0, 0, 0, 0, 0, 0, 0, 0, 0, 0, 0, 0, 0, 100, 0, 0, 0, 0, 0, 0, 0, 0, 0, 0, 0, 0, 0, 0, 0, 0, 0, 0, 0, 0, 0, 0, 0, 0, 148, 114, 150, 0, 0, 0, 121, 0, 0, 154, 119, 129, 101, 104, 0, 0, 0, 0, 0, 0, 0, 0, 0, 0, 0, 0, 0, 0, 0, 0, 0, 0, 0, 0, 0, 135, 0, 0, 0, 0, 0, 0, 0, 0, 0, 0, 0, 0, 0, 0, 0, 0, 0, 0, 149, 136]
def fm (k : Nat) : Nat := fmL.getD k 0
theorem k96 : (Try.prog.funcs[12]?).any (okF Try.prog fm (lw_B 197 198)) = true := by kernel_rfl
theorem k14 : (Try.prog.funcs[15]?).any (okF Try.prog fm c_laws_szSolution) = true := by kernel_rfl
theorem k16 : (Try.prog.funcs[17]?).any (okF Try.prog fm c_laws_toSolution) = true := by kernel_rfl
theorem k9 : (Try.prog.funcs[19]?).any (okF Try.prog fm c_laws_eqInt64S) = true := by kernel_rfl
theorem k18 : (Try.prog.funcs[20]?).any (okF Try.prog fm c_laws_eqSolution) = true := by kernel_rfl
theorem k7 : (Try.prog.funcs[27]?).any (okF Try.prog fm c_laws_toInt64S) = true := by kernel_rfl
theorem k197 : (Try.prog.funcs[46]?).any (okF Try.prog fm c_spec_IsPrimitiveSolution) = true := by kernel_rfl
theorem k198 : (Try.prog.funcs[47]?).any (okF Try.prog fm c_impl_IsPrimitiveSolution) = true := by kernel_rfl
theorem k27 : (Try.prog.funcs[52]?).any (okF Try.prog fm c_laws_szInt64SS) = true := by kernel_rfl
theorem k264 : (Try.prog.funcs[53]?).any (okF Try.prog fm c_spec_l07Is) = true := by kernel_rfl
theorem k299 : (Try.prog.funcs[54]?).any (okF Try.prog fm c_spec_l07Orbits) = true := by kernel_rfl
theorem k32 : (Try.prog.funcs[55]?).any (okF Try.prog fm c_laws_toInt64SS) = true := by kernel_rfl
theorem k266 : (Try.prog.funcs[56]?).any (okF Try.prog fm c_impl_isRegular) = true := by kernel_rfl
theorem k301 : (Try.prog.funcs[57]?).any (okF Try.prog fm c_impl_solutionOrbits) = true := by kernel_rfl
theorem k21 : (Try.prog.funcs[58]?).any (okF Try.prog fm c_laws_eqInt64SS) = true := by kernel_rfl
theorem k47 : (Try.prog.funcs[61]?).any (okF Try.prog fm c_spec_l01Perm) = true := by kernel_rfl
theorem k66 : (Try.prog.funcs[66]?).any (okF Try.prog fm c_impl_isPermuted) = true := by kernel_rfl
theorem k288 : (Try.prog.funcs[73]?).any (okF Try.prog fm c_spec_l01Greatest) = true := by kernel_rfl
theorem k63 : (Try.prog.funcs[77]?).any (okF Try.prog fm c_slices_ContainsFunc_____int64___int64_) = true := by kernel_rfl
theorem k271 : (Try.prog.funcs[78]?).any (okF Try.prog fm c_impl_wholeSystem) = true := by kernel_rfl
theorem k273 : (Try.prog.funcs[81]?).any (okF Try.prog fm c_spec_l07Both) = true := by kernel_rfl
theorem k290 : (Try.prog.funcs[83]?).any (okF Try.prog fm c_slices_Max___int64_int64_) = true := by kernel_rfl
theorem k329 : (Try.prog.funcs[88]?).any (okF Try.prog fm c_spec_l07Blocks) = true := by kernel_rfl
theorem k300 : (Try.prog.funcs[89]?).any (okF Try.prog fm c_impl_isIndecomposable) = true := by kernel_rfl
theorem k330 : (Try.prog.funcs[90]?).any (okF Try.prog fm c_impl_blockSystem) = true := by kernel_rfl
theorem k30 : (Try.prog.funcs[91]?).any (okF Try.prog fm c_spec_l01In) = true := by kernel_rfl
theorem k334 : (Try.prog.funcs[92]?).any (okF Try.prog fm c_spec_l01Unit) = true := by kernel_rfl
theorem k35 : (Try.prog.funcs[93]?).any (okF Try.prog fm c_impl_within) = true := by kernel_rfl
theorem k335 : (Try.prog.funcs[94]?).any (okF Try.prog fm c_impl_identity) = true := by kernel_rfl
theorem k45 : (Try.prog.funcs[98]?).any (okF Try.prog fm c_laws_szInt64S) = true := by kernel_rfl
theorem k41 : (Try.prog.funcs[99]?).any (okF Try.prog fm c_spec_l02Is) = true := by kernel_rfl
theorem k350 : (Try.prog.funcs[100]?).any (okF Try.prog fm c_spec_l02Good) = true := by kernel_rfl
theorem k387 : (Try.prog.funcs[101]?).any (okF Try.prog fm c_spec_l01Orbits) = true := by kernel_rfl
theorem k42 : (Try.prog.funcs[102]?).any (okF Try.prog fm c_impl_IsSolution) = true := by kernel_rfl
theorem k285 : (Try.prog.funcs[103]?).any (okF Try.prog fm c_impl_isNondegenerate) = true := by kernel_rfl
theorem k388 : (Try.prog.funcs[104]?).any (okF Try.prog fm c_impl_orbitLabels) = true := by kernel_rfl
theorem k46 : (Try.prog.funcs[105]?).any (okF Try.prog fm c_spec_l01Table) = true := by kernel_rfl
theorem k62 : (Try.prog.funcs[107]?).any (okF Try.prog fm c_spec_l01Has) = true := by kernel_rfl
theorem k67 : (Try.prog.funcs[108]?).any (okF Try.prog fm c_spec_l01Same) = true := by kernel_rfl
theorem k280 : (Try.prog.funcs[109]?).any (okF Try.prog fm c_spec_l01Own2) = true := by kernel_rfl
theorem k50 : (Try.prog.funcs[110]?).any (okF Try.prog fm c_impl_IsTable) = true := by kernel_rfl
theorem k51 : (Try.prog.funcs[111]?).any (okF Try.prog fm c_impl_permutationRows) = true := by kernel_rfl
theorem k376 : (Try.prog.funcs[114]?).any (okF Try.prog fm c_impl_tableBy) = true := by kernel_rfl
theorem k265 : (Try.prog.funcs[118]?).any (okF Try.prog fm c_spec_l01Turn) = true := by kernel_rfl
theorem k385 : (Try.prog.funcs[119]?).any (okF Try.prog fm c_spec_l07Renumber) = true := by kernel_rfl
theorem k70 : (Try.prog.funcs[120]?).any (okF Try.prog fm c_slices_IndexFunc_____int64___int64_) = true := by kernel_rfl
theorem k381 : (Try.prog.funcs[121]?).any (okF Try.prog fm c_slices_Concat_____int64___int64_) = true := by kernel_rfl
theorem k267 : (Try.prog.funcs[122]?).any (okF Try.prog fm c_impl_transposed) = true := by kernel_rfl
theorem k386 : (Try.prog.funcs[129]?).any (okF Try.prog fm c_impl_numbered) = true := by kernel_rfl
theorem k56 : (Try.prog.funcs[132]?).any (okF Try.prog fm c_spec_l02Map) = true := by kernel_rfl
theorem k57 : (Try.prog.funcs[133]?).any (okF Try.prog fm c_spec_l02Collision) = true := by kernel_rfl
theorem k58 : (Try.prog.funcs[134]?).any (okF Try.prog fm c_spec_l02Fault) = true := by kernel_rfl
theorem k410 : (Try.prog.funcs[135]?).any (okF Try.prog fm c_spec_l01Rows) = true := by kernel_rfl
theorem k430 : (Try.prog.funcs[136]?).any (okF Try.prog fm c_spec_l01Orbit) = true := by kernel_rfl
theorem k59 : (Try.prog.funcs[137]?).any (okF Try.prog fm c_impl_IsPairMap) = true := by kernel_rfl
theorem k60 : (Try.prog.funcs[138]?).any (okF Try.prog fm c_impl_collisionOf) = true := by kernel_rfl
theorem k61 : (Try.prog.funcs[139]?).any (okF Try.prog fm c_impl_equationFault) = true := by kernel_rfl
theorem k69 : (Try.prog.funcs[140]?).any (okF Try.prog fm c_spec_l01Index) = true := by kernel_rfl
theorem k31 : (Try.prog.funcs[141]?).any (okF Try.prog fm c_spec_l01Own) = true := by kernel_rfl
theorem k64 : (Try.prog.funcs[142]?).any (okF Try.prog fm c_impl_IsTable_1) = true := by kernel_rfl
theorem k54 : (Try.prog.funcs[143]?).any (okF Try.prog fm c_impl_allWithin) = true := by kernel_rfl
theorem k65 : (Try.prog.funcs[144]?).any (okF Try.prog fm c_impl_permutationRows_1) = true := by kernel_rfl
theorem k375 : (Try.prog.funcs[148]?).any (okF Try.prog fm c_spec_l01Column) = true := by kernel_rfl
theorem k429 : (Try.prog.funcs[149]?).any (okF Try.prog fm c_slices_Grow_____int64___int64_) = true := by kernel_rfl
theorem k377 : (Try.prog.funcs[150]?).any (okF Try.prog fm c_impl_transposed_1) = true := by kernel_rfl
theorem k384 : (Try.prog.funcs[154]?).any (okF Try.prog fm c_slices_Index___int64_int64_) = true := by kernel_rfl
theorem k68 : (Try.prog.funcs[155]?).any (okF Try.prog fm c_spec_l02Do) = true := by kernel_rfl
def tab : List (Nat × F) := [(96, (lw_B 197 198)), (14, c_laws_szSolution), (16, c_laws_toSolution), (9, c_laws_eqInt64S), (18, c_laws_eqSolution), (7, c_laws_toInt64S), (197, c_spec_IsPrimitiveSolution), (198, c_impl_IsPrimitiveSolution), (27, c_laws_szInt64SS), (264, c_spec_l07Is), (299, c_spec_l07Orbits), (32, c_laws_toInt64SS), (266, c_impl_isRegular), (301, c_impl_solutionOrbits), (21, c_laws_eqInt64SS), (47, c_spec_l01Perm), (66, c_impl_isPermuted), (288, c_spec_l01Greatest), (63, c_slices_ContainsFunc_____int64___int64_), (271, c_impl_wholeSystem), (273, c_spec_l07Both), (290, c_slices_Max___int64_int64_), (329, c_spec_l07Blocks), (300, c_impl_isIndecomposable), (330, c_impl_blockSystem), (30, c_spec_l01In), (334, c_spec_l01Unit), (35, c_impl_within), (335, c_impl_identity), (45, c_laws_szInt64S), (41, c_spec_l02Is), (350, c_spec_l02Good), (387, c_spec_l01Orbits), (42, c_impl_IsSolution), (285, c_impl_isNondegenerate), (388, c_impl_orbitLabels), (46, c_spec_l01Table), (62, c_spec_l01Has), (67, c_spec_l01Same), (280, c_spec_l01Own2), (50, c_impl_IsTable), (51, c_impl_permutationRows), (376, c_impl_tableBy), (265, c_spec_l01Turn), (385, c_spec_l07Renumber), (70, c_slices_IndexFunc_____int64___int64_), (381, c_slices_Concat_____int64___int64_), (267, c_impl_transposed), (386, c_impl_numbered), (56, c_spec_l02Map), (57, c_spec_l02Collision), (58, c_spec_l02Fault), (410, c_spec_l01Rows), (430, c_spec_l01Orbit), (59, c_impl_IsPairMap), (60, c_impl_collisionOf), (61, c_impl_equationFault), (69, c_spec_l01Index), (31, c_spec_l01Own), (64, c_impl_IsTable_1), (54, c_impl_allWithin), (65, c_impl_permutationRows_1), (375, c_spec_l01Column), (429, c_slices_Grow_____int64___int64_), (377, c_impl_transposed_1), (384, c_slices_Index___int64_int64_), (68, c_spec_l02Do)]
def pg : Pg := { fn := fun f => (tab.find? fun x => x.1 == f).map (·.2) }
theorem all_ok : ∀ x, x ∈ tab → (Try.prog.funcs[fm x.1]?).any (okF Try.prog fm x.2) = true := by
  intro x hx
  unfold tab at hx
  simp only [List.mem_cons, List.not_mem_nil, or_false] at hx
  rcases hx with rfl | rfl | rfl | rfl | rfl | rfl | rfl | rfl | rfl | rfl | rfl | rfl | rfl | rfl | rfl | rfl | rfl | rfl | rfl | rfl | rfl | rfl | rfl | rfl | rfl | rfl | rfl | rfl | rfl | rfl | rfl | rfl | rfl | rfl | rfl | rfl | rfl | rfl | rfl | rfl | rfl | rfl | rfl | rfl | rfl | rfl | rfl | rfl | rfl | rfl | rfl | rfl | rfl | rfl | rfl | rfl | rfl | rfl | rfl | rfl | rfl | rfl | rfl | rfl | rfl | rfl | rfl
  · exact k96
  · exact k14
  · exact k16
  · exact k9
  · exact k18
  · exact k7
  · exact k197
  · exact k198
  · exact k27
  · exact k264
  · exact k299
  · exact k32
  · exact k266
  · exact k301
  · exact k21
  · exact k47
  · exact k66
  · exact k288
  · exact k63
  · exact k271
  · exact k273
  · exact k290
  · exact k329
  · exact k300
  · exact k330
  · exact k30
  · exact k334
  · exact k35
  · exact k335
  · exact k45
  · exact k41
  · exact k350
  · exact k387
  · exact k42
  · exact k285
  · exact k388
  · exact k46
  · exact k62
  · exact k67
  · exact k280
  · exact k50
  · exact k51
  · exact k376
  · exact k265
  · exact k385
  · exact k70
  · exact k381
  · exact k267
  · exact k386
  · exact k56
  · exact k57
  · exact k58
  · exact k410
  · exact k430
  · exact k59
  · exact k60
  · exact k61
  · exact k69
  · exact k31
  · exact k64
  · exact k54
  · exact k65
  · exact k375
  · exact k429
  · exact k377
  · exact k384
  · exact k68
theorem follows : Try.prog.follows .mixedOrders = true := by kernel_rfl
theorem prog_ok : ∀ f F, pg.fn f = some F → ∃ fn, Try.prog.funcs[fm f]? = some fn ∧ okF Try.prog fm F fn = true := by
  intro f F h
  simp only [pg, Option.map_eq_some_iff] at h
  obtain ⟨x, h1, rfl⟩ := h
  have hm := List.mem_of_find?_eq_some h1
  have he := List.find?_some h1
  simp only [beq_iff_eq] at he
  have := all_ok x hm
  rw [he] at this
  rw [Option.any_eq_true] at this
  exact this
theorem pact {f : Nat} {args args' : List T} {r : T} (h : Go.Mch.Call pg f args args' r) : Pact Try.prog fm f args args' r :=
  sound follows (fun _ _ _ _ h => False.elim h) prog_ok h
end Go.Proofs.Ytmojfojdkolaiaa.Tie
