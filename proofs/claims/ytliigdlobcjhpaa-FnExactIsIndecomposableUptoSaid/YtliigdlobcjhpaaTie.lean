/- The compact code of the functions is this seat's program's: what the machine calls good, the program does. -/
import Derived.Test.YtliigdlobcjhpaaRows
import Derived.KernelRfl
import Derived.Test.YtliigdlobcjhpaaM3
import Derived.Test.YtliigdlobcjhpaaYeA
import Derived.Test.YtliigdlobcjhpaaYeB
import Derived.Test.YtliigdlobcjhpaaYeC
import Derived.Test.YtliigdlobcjhpaaYeE
import Derived.Test.YtliigdlobcjhpaaP1
namespace Go.Proofs.Ytliigdlobcjhpaa.Tie
open Go.Mch
def fmL : List Nat := [0, 0, 0, 0, 0, 0, 0, 31, 0, 33, 0, 0, 0, 0, 15, 0, 17, 0, 19, 0, 0, 22, 0, 0, 0, 0, 0, 53, 0, 0, 55, 96, 59, 0, 0, 61, 0, 0, 0, 0, 0, 54, 60, 0, 0, 92, 118, 106, 0, 0, 120, 107, 0, 0, 135, 0, 93, 94, 95, 97, 98, 99, 124, 125, 134, 126, 127, 69, 119, 82, 136, 0, 0, 0, 0, 0, 0, 0, 0, 0, 0, 0, 12, 0, 0, 0, 0, 0, 0, 0, 0, 0, 0, 0, 0, 0, 0, 0, 0, 0, 0, 0, 0, 0, 0, 0, 0, 0, 0, 0, 0, 0, 0, 0, 0, 0, 0, 0, 0, 0, 0, 0, 0, 0, 0, 0, 0, 0, 0, 0, 0, 0, 0, 0, 0, 0, 0, 0, 0, 0, 0, 0, 0, 0, 0, 0, 0, 0, 0, 0, 0, 0, 0, 0, 0, 0, 0, 0, 0, 0, 0, 0, 0, 0, 47, 48, 0, 0, 0, 0, 0, 0, 0, 0, 0, 0, 0, 0, 0, 0, 0, 0, 0, 0, 0, 0, 0, 0, 0, 0, 0, 0, 0, 0, 0, 0, 0, 0, 0, 0, 0, 0, 0, 0, 0, 0, 0, 0, 0, 0, 0, 0, 0, 0, 0, 0, 0, 0, 0, 0, 0, 0, 0, 0, 0, 0, 0, 0, 0, 0, 0, 0, 0, 0, 0, 0, 0, 0, 0, 0, 0, 0, 0, 0, 0, 0, 0, 0, 0, 0, 0, 0, 0, 0, 0, 0, 0, 0, 0, 0, 0, 0, 0, 0, 65, 66, 67, 68, 0, 0, 0, 130, 0, 114, 0, 0, 0, 0, 0, 0, 73, 0, 0, 0, 0, 80, 0, 0, 84, 0, 86, 0, 0, 0, 0, 0, 0, 0, 0, 88, 89, 115, 0, 0, 0, 0, 0, 0, 0, 0, 0, 0, 0, 0, 0, 0, 0, 0, 0, 0, 0, 0, 0, 0, 0, 0, 0, 0, 0, 0, 0, 0, 0, 0, 0, 0, 0, 0, 0, 0, 0, 0, 0, 0, 0, 0, 0, 0, 0, 0, 100, 0, 0, 0, 0, 0, 0, 0, 0, 0, 0, 0, 0, 0, 0, 0, 0, 0, 0, 0, 0, 0, 0, 0, 0, 101, 102, 103, 0, 0, 0, 137, 0, 0, 0, 0, 0, 113, 129, 0, 0, 0, 0, 0, 0, 0, 0, 0, 0, 0, 0, 0, 0, 0, 0, 0, 0, 0, 0, 0, 121, 0, 0, 0, 0, 0, 0, 0, 0, 0, 0, 0, 0, 0, 0, 0, 0, 0, 0, 139, 128]
def fm (k : Nat) : Nat := fmL.getD k 0
theorem k82 : (Try.prog.funcs[12]?).any (okF Try.prog fm (lw_B 164 165)) = true := by kernel_rfl
theorem k14 : (Try.prog.funcs[15]?).any (okF Try.prog fm c_laws_szSolution) = true := by kernel_rfl
theorem k16 : (Try.prog.funcs[17]?).any (okF Try.prog fm c_laws_toSolution) = true := by kernel_rfl
theorem k18 : (Try.prog.funcs[19]?).any (okF Try.prog fm c_laws_eqSolution) = true := by kernel_rfl
theorem k21 : (Try.prog.funcs[22]?).any (okF Try.prog fm c_laws_eqInt64SS) = true := by kernel_rfl
theorem k7 : (Try.prog.funcs[31]?).any (okF Try.prog fm c_laws_toInt64S) = true := by kernel_rfl
theorem k9 : (Try.prog.funcs[33]?).any (okF Try.prog fm c_laws_eqInt64S) = true := by kernel_rfl
theorem k164 : (Try.prog.funcs[47]?).any (okF Try.prog fm c_spec_IsIndecomposable) = true := by kernel_rfl
theorem k165 : (Try.prog.funcs[48]?).any (okF Try.prog fm c_impl_IsIndecomposable) = true := by kernel_rfl
theorem k27 : (Try.prog.funcs[53]?).any (okF Try.prog fm c_laws_szInt64SS) = true := by kernel_rfl
theorem k41 : (Try.prog.funcs[54]?).any (okF Try.prog fm c_spec_l02Is) = true := by kernel_rfl
theorem k30 : (Try.prog.funcs[55]?).any (okF Try.prog fm c_spec_l01In) = true := by kernel_rfl
theorem k32 : (Try.prog.funcs[59]?).any (okF Try.prog fm c_laws_toInt64SS) = true := by kernel_rfl
theorem k42 : (Try.prog.funcs[60]?).any (okF Try.prog fm c_impl_IsSolution) = true := by kernel_rfl
theorem k35 : (Try.prog.funcs[61]?).any (okF Try.prog fm c_impl_within) = true := by kernel_rfl
theorem k264 : (Try.prog.funcs[65]?).any (okF Try.prog fm c_spec_l07Is) = true := by kernel_rfl
theorem k265 : (Try.prog.funcs[66]?).any (okF Try.prog fm c_spec_l01Turn) = true := by kernel_rfl
theorem k266 : (Try.prog.funcs[67]?).any (okF Try.prog fm c_impl_isRegular) = true := by kernel_rfl
theorem k267 : (Try.prog.funcs[68]?).any (okF Try.prog fm c_impl_transposed) = true := by kernel_rfl
theorem k67 : (Try.prog.funcs[69]?).any (okF Try.prog fm c_spec_l01Same) = true := by kernel_rfl
theorem k280 : (Try.prog.funcs[73]?).any (okF Try.prog fm c_spec_l01Own2) = true := by kernel_rfl
theorem k285 : (Try.prog.funcs[80]?).any (okF Try.prog fm c_impl_isNondegenerate) = true := by kernel_rfl
theorem k69 : (Try.prog.funcs[82]?).any (okF Try.prog fm c_spec_l01Index) = true := by kernel_rfl
theorem k288 : (Try.prog.funcs[84]?).any (okF Try.prog fm c_spec_l01Greatest) = true := by kernel_rfl
theorem k290 : (Try.prog.funcs[86]?).any (okF Try.prog fm c_slices_Max___int64_int64_) = true := by kernel_rfl
theorem k299 : (Try.prog.funcs[88]?).any (okF Try.prog fm c_spec_l07Orbits) = true := by kernel_rfl
theorem k300 : (Try.prog.funcs[89]?).any (okF Try.prog fm c_impl_isIndecomposable) = true := by kernel_rfl
theorem k45 : (Try.prog.funcs[92]?).any (okF Try.prog fm c_laws_szInt64S) = true := by kernel_rfl
theorem k56 : (Try.prog.funcs[93]?).any (okF Try.prog fm c_spec_l02Map) = true := by kernel_rfl
theorem k57 : (Try.prog.funcs[94]?).any (okF Try.prog fm c_spec_l02Collision) = true := by kernel_rfl
theorem k58 : (Try.prog.funcs[95]?).any (okF Try.prog fm c_spec_l02Fault) = true := by kernel_rfl
theorem k31 : (Try.prog.funcs[96]?).any (okF Try.prog fm c_spec_l01Own) = true := by kernel_rfl
theorem k59 : (Try.prog.funcs[97]?).any (okF Try.prog fm c_impl_IsPairMap) = true := by kernel_rfl
theorem k60 : (Try.prog.funcs[98]?).any (okF Try.prog fm c_impl_collisionOf) = true := by kernel_rfl
theorem k61 : (Try.prog.funcs[99]?).any (okF Try.prog fm c_impl_equationFault) = true := by kernel_rfl
theorem k350 : (Try.prog.funcs[100]?).any (okF Try.prog fm c_spec_l02Good) = true := by kernel_rfl
theorem k375 : (Try.prog.funcs[101]?).any (okF Try.prog fm c_spec_l01Column) = true := by kernel_rfl
theorem k376 : (Try.prog.funcs[102]?).any (okF Try.prog fm c_impl_tableBy) = true := by kernel_rfl
theorem k377 : (Try.prog.funcs[103]?).any (okF Try.prog fm c_impl_transposed_1) = true := by kernel_rfl
theorem k47 : (Try.prog.funcs[106]?).any (okF Try.prog fm c_spec_l01Perm) = true := by kernel_rfl
theorem k51 : (Try.prog.funcs[107]?).any (okF Try.prog fm c_impl_permutationRows) = true := by kernel_rfl
theorem k387 : (Try.prog.funcs[113]?).any (okF Try.prog fm c_spec_l01Orbits) = true := by kernel_rfl
theorem k273 : (Try.prog.funcs[114]?).any (okF Try.prog fm c_spec_l07Both) = true := by kernel_rfl
theorem k301 : (Try.prog.funcs[115]?).any (okF Try.prog fm c_impl_solutionOrbits) = true := by kernel_rfl
theorem k46 : (Try.prog.funcs[118]?).any (okF Try.prog fm c_spec_l01Table) = true := by kernel_rfl
theorem k68 : (Try.prog.funcs[119]?).any (okF Try.prog fm c_spec_l02Do) = true := by kernel_rfl
theorem k50 : (Try.prog.funcs[120]?).any (okF Try.prog fm c_impl_IsTable) = true := by kernel_rfl
theorem k410 : (Try.prog.funcs[121]?).any (okF Try.prog fm c_spec_l01Rows) = true := by kernel_rfl
theorem k62 : (Try.prog.funcs[124]?).any (okF Try.prog fm c_spec_l01Has) = true := by kernel_rfl
theorem k63 : (Try.prog.funcs[125]?).any (okF Try.prog fm c_slices_ContainsFunc_____int64___int64_) = true := by kernel_rfl
theorem k65 : (Try.prog.funcs[126]?).any (okF Try.prog fm c_impl_permutationRows_1) = true := by kernel_rfl
theorem k66 : (Try.prog.funcs[127]?).any (okF Try.prog fm c_impl_isPermuted) = true := by kernel_rfl
theorem k430 : (Try.prog.funcs[128]?).any (okF Try.prog fm c_spec_l01Orbit) = true := by kernel_rfl
theorem k388 : (Try.prog.funcs[129]?).any (okF Try.prog fm c_impl_orbitLabels) = true := by kernel_rfl
theorem k271 : (Try.prog.funcs[130]?).any (okF Try.prog fm c_impl_wholeSystem) = true := by kernel_rfl
theorem k64 : (Try.prog.funcs[134]?).any (okF Try.prog fm c_impl_IsTable_1) = true := by kernel_rfl
theorem k54 : (Try.prog.funcs[135]?).any (okF Try.prog fm c_impl_allWithin) = true := by kernel_rfl
theorem k70 : (Try.prog.funcs[136]?).any (okF Try.prog fm c_slices_IndexFunc_____int64___int64_) = true := by kernel_rfl
theorem k381 : (Try.prog.funcs[137]?).any (okF Try.prog fm c_slices_Concat_____int64___int64_) = true := by kernel_rfl
theorem k429 : (Try.prog.funcs[139]?).any (okF Try.prog fm c_slices_Grow_____int64___int64_) = true := by kernel_rfl
def tab : List (Nat × F) := [(82, (lw_B 164 165)), (14, c_laws_szSolution), (16, c_laws_toSolution), (18, c_laws_eqSolution), (21, c_laws_eqInt64SS), (7, c_laws_toInt64S), (9, c_laws_eqInt64S), (164, c_spec_IsIndecomposable), (165, c_impl_IsIndecomposable), (27, c_laws_szInt64SS), (41, c_spec_l02Is), (30, c_spec_l01In), (32, c_laws_toInt64SS), (42, c_impl_IsSolution), (35, c_impl_within), (264, c_spec_l07Is), (265, c_spec_l01Turn), (266, c_impl_isRegular), (267, c_impl_transposed), (67, c_spec_l01Same), (280, c_spec_l01Own2), (285, c_impl_isNondegenerate), (69, c_spec_l01Index), (288, c_spec_l01Greatest), (290, c_slices_Max___int64_int64_), (299, c_spec_l07Orbits), (300, c_impl_isIndecomposable), (45, c_laws_szInt64S), (56, c_spec_l02Map), (57, c_spec_l02Collision), (58, c_spec_l02Fault), (31, c_spec_l01Own), (59, c_impl_IsPairMap), (60, c_impl_collisionOf), (61, c_impl_equationFault), (350, c_spec_l02Good), (375, c_spec_l01Column), (376, c_impl_tableBy), (377, c_impl_transposed_1), (47, c_spec_l01Perm), (51, c_impl_permutationRows), (387, c_spec_l01Orbits), (273, c_spec_l07Both), (301, c_impl_solutionOrbits), (46, c_spec_l01Table), (68, c_spec_l02Do), (50, c_impl_IsTable), (410, c_spec_l01Rows), (62, c_spec_l01Has), (63, c_slices_ContainsFunc_____int64___int64_), (65, c_impl_permutationRows_1), (66, c_impl_isPermuted), (430, c_spec_l01Orbit), (388, c_impl_orbitLabels), (271, c_impl_wholeSystem), (64, c_impl_IsTable_1), (54, c_impl_allWithin), (70, c_slices_IndexFunc_____int64___int64_), (381, c_slices_Concat_____int64___int64_), (429, c_slices_Grow_____int64___int64_)]
def pg : Pg := { fn := fun f => (tab.find? fun x => x.1 == f).map (·.2) }
theorem all_ok : ∀ x, x ∈ tab → (Try.prog.funcs[fm x.1]?).any (okF Try.prog fm x.2) = true := by
  intro x hx
  unfold tab at hx
  simp only [List.mem_cons, List.not_mem_nil, or_false] at hx
  rcases hx with rfl | rfl | rfl | rfl | rfl | rfl | rfl | rfl | rfl | rfl | rfl | rfl | rfl | rfl | rfl | rfl | rfl | rfl | rfl | rfl | rfl | rfl | rfl | rfl | rfl | rfl | rfl | rfl | rfl | rfl | rfl | rfl | rfl | rfl | rfl | rfl | rfl | rfl | rfl | rfl | rfl | rfl | rfl | rfl | rfl | rfl | rfl | rfl | rfl | rfl | rfl | rfl | rfl | rfl | rfl | rfl | rfl | rfl | rfl | rfl
  · exact k82
  · exact k14
  · exact k16
  · exact k18
  · exact k21
  · exact k7
  · exact k9
  · exact k164
  · exact k165
  · exact k27
  · exact k41
  · exact k30
  · exact k32
  · exact k42
  · exact k35
  · exact k264
  · exact k265
  · exact k266
  · exact k267
  · exact k67
  · exact k280
  · exact k285
  · exact k69
  · exact k288
  · exact k290
  · exact k299
  · exact k300
  · exact k45
  · exact k56
  · exact k57
  · exact k58
  · exact k31
  · exact k59
  · exact k60
  · exact k61
  · exact k350
  · exact k375
  · exact k376
  · exact k377
  · exact k47
  · exact k51
  · exact k387
  · exact k273
  · exact k301
  · exact k46
  · exact k68
  · exact k50
  · exact k410
  · exact k62
  · exact k63
  · exact k65
  · exact k66
  · exact k430
  · exact k388
  · exact k271
  · exact k64
  · exact k54
  · exact k70
  · exact k381
  · exact k429
theorem follows : Try.prog.follows .mixedOrders = true := by kernel_rfl
theorem prog_ok : ∀ f F, pg.fn f = some F → ∃ fn, Try.prog.funcs[fm f]? = some fn ∧ okF Try.prog fm F fn = true := by
  intro f F h
  simp only [pg, Option.map_eq_some_iff] at h
  obtain ⟨x, h1, rfl⟩ := h
  have hm := List.mem_of_find?_eq_some h1
  have he := List.find?_some h1
  simp only [beq_iff_eq] at he
  have := all_ok x hm
  rw [he] at this
  rw [Option.any_eq_true] at this
  exact this
theorem pact {f : Nat} {args args' : List T} {r : T} (h : Go.Mch.Call pg f args args' r) : Pact Try.prog fm f args args' r :=
  sound follows (fun _ _ _ _ h => False.elim h) prog_ok h
end Go.Proofs.Ytliigdlobcjhpaa.Tie
