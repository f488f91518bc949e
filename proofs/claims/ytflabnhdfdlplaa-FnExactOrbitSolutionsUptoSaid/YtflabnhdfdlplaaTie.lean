/- The compact code of the functions is this seat's program's: what the machine calls good, the program does. -/
import Derived.Test.YtflabnhdfdlplaaRows
import Derived.KernelRfl
import Derived.Test.YtflabnhdfdlplaaM3
import Derived.Test.YtflabnhdfdlplaaYeA
import Derived.Test.YtflabnhdfdlplaaYeB
import Derived.Test.YtflabnhdfdlplaaYeC
import Derived.Test.YtflabnhdfdlplaaYeE
import Derived.Test.YtflabnhdfdlplaaYeF
namespace Go.Proofs.Ytflabnhdfdlplaa.Tie
open Go.Mch
def fmL : List Nat := [0, 0, 0, 0, 0, 0, 0, 34, 0, 45, 0, 0, 46, 47, 4, 0, 6, 0, 9, 0, 0, 25, 10, 26, 27, 0, 0, 13, 0, 0, 83, 74, 19, 0, 0, 80, 0, 0, 0, 61, 0, 29, 35, 0, 0, 28, 68, 71, 0, 0, 60, 57, 0, 0, 82, 0, 48, 49, 50, 39, 55, 56, 73, 75, 81, 76, 77, 69, 70, 33, 84, 0, 0, 0, 0, 0, 0, 0, 0, 0, 0, 0, 0, 0, 0, 0, 0, 0, 0, 0, 0, 0, 0, 0, 0, 0, 0, 0, 0, 0, 0, 0, 3, 0, 0, 0, 0, 0, 0, 0, 0, 0, 0, 0, 0, 0, 0, 0, 0, 0, 0, 0, 0, 0, 0, 0, 0, 0, 0, 0, 0, 0, 0, 0, 0, 0, 0, 0, 0, 0, 0, 0, 0, 0, 0, 0, 0, 0, 0, 0, 0, 0, 0, 0, 0, 0, 0, 0, 0, 0, 0, 0, 0, 0, 0, 0, 0, 0, 0, 0, 0, 0, 0, 0, 0, 0, 0, 0, 0, 0, 0, 0, 0, 0, 0, 0, 0, 0, 0, 0, 0, 0, 0, 0, 0, 0, 0, 0, 0, 0, 0, 0, 0, 0, 0, 0, 0, 0, 5, 7, 8, 11, 12, 0, 0, 0, 0, 0, 0, 0, 0, 0, 0, 0, 0, 0, 0, 0, 0, 0, 0, 0, 0, 0, 0, 0, 0, 0, 0, 23, 0, 0, 0, 0, 0, 0, 0, 0, 0, 0, 0, 0, 0, 0, 0, 0, 0, 0, 0, 0, 0, 0, 0, 0, 14, 52, 20, 58, 0, 0, 0, 38, 0, 32, 0, 0, 0, 0, 0, 0, 54, 0, 0, 0, 0, 36, 0, 44, 16, 0, 22, 0, 0, 0, 0, 0, 0, 0, 0, 15, 0, 21, 0, 0, 0, 0, 0, 0, 42, 0, 0, 0, 0, 0, 0, 0, 18, 0, 24, 0, 0, 0, 0, 0, 0, 0, 0, 0, 0, 0, 0, 0, 17, 41, 0, 0, 0, 0, 0, 0, 0, 0, 0, 0, 0, 0, 0, 0, 0, 0, 30, 0, 0, 0, 0, 0, 0, 40, 43, 0, 0, 0, 0, 0, 0, 0, 0, 0, 0, 0, 0, 0, 0, 0, 0, 72, 64, 78, 0, 0, 0, 59, 0, 0, 67, 0, 0, 31, 37, 0, 0, 65, 66, 0, 0, 0, 0, 0, 0, 0, 0, 0, 0, 62, 0, 63, 0, 0, 0, 0, 51, 0, 0, 0, 0, 0, 0, 0, 0, 0, 0, 0, 0, 0, 0, 0, 0, 0, 0, 79, 53]
def fm (k : Nat) : Nat := fmL.getD k 0
theorem k102 : (Try.prog.funcs[3]?).any (okF Try.prog fm c_laws_FnExactOrbitSolutions) = true := by kernel_rfl
theorem k14 : (Try.prog.funcs[4]?).any (okF Try.prog fm c_laws_szSolution) = true := by kernel_rfl
theorem k208 : (Try.prog.funcs[5]?).any (okF Try.prog fm c_spec_OrbitSolutions) = true := by kernel_rfl
theorem k16 : (Try.prog.funcs[6]?).any (okF Try.prog fm c_laws_toSolution) = true := by kernel_rfl
theorem k209 : (Try.prog.funcs[7]?).any (okF Try.prog fm c_impl_OrbitSolutions) = true := by kernel_rfl
theorem k210 : (Try.prog.funcs[8]?).any (okF Try.prog fm c_laws_eqSolutionS) = true := by kernel_rfl
theorem k18 : (Try.prog.funcs[9]?).any (okF Try.prog fm c_laws_eqSolution) = true := by kernel_rfl
theorem k22 : (Try.prog.funcs[10]?).any (okF Try.prog fm c_laws_markSolution) = true := by kernel_rfl
theorem k211 : (Try.prog.funcs[11]?).any (okF Try.prog fm c_laws_markSolutionS) = true := by kernel_rfl
theorem k212 : (Try.prog.funcs[12]?).any (okF Try.prog fm c_laws_heldSolutionS) = true := by kernel_rfl
theorem k27 : (Try.prog.funcs[13]?).any (okF Try.prog fm c_laws_szInt64SS) = true := by kernel_rfl
theorem k264 : (Try.prog.funcs[14]?).any (okF Try.prog fm c_spec_l07Is) = true := by kernel_rfl
theorem k299 : (Try.prog.funcs[15]?).any (okF Try.prog fm c_spec_l07Orbits) = true := by kernel_rfl
theorem k288 : (Try.prog.funcs[16]?).any (okF Try.prog fm c_spec_l01Greatest) = true := by kernel_rfl
theorem k332 : (Try.prog.funcs[17]?).any (okF Try.prog fm c_spec_l02Sub) = true := by kernel_rfl
theorem k316 : (Try.prog.funcs[18]?).any (okF Try.prog fm c_spec_l07Members) = true := by kernel_rfl
theorem k32 : (Try.prog.funcs[19]?).any (okF Try.prog fm c_laws_toInt64SS) = true := by kernel_rfl
theorem k266 : (Try.prog.funcs[20]?).any (okF Try.prog fm c_impl_isRegular) = true := by kernel_rfl
theorem k301 : (Try.prog.funcs[21]?).any (okF Try.prog fm c_impl_solutionOrbits) = true := by kernel_rfl
theorem k290 : (Try.prog.funcs[22]?).any (okF Try.prog fm c_slices_Max___int64_int64_) = true := by kernel_rfl
theorem k239 : (Try.prog.funcs[23]?).any (okF Try.prog fm c_impl_SubSolution) = true := by kernel_rfl
theorem k318 : (Try.prog.funcs[24]?).any (okF Try.prog fm c_impl_placesOf) = true := by kernel_rfl
theorem k21 : (Try.prog.funcs[25]?).any (okF Try.prog fm c_laws_eqInt64SS) = true := by kernel_rfl
theorem k23 : (Try.prog.funcs[26]?).any (okF Try.prog fm c_laws_markInt64SS) = true := by kernel_rfl
theorem k24 : (Try.prog.funcs[27]?).any (okF Try.prog fm c_laws_heldInt64SS) = true := by kernel_rfl
theorem k45 : (Try.prog.funcs[28]?).any (okF Try.prog fm c_laws_szInt64S) = true := by kernel_rfl
theorem k41 : (Try.prog.funcs[29]?).any (okF Try.prog fm c_spec_l02Is) = true := by kernel_rfl
theorem k350 : (Try.prog.funcs[30]?).any (okF Try.prog fm c_spec_l02Good) = true := by kernel_rfl
theorem k387 : (Try.prog.funcs[31]?).any (okF Try.prog fm c_spec_l01Orbits) = true := by kernel_rfl
theorem k273 : (Try.prog.funcs[32]?).any (okF Try.prog fm c_spec_l07Both) = true := by kernel_rfl
theorem k69 : (Try.prog.funcs[33]?).any (okF Try.prog fm c_spec_l01Index) = true := by kernel_rfl
theorem k7 : (Try.prog.funcs[34]?).any (okF Try.prog fm c_laws_toInt64S) = true := by kernel_rfl
theorem k42 : (Try.prog.funcs[35]?).any (okF Try.prog fm c_impl_IsSolution) = true := by kernel_rfl
theorem k285 : (Try.prog.funcs[36]?).any (okF Try.prog fm c_impl_isNondegenerate) = true := by kernel_rfl
theorem k388 : (Try.prog.funcs[37]?).any (okF Try.prog fm c_impl_orbitLabels) = true := by kernel_rfl
theorem k271 : (Try.prog.funcs[38]?).any (okF Try.prog fm c_impl_wholeSystem) = true := by kernel_rfl
theorem k59 : (Try.prog.funcs[39]?).any (okF Try.prog fm c_impl_IsPairMap) = true := by kernel_rfl
theorem k357 : (Try.prog.funcs[40]?).any (okF Try.prog fm c_impl_isSet) = true := by kernel_rfl
theorem k333 : (Try.prog.funcs[41]?).any (okF Try.prog fm c_impl_isClosed) = true := by kernel_rfl
theorem k308 : (Try.prog.funcs[42]?).any (okF Try.prog fm c_impl_solutionBy) = true := by kernel_rfl
theorem k358 : (Try.prog.funcs[43]?).any (okF Try.prog fm c_impl_SubSolution_1) = true := by kernel_rfl
theorem k287 : (Try.prog.funcs[44]?).any (okF Try.prog fm c_impl_indexIn) = true := by kernel_rfl
theorem k9 : (Try.prog.funcs[45]?).any (okF Try.prog fm c_laws_eqInt64S) = true := by kernel_rfl
theorem k12 : (Try.prog.funcs[46]?).any (okF Try.prog fm c_laws_markInt64S) = true := by kernel_rfl
theorem k13 : (Try.prog.funcs[47]?).any (okF Try.prog fm c_laws_heldInt64S) = true := by kernel_rfl
theorem k56 : (Try.prog.funcs[48]?).any (okF Try.prog fm c_spec_l02Map) = true := by kernel_rfl
theorem k57 : (Try.prog.funcs[49]?).any (okF Try.prog fm c_spec_l02Collision) = true := by kernel_rfl
theorem k58 : (Try.prog.funcs[50]?).any (okF Try.prog fm c_spec_l02Fault) = true := by kernel_rfl
theorem k410 : (Try.prog.funcs[51]?).any (okF Try.prog fm c_spec_l01Rows) = true := by kernel_rfl
theorem k265 : (Try.prog.funcs[52]?).any (okF Try.prog fm c_spec_l01Turn) = true := by kernel_rfl
theorem k430 : (Try.prog.funcs[53]?).any (okF Try.prog fm c_spec_l01Orbit) = true := by kernel_rfl
theorem k280 : (Try.prog.funcs[54]?).any (okF Try.prog fm c_spec_l01Own2) = true := by kernel_rfl
theorem k60 : (Try.prog.funcs[55]?).any (okF Try.prog fm c_impl_collisionOf) = true := by kernel_rfl
theorem k61 : (Try.prog.funcs[56]?).any (okF Try.prog fm c_impl_equationFault) = true := by kernel_rfl
theorem k51 : (Try.prog.funcs[57]?).any (okF Try.prog fm c_impl_permutationRows) = true := by kernel_rfl
theorem k267 : (Try.prog.funcs[58]?).any (okF Try.prog fm c_impl_transposed) = true := by kernel_rfl
theorem k381 : (Try.prog.funcs[59]?).any (okF Try.prog fm c_slices_Concat_____int64___int64_) = true := by kernel_rfl
theorem k50 : (Try.prog.funcs[60]?).any (okF Try.prog fm c_impl_IsTable) = true := by kernel_rfl
theorem k39 : (Try.prog.funcs[61]?).any (okF Try.prog fm c_impl_areElements) = true := by kernel_rfl
theorem k403 : (Try.prog.funcs[62]?).any (okF Try.prog fm c_impl_increasing) = true := by kernel_rfl
theorem k405 : (Try.prog.funcs[63]?).any (okF Try.prog fm c_slices_Contains___int64_int64_) = true := by kernel_rfl
theorem k376 : (Try.prog.funcs[64]?).any (okF Try.prog fm c_impl_tableBy) = true := by kernel_rfl
theorem k391 : (Try.prog.funcs[65]?).any (okF Try.prog fm c_impl_solutionBy_1) = true := by kernel_rfl
theorem k392 : (Try.prog.funcs[66]?).any (okF Try.prog fm c_impl_solutionBy_2) = true := by kernel_rfl
theorem k384 : (Try.prog.funcs[67]?).any (okF Try.prog fm c_slices_Index___int64_int64_) = true := by kernel_rfl
theorem k46 : (Try.prog.funcs[68]?).any (okF Try.prog fm c_spec_l01Table) = true := by kernel_rfl
theorem k67 : (Try.prog.funcs[69]?).any (okF Try.prog fm c_spec_l01Same) = true := by kernel_rfl
theorem k68 : (Try.prog.funcs[70]?).any (okF Try.prog fm c_spec_l02Do) = true := by kernel_rfl
theorem k47 : (Try.prog.funcs[71]?).any (okF Try.prog fm c_spec_l01Perm) = true := by kernel_rfl
theorem k375 : (Try.prog.funcs[72]?).any (okF Try.prog fm c_spec_l01Column) = true := by kernel_rfl
theorem k62 : (Try.prog.funcs[73]?).any (okF Try.prog fm c_spec_l01Has) = true := by kernel_rfl
theorem k31 : (Try.prog.funcs[74]?).any (okF Try.prog fm c_spec_l01Own) = true := by kernel_rfl
theorem k63 : (Try.prog.funcs[75]?).any (okF Try.prog fm c_slices_ContainsFunc_____int64___int64_) = true := by kernel_rfl
theorem k65 : (Try.prog.funcs[76]?).any (okF Try.prog fm c_impl_permutationRows_1) = true := by kernel_rfl
theorem k66 : (Try.prog.funcs[77]?).any (okF Try.prog fm c_impl_isPermuted) = true := by kernel_rfl
theorem k377 : (Try.prog.funcs[78]?).any (okF Try.prog fm c_impl_transposed_1) = true := by kernel_rfl
theorem k429 : (Try.prog.funcs[79]?).any (okF Try.prog fm c_slices_Grow_____int64___int64_) = true := by kernel_rfl
theorem k35 : (Try.prog.funcs[80]?).any (okF Try.prog fm c_impl_within) = true := by kernel_rfl
theorem k64 : (Try.prog.funcs[81]?).any (okF Try.prog fm c_impl_IsTable_1) = true := by kernel_rfl
theorem k54 : (Try.prog.funcs[82]?).any (okF Try.prog fm c_impl_allWithin) = true := by kernel_rfl
theorem k30 : (Try.prog.funcs[83]?).any (okF Try.prog fm c_spec_l01In) = true := by kernel_rfl
theorem k70 : (Try.prog.funcs[84]?).any (okF Try.prog fm c_slices_IndexFunc_____int64___int64_) = true := by kernel_rfl
def tab : List (Nat × F) := [(102, c_laws_FnExactOrbitSolutions), (14, c_laws_szSolution), (208, c_spec_OrbitSolutions), (16, c_laws_toSolution), (209, c_impl_OrbitSolutions), (210, c_laws_eqSolutionS), (18, c_laws_eqSolution), (22, c_laws_markSolution), (211, c_laws_markSolutionS), (212, c_laws_heldSolutionS), (27, c_laws_szInt64SS), (264, c_spec_l07Is), (299, c_spec_l07Orbits), (288, c_spec_l01Greatest), (332, c_spec_l02Sub), (316, c_spec_l07Members), (32, c_laws_toInt64SS), (266, c_impl_isRegular), (301, c_impl_solutionOrbits), (290, c_slices_Max___int64_int64_), (239, c_impl_SubSolution), (318, c_impl_placesOf), (21, c_laws_eqInt64SS), (23, c_laws_markInt64SS), (24, c_laws_heldInt64SS), (45, c_laws_szInt64S), (41, c_spec_l02Is), (350, c_spec_l02Good), (387, c_spec_l01Orbits), (273, c_spec_l07Both), (69, c_spec_l01Index), (7, c_laws_toInt64S), (42, c_impl_IsSolution), (285, c_impl_isNondegenerate), (388, c_impl_orbitLabels), (271, c_impl_wholeSystem), (59, c_impl_IsPairMap), (357, c_impl_isSet), (333, c_impl_isClosed), (308, c_impl_solutionBy), (358, c_impl_SubSolution_1), (287, c_impl_indexIn), (9, c_laws_eqInt64S), (12, c_laws_markInt64S), (13, c_laws_heldInt64S), (56, c_spec_l02Map), (57, c_spec_l02Collision), (58, c_spec_l02Fault), (410, c_spec_l01Rows), (265, c_spec_l01Turn), (430, c_spec_l01Orbit), (280, c_spec_l01Own2), (60, c_impl_collisionOf), (61, c_impl_equationFault), (51, c_impl_permutationRows), (267, c_impl_transposed), (381, c_slices_Concat_____int64___int64_), (50, c_impl_IsTable), (39, c_impl_areElements), (403, c_impl_increasing), (405, c_slices_Contains___int64_int64_), (376, c_impl_tableBy), (391, c_impl_solutionBy_1), (392, c_impl_solutionBy_2), (384, c_slices_Index___int64_int64_), (46, c_spec_l01Table), (67, c_spec_l01Same), (68, c_spec_l02Do), (47, c_spec_l01Perm), (375, c_spec_l01Column), (62, c_spec_l01Has), (31, c_spec_l01Own), (63, c_slices_ContainsFunc_____int64___int64_), (65, c_impl_permutationRows_1), (66, c_impl_isPermuted), (377, c_impl_transposed_1), (429, c_slices_Grow_____int64___int64_), (35, c_impl_within), (64, c_impl_IsTable_1), (54, c_impl_allWithin), (30, c_spec_l01In), (70, c_slices_IndexFunc_____int64___int64_)]
def pg : Pg := { fn := fun f => (tab.find? fun x => x.1 == f).map (·.2) }
theorem all_ok : ∀ x, x ∈ tab → (Try.prog.funcs[fm x.1]?).any (okF Try.prog fm x.2) = true := by
  intro x hx
  unfold tab at hx
  simp only [List.mem_cons, List.not_mem_nil, or_false] at hx
  rcases hx with rfl | rfl | rfl | rfl | rfl | rfl | rfl | rfl | rfl | rfl | rfl | rfl | rfl | rfl | rfl | rfl | rfl | rfl | rfl | rfl | rfl | rfl | rfl | rfl | rfl | rfl | rfl | rfl | rfl | rfl | rfl | rfl | rfl | rfl | rfl | rfl | rfl | rfl | rfl | rfl | rfl | rfl | rfl | rfl | rfl | rfl | rfl | rfl | rfl | rfl | rfl | rfl | rfl | rfl | rfl | rfl | rfl | rfl | rfl | rfl | rfl | rfl | rfl | rfl | rfl | rfl | rfl | rfl | rfl | rfl | rfl | rfl | rfl | rfl | rfl | rfl | rfl | rfl | rfl | rfl | rfl | rfl
  · exact k102
  · exact k14
  · exact k208
  · exact k16
  · exact k209
  · exact k210
  · exact k18
  · exact k22
  · exact k211
  · exact k212
  · exact k27
  · exact k264
  · exact k299
  · exact k288
  · exact k332
  · exact k316
  · exact k32
  · exact k266
  · exact k301
  · exact k290
  · exact k239
  · exact k318
  · exact k21
  · exact k23
  · exact k24
  · exact k45
  · exact k41
  · exact k350
  · exact k387
  · exact k273
  · exact k69
  · exact k7
  · exact k42
  · exact k285
  · exact k388
  · exact k271
  · exact k59
  · exact k357
  · exact k333
  · exact k308
  · exact k358
  · exact k287
  · exact k9
  · exact k12
  · exact k13
  · exact k56
  · exact k57
  · exact k58
  · exact k410
  · exact k265
  · exact k430
  · exact k280
  · exact k60
  · exact k61
  · exact k51
  · exact k267
  · exact k381
  · exact k50
  · exact k39
  · exact k403
  · exact k405
  · exact k376
  · exact k391
  · exact k392
  · exact k384
  · exact k46
  · exact k67
  · exact k68
  · exact k47
  · exact k375
  · exact k62
  · exact k31
  · exact k63
  · exact k65
  · exact k66
  · exact k377
  · exact k429
  · exact k35
  · exact k64
  · exact k54
  · exact k30
  · exact k70
theorem follows : Try.prog.follows .mixedOrders = true := by kernel_rfl
theorem prog_ok : ∀ f F, pg.fn f = some F → ∃ fn, Try.prog.funcs[fm f]? = some fn ∧ okF Try.prog fm F fn = true := by
  intro f F h
  simp only [pg, Option.map_eq_some_iff] at h
  obtain ⟨x, h1, rfl⟩ := h
  have hm := List.mem_of_find?_eq_some h1
  have he := List.find?_some h1
  simp only [beq_iff_eq] at he
  have := all_ok x hm
  rw [he] at this
  rw [Option.any_eq_true] at this
  exact this
theorem pact {f : Nat} {args args' : List T} {r : T} (h : Go.Mch.Call pg f args args' r) : Pact Try.prog fm f args args' r :=
  sound follows (fun _ _ _ _ h => False.elim h) prog_ok h
end Go.Proofs.Ytflabnhdfdlplaa.Tie
