/- The compact code of the functions is this seat's program's: what the machine calls good, the program does. -/
import Derived.Test.YtbjgmanbanhhiaaRows
import Derived.KernelRfl
import Derived.Test.YtbjgmanbanhhiaaM3
import Derived.Test.YtbjgmanbanhhiaaYeA
import Derived.Test.YtbjgmanbanhhiaaYeB
import Derived.Test.YtbjgmanbanhhiaaYeC
import Derived.Test.YtbjgmanbanhhiaaYeE
import Derived.Test.YtbjgmanbanhhiaaP1
namespace Go.Proofs.Ytbjgmanbanhhiaa.Tie
open Go.Mch
def fmL : List Nat := [0, 0, 0, 0, 0, 0, 0, 32, 0, 28, 0, 0, 29, 30, 15, 0, 17, 0, 19, 0, 0, 34, 24, 35, 0, 0, 0, 54, 0, 0, 70, 133, 57, 0, 0, 152, 0, 0, 0, 74, 0, 77, 81, 0, 0, 104, 165, 181, 0, 0, 159, 157, 0, 0, 127, 0, 129, 130, 131, 119, 136, 137, 113, 150, 184, 182, 183, 111, 143, 114, 146, 0, 0, 0, 0, 0, 0, 0, 0, 0, 0, 0, 0, 0, 0, 0, 0, 0, 0, 0, 0, 0, 0, 0, 0, 0, 0, 0, 0, 0, 6, 0, 0, 0, 0, 0, 0, 0, 0, 0, 0, 0, 0, 0, 0, 0, 0, 0, 0, 0, 0, 0, 0, 0, 0, 0, 0, 0, 0, 0, 0, 0, 0, 0, 0, 0, 0, 0, 0, 0, 0, 0, 0, 0, 0, 0, 0, 0, 0, 0, 0, 0, 0, 0, 0, 0, 0, 0, 0, 0, 0, 0, 0, 0, 0, 0, 0, 0, 0, 0, 0, 0, 0, 0, 0, 0, 0, 0, 0, 0, 0, 0, 0, 0, 0, 0, 0, 0, 0, 0, 0, 0, 0, 0, 0, 0, 0, 0, 0, 0, 0, 0, 0, 0, 0, 26, 27, 0, 0, 0, 0, 0, 0, 0, 0, 0, 0, 0, 0, 0, 0, 0, 0, 0, 0, 0, 0, 0, 0, 0, 0, 0, 0, 0, 0, 0, 0, 0, 0, 0, 0, 0, 0, 0, 0, 0, 0, 0, 0, 0, 0, 0, 0, 0, 0, 0, 0, 0, 0, 0, 0, 0, 0, 0, 55, 60, 58, 61, 0, 0, 0, 128, 0, 125, 0, 0, 0, 0, 0, 0, 80, 0, 0, 0, 0, 106, 0, 0, 71, 0, 103, 0, 0, 0, 0, 0, 0, 0, 0, 72, 75, 102, 0, 0, 0, 0, 0, 0, 0, 0, 0, 0, 0, 0, 0, 0, 0, 0, 0, 0, 0, 0, 0, 0, 0, 0, 0, 0, 0, 73, 76, 0, 0, 0, 126, 115, 0, 0, 0, 0, 0, 0, 0, 0, 0, 0, 0, 0, 0, 0, 105, 0, 0, 0, 0, 0, 0, 0, 0, 0, 0, 0, 0, 0, 0, 0, 0, 0, 0, 0, 0, 0, 0, 0, 0, 108, 109, 110, 0, 0, 0, 164, 0, 0, 158, 112, 117, 124, 155, 0, 0, 0, 0, 0, 0, 0, 0, 0, 0, 0, 0, 0, 0, 0, 0, 0, 0, 0, 0, 0, 156, 0, 0, 0, 0, 0, 0, 0, 0, 0, 0, 0, 0, 0, 0, 0, 0, 0, 0, 185, 163]
def fm (k : Nat) : Nat := fmL.getD k 0
theorem k100 : (Try.prog.funcs[6]?).any (okF Try.prog fm (lw_ppI 205 206)) = true := by kernel_rfl
theorem k14 : (Try.prog.funcs[15]?).any (okF Try.prog fm c_laws_szSolution) = true := by kernel_rfl
theorem k16 : (Try.prog.funcs[17]?).any (okF Try.prog fm c_laws_toSolution) = true := by kernel_rfl
theorem k18 : (Try.prog.funcs[19]?).any (okF Try.prog fm c_laws_eqSolution) = true := by kernel_rfl
theorem k22 : (Try.prog.funcs[24]?).any (okF Try.prog fm c_laws_markSolution) = true := by kernel_rfl
theorem k205 : (Try.prog.funcs[26]?).any (okF Try.prog fm c_spec_BlockSystemOf) = true := by kernel_rfl
theorem k206 : (Try.prog.funcs[27]?).any (okF Try.prog fm c_impl_BlockSystemOf) = true := by kernel_rfl
theorem k9 : (Try.prog.funcs[28]?).any (okF Try.prog fm c_laws_eqInt64S) = true := by kernel_rfl
theorem k12 : (Try.prog.funcs[29]?).any (okF Try.prog fm c_laws_markInt64S) = true := by kernel_rfl
theorem k13 : (Try.prog.funcs[30]?).any (okF Try.prog fm c_laws_heldInt64S) = true := by kernel_rfl
theorem k7 : (Try.prog.funcs[32]?).any (okF Try.prog fm c_laws_toInt64S) = true := by kernel_rfl
theorem k21 : (Try.prog.funcs[34]?).any (okF Try.prog fm c_laws_eqInt64SS) = true := by kernel_rfl
theorem k23 : (Try.prog.funcs[35]?).any (okF Try.prog fm c_laws_markInt64SS) = true := by kernel_rfl
theorem k27 : (Try.prog.funcs[54]?).any (okF Try.prog fm c_laws_szInt64SS) = true := by kernel_rfl
theorem k264 : (Try.prog.funcs[55]?).any (okF Try.prog fm c_spec_l07Is) = true := by kernel_rfl
theorem k32 : (Try.prog.funcs[57]?).any (okF Try.prog fm c_laws_toInt64SS) = true := by kernel_rfl
theorem k266 : (Try.prog.funcs[58]?).any (okF Try.prog fm c_impl_isRegular) = true := by kernel_rfl
theorem k265 : (Try.prog.funcs[60]?).any (okF Try.prog fm c_spec_l01Turn) = true := by kernel_rfl
theorem k267 : (Try.prog.funcs[61]?).any (okF Try.prog fm c_impl_transposed) = true := by kernel_rfl
theorem k30 : (Try.prog.funcs[70]?).any (okF Try.prog fm c_spec_l01In) = true := by kernel_rfl
theorem k288 : (Try.prog.funcs[71]?).any (okF Try.prog fm c_spec_l01Greatest) = true := by kernel_rfl
theorem k299 : (Try.prog.funcs[72]?).any (okF Try.prog fm c_spec_l07Orbits) = true := by kernel_rfl
theorem k329 : (Try.prog.funcs[73]?).any (okF Try.prog fm c_spec_l07Blocks) = true := by kernel_rfl
theorem k39 : (Try.prog.funcs[74]?).any (okF Try.prog fm c_impl_areElements) = true := by kernel_rfl
theorem k300 : (Try.prog.funcs[75]?).any (okF Try.prog fm c_impl_isIndecomposable) = true := by kernel_rfl
theorem k330 : (Try.prog.funcs[76]?).any (okF Try.prog fm c_impl_blockSystem) = true := by kernel_rfl
theorem k41 : (Try.prog.funcs[77]?).any (okF Try.prog fm c_spec_l02Is) = true := by kernel_rfl
theorem k280 : (Try.prog.funcs[80]?).any (okF Try.prog fm c_spec_l01Own2) = true := by kernel_rfl
theorem k42 : (Try.prog.funcs[81]?).any (okF Try.prog fm c_impl_IsSolution) = true := by kernel_rfl
theorem k301 : (Try.prog.funcs[102]?).any (okF Try.prog fm c_impl_solutionOrbits) = true := by kernel_rfl
theorem k290 : (Try.prog.funcs[103]?).any (okF Try.prog fm c_slices_Max___int64_int64_) = true := by kernel_rfl
theorem k45 : (Try.prog.funcs[104]?).any (okF Try.prog fm c_laws_szInt64S) = true := by kernel_rfl
theorem k350 : (Try.prog.funcs[105]?).any (okF Try.prog fm c_spec_l02Good) = true := by kernel_rfl
theorem k285 : (Try.prog.funcs[106]?).any (okF Try.prog fm c_impl_isNondegenerate) = true := by kernel_rfl
theorem k375 : (Try.prog.funcs[108]?).any (okF Try.prog fm c_spec_l01Column) = true := by kernel_rfl
theorem k376 : (Try.prog.funcs[109]?).any (okF Try.prog fm c_impl_tableBy) = true := by kernel_rfl
theorem k377 : (Try.prog.funcs[110]?).any (okF Try.prog fm c_impl_transposed_1) = true := by kernel_rfl
theorem k67 : (Try.prog.funcs[111]?).any (okF Try.prog fm c_spec_l01Same) = true := by kernel_rfl
theorem k385 : (Try.prog.funcs[112]?).any (okF Try.prog fm c_spec_l07Renumber) = true := by kernel_rfl
theorem k62 : (Try.prog.funcs[113]?).any (okF Try.prog fm c_spec_l01Has) = true := by kernel_rfl
theorem k69 : (Try.prog.funcs[114]?).any (okF Try.prog fm c_spec_l01Index) = true := by kernel_rfl
theorem k335 : (Try.prog.funcs[115]?).any (okF Try.prog fm c_impl_identity) = true := by kernel_rfl
theorem k386 : (Try.prog.funcs[117]?).any (okF Try.prog fm c_impl_numbered) = true := by kernel_rfl
theorem k59 : (Try.prog.funcs[119]?).any (okF Try.prog fm c_impl_IsPairMap) = true := by kernel_rfl
theorem k387 : (Try.prog.funcs[124]?).any (okF Try.prog fm c_spec_l01Orbits) = true := by kernel_rfl
theorem k273 : (Try.prog.funcs[125]?).any (okF Try.prog fm c_spec_l07Both) = true := by kernel_rfl
theorem k334 : (Try.prog.funcs[126]?).any (okF Try.prog fm c_spec_l01Unit) = true := by kernel_rfl
theorem k54 : (Try.prog.funcs[127]?).any (okF Try.prog fm c_impl_allWithin) = true := by kernel_rfl
theorem k271 : (Try.prog.funcs[128]?).any (okF Try.prog fm c_impl_wholeSystem) = true := by kernel_rfl
theorem k56 : (Try.prog.funcs[129]?).any (okF Try.prog fm c_spec_l02Map) = true := by kernel_rfl
theorem k57 : (Try.prog.funcs[130]?).any (okF Try.prog fm c_spec_l02Collision) = true := by kernel_rfl
theorem k58 : (Try.prog.funcs[131]?).any (okF Try.prog fm c_spec_l02Fault) = true := by kernel_rfl
theorem k31 : (Try.prog.funcs[133]?).any (okF Try.prog fm c_spec_l01Own) = true := by kernel_rfl
theorem k60 : (Try.prog.funcs[136]?).any (okF Try.prog fm c_impl_collisionOf) = true := by kernel_rfl
theorem k61 : (Try.prog.funcs[137]?).any (okF Try.prog fm c_impl_equationFault) = true := by kernel_rfl
theorem k68 : (Try.prog.funcs[143]?).any (okF Try.prog fm c_spec_l02Do) = true := by kernel_rfl
theorem k70 : (Try.prog.funcs[146]?).any (okF Try.prog fm c_slices_IndexFunc_____int64___int64_) = true := by kernel_rfl
theorem k63 : (Try.prog.funcs[150]?).any (okF Try.prog fm c_slices_ContainsFunc_____int64___int64_) = true := by kernel_rfl
theorem k35 : (Try.prog.funcs[152]?).any (okF Try.prog fm c_impl_within) = true := by kernel_rfl
theorem k388 : (Try.prog.funcs[155]?).any (okF Try.prog fm c_impl_orbitLabels) = true := by kernel_rfl
theorem k410 : (Try.prog.funcs[156]?).any (okF Try.prog fm c_spec_l01Rows) = true := by kernel_rfl
theorem k51 : (Try.prog.funcs[157]?).any (okF Try.prog fm c_impl_permutationRows) = true := by kernel_rfl
theorem k384 : (Try.prog.funcs[158]?).any (okF Try.prog fm c_slices_Index___int64_int64_) = true := by kernel_rfl
theorem k50 : (Try.prog.funcs[159]?).any (okF Try.prog fm c_impl_IsTable) = true := by kernel_rfl
theorem k430 : (Try.prog.funcs[163]?).any (okF Try.prog fm c_spec_l01Orbit) = true := by kernel_rfl
theorem k381 : (Try.prog.funcs[164]?).any (okF Try.prog fm c_slices_Concat_____int64___int64_) = true := by kernel_rfl
theorem k46 : (Try.prog.funcs[165]?).any (okF Try.prog fm c_spec_l01Table) = true := by kernel_rfl
theorem k47 : (Try.prog.funcs[181]?).any (okF Try.prog fm c_spec_l01Perm) = true := by kernel_rfl
theorem k65 : (Try.prog.funcs[182]?).any (okF Try.prog fm c_impl_permutationRows_1) = true := by kernel_rfl
theorem k66 : (Try.prog.funcs[183]?).any (okF Try.prog fm c_impl_isPermuted) = true := by kernel_rfl
theorem k64 : (Try.prog.funcs[184]?).any (okF Try.prog fm c_impl_IsTable_1) = true := by kernel_rfl
theorem k429 : (Try.prog.funcs[185]?).any (okF Try.prog fm c_slices_Grow_____int64___int64_) = true := by kernel_rfl
def tab : List (Nat × F) := [(100, (lw_ppI 205 206)), (14, c_laws_szSolution), (16, c_laws_toSolution), (18, c_laws_eqSolution), (22, c_laws_markSolution), (205, c_spec_BlockSystemOf), (206, c_impl_BlockSystemOf), (9, c_laws_eqInt64S), (12, c_laws_markInt64S), (13, c_laws_heldInt64S), (7, c_laws_toInt64S), (21, c_laws_eqInt64SS), (23, c_laws_markInt64SS), (27, c_laws_szInt64SS), (264, c_spec_l07Is), (32, c_laws_toInt64SS), (266, c_impl_isRegular), (265, c_spec_l01Turn), (267, c_impl_transposed), (30, c_spec_l01In), (288, c_spec_l01Greatest), (299, c_spec_l07Orbits), (329, c_spec_l07Blocks), (39, c_impl_areElements), (300, c_impl_isIndecomposable), (330, c_impl_blockSystem), (41, c_spec_l02Is), (280, c_spec_l01Own2), (42, c_impl_IsSolution), (301, c_impl_solutionOrbits), (290, c_slices_Max___int64_int64_), (45, c_laws_szInt64S), (350, c_spec_l02Good), (285, c_impl_isNondegenerate), (375, c_spec_l01Column), (376, c_impl_tableBy), (377, c_impl_transposed_1), (67, c_spec_l01Same), (385, c_spec_l07Renumber), (62, c_spec_l01Has), (69, c_spec_l01Index), (335, c_impl_identity), (386, c_impl_numbered), (59, c_impl_IsPairMap), (387, c_spec_l01Orbits), (273, c_spec_l07Both), (334, c_spec_l01Unit), (54, c_impl_allWithin), (271, c_impl_wholeSystem), (56, c_spec_l02Map), (57, c_spec_l02Collision), (58, c_spec_l02Fault), (31, c_spec_l01Own), (60, c_impl_collisionOf), (61, c_impl_equationFault), (68, c_spec_l02Do), (70, c_slices_IndexFunc_____int64___int64_), (63, c_slices_ContainsFunc_____int64___int64_), (35, c_impl_within), (388, c_impl_orbitLabels), (410, c_spec_l01Rows), (51, c_impl_permutationRows), (384, c_slices_Index___int64_int64_), (50, c_impl_IsTable), (430, c_spec_l01Orbit), (381, c_slices_Concat_____int64___int64_), (46, c_spec_l01Table), (47, c_spec_l01Perm), (65, c_impl_permutationRows_1), (66, c_impl_isPermuted), (64, c_impl_IsTable_1), (429, c_slices_Grow_____int64___int64_)]
def pg : Pg := { fn := fun f => (tab.find? fun x => x.1 == f).map (·.2) }
theorem all_ok : ∀ x, x ∈ tab → (Try.prog.funcs[fm x.1]?).any (okF Try.prog fm x.2) = true := by
  intro x hx
  unfold tab at hx
  simp only [List.mem_cons, List.not_mem_nil, or_false] at hx
  rcases hx with rfl | rfl | rfl | rfl | rfl | rfl | rfl | rfl | rfl | rfl | rfl | rfl | rfl | rfl | rfl | rfl | rfl | rfl | rfl | rfl | rfl | rfl | rfl | rfl | rfl | rfl | rfl | rfl | rfl | rfl | rfl | rfl | rfl | rfl | rfl | rfl | rfl | rfl | rfl | rfl | rfl | rfl | rfl | rfl | rfl | rfl | rfl | rfl | rfl | rfl | rfl | rfl | rfl | rfl | rfl | rfl | rfl | rfl | rfl | rfl | rfl | rfl | rfl | rfl | rfl | rfl | rfl | rfl | rfl | rfl | rfl | rfl
  · exact k100
  · exact k14
  · exact k16
  · exact k18
  · exact k22
  · exact k205
  · exact k206
  · exact k9
  · exact k12
  · exact k13
  · exact k7
  · exact k21
  · exact k23
  · exact k27
  · exact k264
  · exact k32
  · exact k266
  · exact k265
  · exact k267
  · exact k30
  · exact k288
  · exact k299
  · exact k329
  · exact k39
  · exact k300
  · exact k330
  · exact k41
  · exact k280
  · exact k42
  · exact k301
  · exact k290
  · exact k45
  · exact k350
  · exact k285
  · exact k375
  · exact k376
  · exact k377
  · exact k67
  · exact k385
  · exact k62
  · exact k69
  · exact k335
  · exact k386
  · exact k59
  · exact k387
  · exact k273
  · exact k334
  · exact k54
  · exact k271
  · exact k56
  · exact k57
  · exact k58
  · exact k31
  · exact k60
  · exact k61
  · exact k68
  · exact k70
  · exact k63
  · exact k35
  · exact k388
  · exact k410
  · exact k51
  · exact k384
  · exact k50
  · exact k430
  · exact k381
  · exact k46
  · exact k47
  · exact k65
  · exact k66
  · exact k64
  · exact k429
theorem follows : Try.prog.follows .mixedOrders = true := by kernel_rfl
theorem prog_ok : ∀ f F, pg.fn f = some F → ∃ fn, Try.prog.funcs[fm f]? = some fn ∧ okF Try.prog fm F fn = true := by
  intro f F h
  simp only [pg, Option.map_eq_some_iff] at h
  obtain ⟨x, h1, rfl⟩ := h
  have hm := List.mem_of_find?_eq_some h1
  have he := List.find?_some h1
  simp only [beq_iff_eq] at he
  have := all_ok x hm
  rw [he] at this
  rw [Option.any_eq_true] at this
  exact this
theorem pact {f : Nat} {args args' : List T} {r : T} (h : Go.Mch.Call pg f args args' r) : Pact Try.prog fm f args args' r :=
  sound follows (fun _ _ _ _ h => False.elim h) prog_ok h
end Go.Proofs.Ytbjgmanbanhhiaa.Tie
