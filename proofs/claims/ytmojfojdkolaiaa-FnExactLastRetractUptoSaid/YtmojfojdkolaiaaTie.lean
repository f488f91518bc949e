/- The compact code of the functions is this seat's program's: what the machine calls good, the program does. -/
import Derived.Test.YtmojfojdkolaiaaRows
import Derived.KernelRfl
import Derived.Test.YtmojfojdkolaiaaM3
import Derived.Test.YtmojfojdkolaiaaYeA
import Derived.Test.YtmojfojdkolaiaaYeB
import Derived.Test.YtmojfojdkolaiaaYeC
import Derived.Test.YtmojfojdkolaiaaP1
namespace Go.Proofs.Ytmojfojdkolaiaa.Tie
open Go.Mch
def fmL : List Nat := [0, 0, 0, 0, 0, 0, 0, 27, 0, 19, 0, 0, 22, 23, 15, 0, 17, 0, 20, 0, 0, 58, 21, 59, 72, 0, 0, 52, 0, 0, 91, 141, 55, 0, 0, 93, 131, 0, 0, 0, 0, 99, 102, 0, 0, 98, 105, 61, 0, 0, 110, 111, 0, 0, 143, 0, 132, 133, 134, 137, 138, 139, 107, 77, 142, 144, 66, 108, 155, 140, 120, 0, 0, 0, 0, 0, 0, 0, 0, 0, 0, 0, 0, 0, 0, 0, 0, 0, 0, 0, 0, 0, 0, 0, 0, 0, 0, 0, 0, 14, 0, 0, 0, 0, 0, 0, 0, 0, 0, 0, 0, 0, 0, 0, 0, 0, 0, 0, 0, 0, 0, 0, 0, 0, 0, 0, 0, 0, 0, 0, 0, 0, 0, 0, 0, 0, 0, 0, 0, 0, 0, 0, 0, 0, 0, 0, 0, 0, 0, 0, 0, 0, 0, 0, 0, 0, 0, 0, 0, 0, 0, 0, 0, 0, 0, 0, 0, 0, 0, 0, 0, 0, 31, 0, 0, 0, 0, 0, 0, 0, 0, 0, 0, 0, 0, 0, 0, 0, 0, 0, 0, 0, 0, 0, 0, 0, 0, 0, 0, 0, 0, 0, 0, 50, 51, 0, 0, 0, 0, 0, 0, 0, 0, 0, 0, 0, 0, 0, 0, 0, 0, 0, 0, 0, 0, 0, 0, 0, 0, 0, 0, 0, 0, 0, 0, 0, 0, 0, 0, 0, 0, 0, 0, 0, 0, 0, 0, 0, 0, 0, 0, 0, 0, 0, 0, 0, 0, 0, 0, 0, 0, 0, 0, 0, 53, 118, 56, 122, 0, 0, 0, 0, 0, 0, 0, 97, 130, 0, 0, 0, 109, 0, 0, 0, 0, 103, 0, 0, 73, 74, 0, 96, 0, 0, 0, 0, 0, 0, 0, 0, 0, 0, 0, 0, 0, 0, 0, 0, 70, 0, 75, 0, 0, 0, 0, 0, 0, 0, 0, 85, 86, 87, 0, 0, 0, 0, 0, 0, 0, 0, 0, 0, 0, 0, 0, 94, 0, 0, 0, 0, 0, 0, 0, 0, 0, 0, 0, 0, 0, 0, 100, 0, 0, 0, 0, 0, 0, 0, 0, 0, 0, 0, 0, 0, 0, 0, 0, 0, 0, 0, 0, 0, 0, 0, 0, 148, 114, 150, 0, 0, 0, 0, 0, 0, 154, 119, 129, 0, 0, 0, 0, 116, 117, 0, 0, 0, 0, 125, 126, 127, 128, 0, 0, 0, 0, 0, 0, 0, 0, 0, 135]
def fm (k : Nat) : Nat := fmL.getD k 0
theorem k99 : (Try.prog.funcs[14]?).any (okF Try.prog fm (lw_S 203 204)) = true := by kernel_rfl
theorem k14 : (Try.prog.funcs[15]?).any (okF Try.prog fm c_laws_szSolution) = true := by kernel_rfl
theorem k16 : (Try.prog.funcs[17]?).any (okF Try.prog fm c_laws_toSolution) = true := by kernel_rfl
theorem k9 : (Try.prog.funcs[19]?).any (okF Try.prog fm c_laws_eqInt64S) = true := by kernel_rfl
theorem k18 : (Try.prog.funcs[20]?).any (okF Try.prog fm c_laws_eqSolution) = true := by kernel_rfl
theorem k22 : (Try.prog.funcs[21]?).any (okF Try.prog fm c_laws_markSolution) = true := by kernel_rfl
theorem k12 : (Try.prog.funcs[22]?).any (okF Try.prog fm c_laws_markInt64S) = true := by kernel_rfl
theorem k13 : (Try.prog.funcs[23]?).any (okF Try.prog fm c_laws_heldInt64S) = true := by kernel_rfl
theorem k7 : (Try.prog.funcs[27]?).any (okF Try.prog fm c_laws_toInt64S) = true := by kernel_rfl
theorem k172 : (Try.prog.funcs[31]?).any (okF Try.prog fm c_laws_heldSolution) = true := by kernel_rfl
theorem k203 : (Try.prog.funcs[50]?).any (okF Try.prog fm c_spec_LastRetract) = true := by kernel_rfl
theorem k204 : (Try.prog.funcs[51]?).any (okF Try.prog fm c_impl_LastRetract) = true := by kernel_rfl
theorem k27 : (Try.prog.funcs[52]?).any (okF Try.prog fm c_laws_szInt64SS) = true := by kernel_rfl
theorem k264 : (Try.prog.funcs[53]?).any (okF Try.prog fm c_spec_l07Is) = true := by kernel_rfl
theorem k32 : (Try.prog.funcs[55]?).any (okF Try.prog fm c_laws_toInt64SS) = true := by kernel_rfl
theorem k266 : (Try.prog.funcs[56]?).any (okF Try.prog fm c_impl_isRegular) = true := by kernel_rfl
theorem k21 : (Try.prog.funcs[58]?).any (okF Try.prog fm c_laws_eqInt64SS) = true := by kernel_rfl
theorem k23 : (Try.prog.funcs[59]?).any (okF Try.prog fm c_laws_markInt64SS) = true := by kernel_rfl
theorem k47 : (Try.prog.funcs[61]?).any (okF Try.prog fm c_spec_l01Perm) = true := by kernel_rfl
theorem k66 : (Try.prog.funcs[66]?).any (okF Try.prog fm c_impl_isPermuted) = true := by kernel_rfl
theorem k308 : (Try.prog.funcs[70]?).any (okF Try.prog fm c_impl_solutionBy) = true := by kernel_rfl
theorem k24 : (Try.prog.funcs[72]?).any (okF Try.prog fm c_laws_heldInt64SS) = true := by kernel_rfl
theorem k288 : (Try.prog.funcs[73]?).any (okF Try.prog fm c_spec_l01Greatest) = true := by kernel_rfl
theorem k289 : (Try.prog.funcs[74]?).any (okF Try.prog fm c_spec_l08Classes) = true := by kernel_rfl
theorem k310 : (Try.prog.funcs[75]?).any (okF Try.prog fm c_impl_seriesOf) = true := by kernel_rfl
theorem k63 : (Try.prog.funcs[77]?).any (okF Try.prog fm c_slices_ContainsFunc_____int64___int64_) = true := by kernel_rfl
theorem k319 : (Try.prog.funcs[85]?).any (okF Try.prog fm c_spec_l08Series) = true := by kernel_rfl
theorem k320 : (Try.prog.funcs[86]?).any (okF Try.prog fm c_spec_l08Retract) = true := by kernel_rfl
theorem k321 : (Try.prog.funcs[87]?).any (okF Try.prog fm c_impl_retractOf) = true := by kernel_rfl
theorem k30 : (Try.prog.funcs[91]?).any (okF Try.prog fm c_spec_l01In) = true := by kernel_rfl
theorem k35 : (Try.prog.funcs[93]?).any (okF Try.prog fm c_impl_within) = true := by kernel_rfl
theorem k335 : (Try.prog.funcs[94]?).any (okF Try.prog fm c_impl_identity) = true := by kernel_rfl
theorem k291 : (Try.prog.funcs[96]?).any (okF Try.prog fm c_impl_alikeClasses) = true := by kernel_rfl
theorem k275 : (Try.prog.funcs[97]?).any (okF Try.prog fm c_impl_cloneTable) = true := by kernel_rfl
theorem k45 : (Try.prog.funcs[98]?).any (okF Try.prog fm c_laws_szInt64S) = true := by kernel_rfl
theorem k41 : (Try.prog.funcs[99]?).any (okF Try.prog fm c_spec_l02Is) = true := by kernel_rfl
theorem k350 : (Try.prog.funcs[100]?).any (okF Try.prog fm c_spec_l02Good) = true := by kernel_rfl
theorem k42 : (Try.prog.funcs[102]?).any (okF Try.prog fm c_impl_IsSolution) = true := by kernel_rfl
theorem k285 : (Try.prog.funcs[103]?).any (okF Try.prog fm c_impl_isNondegenerate) = true := by kernel_rfl
theorem k46 : (Try.prog.funcs[105]?).any (okF Try.prog fm c_spec_l01Table) = true := by kernel_rfl
theorem k62 : (Try.prog.funcs[107]?).any (okF Try.prog fm c_spec_l01Has) = true := by kernel_rfl
theorem k67 : (Try.prog.funcs[108]?).any (okF Try.prog fm c_spec_l01Same) = true := by kernel_rfl
theorem k280 : (Try.prog.funcs[109]?).any (okF Try.prog fm c_spec_l01Own2) = true := by kernel_rfl
theorem k50 : (Try.prog.funcs[110]?).any (okF Try.prog fm c_impl_IsTable) = true := by kernel_rfl
theorem k51 : (Try.prog.funcs[111]?).any (okF Try.prog fm c_impl_permutationRows) = true := by kernel_rfl
theorem k376 : (Try.prog.funcs[114]?).any (okF Try.prog fm c_impl_tableBy) = true := by kernel_rfl
theorem k391 : (Try.prog.funcs[116]?).any (okF Try.prog fm c_impl_solutionBy_1) = true := by kernel_rfl
theorem k392 : (Try.prog.funcs[117]?).any (okF Try.prog fm c_impl_solutionBy_2) = true := by kernel_rfl
theorem k265 : (Try.prog.funcs[118]?).any (okF Try.prog fm c_spec_l01Turn) = true := by kernel_rfl
theorem k385 : (Try.prog.funcs[119]?).any (okF Try.prog fm c_spec_l07Renumber) = true := by kernel_rfl
theorem k70 : (Try.prog.funcs[120]?).any (okF Try.prog fm c_slices_IndexFunc_____int64___int64_) = true := by kernel_rfl
theorem k267 : (Try.prog.funcs[122]?).any (okF Try.prog fm c_impl_transposed) = true := by kernel_rfl
theorem k397 : (Try.prog.funcs[125]?).any (okF Try.prog fm c_spec_l02Own) = true := by kernel_rfl
theorem k398 : (Try.prog.funcs[126]?).any (okF Try.prog fm c_spec_l02Empty) = true := by kernel_rfl
theorem k399 : (Try.prog.funcs[127]?).any (okF Try.prog fm c_impl_firstOf) = true := by kernel_rfl
theorem k400 : (Try.prog.funcs[128]?).any (okF Try.prog fm c_impl_retractOf_1) = true := by kernel_rfl
theorem k386 : (Try.prog.funcs[129]?).any (okF Try.prog fm c_impl_numbered) = true := by kernel_rfl
theorem k276 : (Try.prog.funcs[130]?).any (okF Try.prog fm c_slices_Equal___int64_int64_) = true := by kernel_rfl
theorem k36 : (Try.prog.funcs[131]?).any (okF Try.prog fm c_slices_Clone___int64_int64_) = true := by kernel_rfl
theorem k56 : (Try.prog.funcs[132]?).any (okF Try.prog fm c_spec_l02Map) = true := by kernel_rfl
theorem k57 : (Try.prog.funcs[133]?).any (okF Try.prog fm c_spec_l02Collision) = true := by kernel_rfl
theorem k58 : (Try.prog.funcs[134]?).any (okF Try.prog fm c_spec_l02Fault) = true := by kernel_rfl
theorem k410 : (Try.prog.funcs[135]?).any (okF Try.prog fm c_spec_l01Rows) = true := by kernel_rfl
theorem k59 : (Try.prog.funcs[137]?).any (okF Try.prog fm c_impl_IsPairMap) = true := by kernel_rfl
theorem k60 : (Try.prog.funcs[138]?).any (okF Try.prog fm c_impl_collisionOf) = true := by kernel_rfl
theorem k61 : (Try.prog.funcs[139]?).any (okF Try.prog fm c_impl_equationFault) = true := by kernel_rfl
theorem k69 : (Try.prog.funcs[140]?).any (okF Try.prog fm c_spec_l01Index) = true := by kernel_rfl
theorem k31 : (Try.prog.funcs[141]?).any (okF Try.prog fm c_spec_l01Own) = true := by kernel_rfl
theorem k64 : (Try.prog.funcs[142]?).any (okF Try.prog fm c_impl_IsTable_1) = true := by kernel_rfl
theorem k54 : (Try.prog.funcs[143]?).any (okF Try.prog fm c_impl_allWithin) = true := by kernel_rfl
theorem k65 : (Try.prog.funcs[144]?).any (okF Try.prog fm c_impl_permutationRows_1) = true := by kernel_rfl
theorem k375 : (Try.prog.funcs[148]?).any (okF Try.prog fm c_spec_l01Column) = true := by kernel_rfl
theorem k377 : (Try.prog.funcs[150]?).any (okF Try.prog fm c_impl_transposed_1) = true := by kernel_rfl
theorem k384 : (Try.prog.funcs[154]?).any (okF Try.prog fm c_slices_Index___int64_int64_) = true := by kernel_rfl
theorem k68 : (Try.prog.funcs[155]?).any (okF Try.prog fm c_spec_l02Do) = true := by kernel_rfl
def tab : List (Nat × F) := [(99, (lw_S 203 204)), (14, c_laws_szSolution), (16, c_laws_toSolution), (9, c_laws_eqInt64S), (18, c_laws_eqSolution), (22, c_laws_markSolution), (12, c_laws_markInt64S), (13, c_laws_heldInt64S), (7, c_laws_toInt64S), (172, c_laws_heldSolution), (203, c_spec_LastRetract), (204, c_impl_LastRetract), (27, c_laws_szInt64SS), (264, c_spec_l07Is), (32, c_laws_toInt64SS), (266, c_impl_isRegular), (21, c_laws_eqInt64SS), (23, c_laws_markInt64SS), (47, c_spec_l01Perm), (66, c_impl_isPermuted), (308, c_impl_solutionBy), (24, c_laws_heldInt64SS), (288, c_spec_l01Greatest), (289, c_spec_l08Classes), (310, c_impl_seriesOf), (63, c_slices_ContainsFunc_____int64___int64_), (319, c_spec_l08Series), (320, c_spec_l08Retract), (321, c_impl_retractOf), (30, c_spec_l01In), (35, c_impl_within), (335, c_impl_identity), (291, c_impl_alikeClasses), (275, c_impl_cloneTable), (45, c_laws_szInt64S), (41, c_spec_l02Is), (350, c_spec_l02Good), (42, c_impl_IsSolution), (285, c_impl_isNondegenerate), (46, c_spec_l01Table), (62, c_spec_l01Has), (67, c_spec_l01Same), (280, c_spec_l01Own2), (50, c_impl_IsTable), (51, c_impl_permutationRows), (376, c_impl_tableBy), (391, c_impl_solutionBy_1), (392, c_impl_solutionBy_2), (265, c_spec_l01Turn), (385, c_spec_l07Renumber), (70, c_slices_IndexFunc_____int64___int64_), (267, c_impl_transposed), (397, c_spec_l02Own), (398, c_spec_l02Empty), (399, c_impl_firstOf), (400, c_impl_retractOf_1), (386, c_impl_numbered), (276, c_slices_Equal___int64_int64_), (36, c_slices_Clone___int64_int64_), (56, c_spec_l02Map), (57, c_spec_l02Collision), (58, c_spec_l02Fault), (410, c_spec_l01Rows), (59, c_impl_IsPairMap), (60, c_impl_collisionOf), (61, c_impl_equationFault), (69, c_spec_l01Index), (31, c_spec_l01Own), (64, c_impl_IsTable_1), (54, c_impl_allWithin), (65, c_impl_permutationRows_1), (375, c_spec_l01Column), (377, c_impl_transposed_1), (384, c_slices_Index___int64_int64_), (68, c_spec_l02Do)]
def pg : Pg := { fn := fun f => (tab.find? fun x => x.1 == f).map (·.2) }
theorem all_ok : ∀ x, x ∈ tab → (Try.prog.funcs[fm x.1]?).any (okF Try.prog fm x.2) = true := by
  intro x hx
  unfold tab at hx
  simp only [List.mem_cons, List.not_mem_nil, or_false] at hx
  rcases hx with rfl | rfl | rfl | rfl | rfl | rfl | rfl | rfl | rfl | rfl | rfl | rfl | rfl | rfl | rfl | rfl | rfl | rfl | rfl | rfl | rfl | rfl | rfl | rfl | rfl | rfl | rfl | rfl | rfl | rfl | rfl | rfl | rfl | rfl | rfl | rfl | rfl | rfl | rfl | rfl | rfl | rfl | rfl | rfl | rfl | rfl | rfl | rfl | rfl | rfl | rfl | rfl | rfl | rfl | rfl | rfl | rfl | rfl | rfl | rfl | rfl | rfl | rfl | rfl | rfl | rfl | rfl | rfl | rfl | rfl | rfl | rfl | rfl | rfl | rfl
  · exact k99
  · exact k14
  · exact k16
  · exact k9
  · exact k18
  · exact k22
  · exact k12
  · exact k13
  · exact k7
  · exact k172
  · exact k203
  · exact k204
  · exact k27
  · exact k264
  · exact k32
  · exact k266
  · exact k21
  · exact k23
  · exact k47
  · exact k66
  · exact k308
  · exact k24
  · exact k288
  · exact k289
  · exact k310
  · exact k63
  · exact k319
  · exact k320
  · exact k321
  · exact k30
  · exact k35
  · exact k335
  · exact k291
  · exact k275
  · exact k45
  · exact k41
  · exact k350
  · exact k42
  · exact k285
  · exact k46
  · exact k62
  · exact k67
  · exact k280
  · exact k50
  · exact k51
  · exact k376
  · exact k391
  · exact k392
  · exact k265
  · exact k385
  · exact k70
  · exact k267
  · exact k397
  · exact k398
  · exact k399
  · exact k400
  · exact k386
  · exact k276
  · exact k36
  · exact k56
  · exact k57
  · exact k58
  · exact k410
  · exact k59
  · exact k60
  · exact k61
  · exact k69
  · exact k31
  · exact k64
  · exact k54
  · exact k65
  · exact k375
  · exact k377
  · exact k384
  · exact k68
theorem follows : Try.prog.follows .mixedOrders = true := by kernel_rfl
theorem prog_ok : ∀ f F, pg.fn f = some F → ∃ fn, Try.prog.funcs[fm f]? = some fn ∧ okF Try.prog fm F fn = true := by
  intro f F h
  simp only [pg, Option.map_eq_some_iff] at h
  obtain ⟨x, h1, rfl⟩ := h
  have hm := List.mem_of_find?_eq_some h1
  have he := List.find?_some h1
  simp only [beq_iff_eq] at he
  have := all_ok x hm
  rw [he] at this
  rw [Option.any_eq_true] at this
  exact this
theorem pact {f : Nat} {args args' : List T} {r : T} (h : Go.Mch.Call pg f args args' r) : Pact Try.prog fm f args args' r :=
  sound follows (fun _ _ _ _ h => False.elim h) prog_ok h
end Go.Proofs.Ytmojfojdkolaiaa.Tie
