/- The compact code of the functions is this seat's program's: what the machine calls good, the program does. -/
import Derived.Test.YtkcgdmjdkbgmkaaRows
import Derived.KernelRfl
import Derived.Test.YtkcgdmjdkbgmkaaM4
import Derived.Test.YtkcgdmjdkbgmkaaYeA
import Derived.Test.YtkcgdmjdkbgmkaaYeB
import Derived.Test.YtkcgdmjdkbgmkaaYeC
import Derived.Test.YtkcgdmjdkbgmkaaYeD
import Derived.Test.YtkcgdmjdkbgmkaaYeG
namespace Go.Proofs.Ytkcgdmjdkbgmkaa.Tie
open Go.Mch
def fmL : List Nat := [0, 0, 0, 0, 0, 0, 0, 0, 0, 0, 0, 0, 0, 0, 0, 0, 0, 0, 0, 0, 0, 0, 0, 0, 0, 0, 0, 0, 49, 0, 39, 119, 0, 47, 0, 57, 0, 0, 0, 0, 0, 0, 25, 0, 0, 0, 94, 72, 95, 0, 90, 91, 92, 0, 87, 0, 0, 0, 0, 51, 60, 61, 106, 116, 117, 118, 66, 107, 0, 124, 132, 0, 0, 0, 0, 0, 0, 0, 0, 0, 0, 0, 0, 0, 0, 0, 0, 0, 0, 0, 0, 0, 0, 0, 0, 4, 0, 0, 0, 0, 0, 0, 0, 0, 0, 0, 0, 0, 0, 0, 0, 0, 0, 0, 0, 0, 0, 0, 0, 0, 0, 0, 0, 0, 0, 0, 0, 0, 14, 0, 0, 0, 0, 0, 0, 0, 0, 0, 0, 0, 0, 33, 0, 0, 0, 0, 0, 0, 20, 0, 0, 0, 0, 0, 0, 0, 0, 0, 0, 19, 22, 0, 0, 0, 0, 0, 0, 0, 0, 0, 0, 0, 0, 0, 0, 0, 0, 0, 26, 0, 0, 0, 0, 0, 0, 0, 0, 0, 0, 0, 15, 16, 17, 18, 21, 23, 24, 0, 0, 0, 0, 0, 0, 0, 0, 0, 0, 0, 0, 0, 0, 0, 0, 0, 0, 0, 0, 0, 0, 0, 0, 0, 0, 0, 0, 0, 0, 0, 0, 0, 0, 0, 0, 0, 0, 0, 0, 0, 0, 0, 0, 0, 0, 0, 0, 0, 0, 0, 0, 0, 0, 0, 0, 0, 0, 0, 0, 0, 0, 0, 0, 0, 0, 0, 0, 0, 0, 97, 0, 46, 0, 0, 0, 0, 0, 0, 0, 0, 0, 64, 96, 0, 0, 0, 0, 52, 53, 81, 0, 0, 0, 0, 0, 0, 0, 0, 0, 0, 54, 0, 0, 0, 0, 74, 75, 0, 0, 0, 70, 0, 0, 0, 0, 0, 0, 0, 0, 0, 0, 0, 0, 0, 45, 48, 50, 55, 56, 58, 59, 0, 0, 0, 0, 0, 0, 0, 62, 0, 65, 0, 0, 0, 0, 0, 0, 0, 0, 0, 0, 0, 0, 0, 0, 0, 0, 0, 0, 0, 0, 0, 0, 0, 0, 0, 0, 0, 0, 0, 0, 0, 0, 0, 0, 0, 0, 0, 98, 120, 0, 0, 0, 0, 0, 99, 111, 0, 0, 0, 0, 0, 0, 104, 105, 0, 0, 0, 0, 0, 0, 0, 0, 89, 93, 100, 101, 0, 0, 0, 0, 0, 0, 0, 0, 0, 0, 0, 0, 0, 0, 0, 0, 0, 0, 0, 0, 0, 0, 0, 0, 0, 0, 0, 0, 0, 0, 0, 0, 0, 0, 0, 0, 0, 0, 0, 115, 0, 0, 0, 0, 0, 0, 0, 0, 0, 0, 129, 130, 131, 0, 0, 0, 0, 0, 0, 0, 0, 137]
def fm (k : Nat) : Nat := fmL.getD k 0
theorem k95 : (Try.prog.funcs[4]?).any (okF Try.prog fm c_laws_FnRackSolutions) = true := by kernel_rfl
theorem k128 : (Try.prog.funcs[14]?).any (okF Try.prog fm c_laws_big) = true := by kernel_rfl
theorem k190 : (Try.prog.funcs[15]?).any (okF Try.prog fm c_spec_DrawRackSolution) = true := by kernel_rfl
theorem k191 : (Try.prog.funcs[16]?).any (okF Try.prog fm c_impl_RackSolution) = true := by kernel_rfl
theorem k192 : (Try.prog.funcs[17]?).any (okF Try.prog fm c_spec_RackSolution) = true := by kernel_rfl
theorem k193 : (Try.prog.funcs[18]?).any (okF Try.prog fm c_laws_solution9) = true := by kernel_rfl
theorem k159 : (Try.prog.funcs[19]?).any (okF Try.prog fm c_impl_IsNondegenerate) = true := by kernel_rfl
theorem k148 : (Try.prog.funcs[20]?).any (okF Try.prog fm c_impl_DerivedRack) = true := by kernel_rfl
theorem k194 : (Try.prog.funcs[21]?).any (okF Try.prog fm c_impl_IsSquareFree) = true := by kernel_rfl
theorem k160 : (Try.prog.funcs[22]?).any (okF Try.prog fm c_impl_IsInvolutive) = true := by kernel_rfl
theorem k195 : (Try.prog.funcs[23]?).any (okF Try.prog fm c_impl_IsQuandle) = true := by kernel_rfl
theorem k196 : (Try.prog.funcs[24]?).any (okF Try.prog fm c_impl_TrivialRack) = true := by kernel_rfl
theorem k42 : (Try.prog.funcs[25]?).any (okF Try.prog fm c_impl_IsSolution) = true := by kernel_rfl
theorem k178 : (Try.prog.funcs[26]?).any (okF Try.prog fm c_laws_same9) = true := by kernel_rfl
theorem k141 : (Try.prog.funcs[33]?).any (okF Try.prog fm c_laws_likeInts) = true := by kernel_rfl
theorem k30 : (Try.prog.funcs[39]?).any (okF Try.prog fm c_spec_l01In) = true := by kernel_rfl
theorem k322 : (Try.prog.funcs[45]?).any (okF Try.prog fm c_spec_l03DrawAny) = true := by kernel_rfl
theorem k269 : (Try.prog.funcs[46]?).any (okF Try.prog fm c_spec_l01From) = true := by kernel_rfl
theorem k33 : (Try.prog.funcs[47]?).any (okF Try.prog fm c_impl_IsRack) = true := by kernel_rfl
theorem k323 : (Try.prog.funcs[48]?).any (okF Try.prog fm c_impl_rackSolution) = true := by kernel_rfl
theorem k28 : (Try.prog.funcs[49]?).any (okF Try.prog fm c_spec_l03Is) = true := by kernel_rfl
theorem k324 : (Try.prog.funcs[50]?).any (okF Try.prog fm c_spec_l03Solution) = true := by kernel_rfl
theorem k59 : (Try.prog.funcs[51]?).any (okF Try.prog fm c_impl_IsPairMap) = true := by kernel_rfl
theorem k285 : (Try.prog.funcs[52]?).any (okF Try.prog fm c_impl_isNondegenerate) = true := by kernel_rfl
theorem k286 : (Try.prog.funcs[53]?).any (okF Try.prog fm c_impl_derivedRack) = true := by kernel_rfl
theorem k298 : (Try.prog.funcs[54]?).any (okF Try.prog fm c_impl_isInvolutive) = true := by kernel_rfl
theorem k325 : (Try.prog.funcs[55]?).any (okF Try.prog fm c_impl_isIdentity) = true := by kernel_rfl
theorem k326 : (Try.prog.funcs[56]?).any (okF Try.prog fm c_impl_kinkOf) = true := by kernel_rfl
theorem k35 : (Try.prog.funcs[57]?).any (okF Try.prog fm c_impl_within) = true := by kernel_rfl
theorem k327 : (Try.prog.funcs[58]?).any (okF Try.prog fm c_impl_rackBy) = true := by kernel_rfl
theorem k328 : (Try.prog.funcs[59]?).any (okF Try.prog fm c_impl_TrivialRack_1) = true := by kernel_rfl
theorem k60 : (Try.prog.funcs[60]?).any (okF Try.prog fm c_impl_collisionOf) = true := by kernel_rfl
theorem k61 : (Try.prog.funcs[61]?).any (okF Try.prog fm c_impl_equationFault) = true := by kernel_rfl
theorem k336 : (Try.prog.funcs[62]?).any (okF Try.prog fm c_spec_l01Next) = true := by kernel_rfl
theorem k279 : (Try.prog.funcs[64]?).any (okF Try.prog fm c_spec_l01Then) = true := by kernel_rfl
theorem k338 : (Try.prog.funcs[65]?).any (okF Try.prog fm c_spec_l03DrawPerm) = true := by kernel_rfl
theorem k66 : (Try.prog.funcs[66]?).any (okF Try.prog fm c_impl_isPermuted) = true := by kernel_rfl
theorem k308 : (Try.prog.funcs[70]?).any (okF Try.prog fm c_impl_solutionBy) = true := by kernel_rfl
theorem k47 : (Try.prog.funcs[72]?).any (okF Try.prog fm c_spec_l01Perm) = true := by kernel_rfl
theorem k303 : (Try.prog.funcs[74]?).any (okF Try.prog fm c_spec_l03Image) = true := by kernel_rfl
theorem k304 : (Try.prog.funcs[75]?).any (okF Try.prog fm c_spec_l01Back) = true := by kernel_rfl
theorem k287 : (Try.prog.funcs[81]?).any (okF Try.prog fm c_impl_indexIn) = true := by kernel_rfl
theorem k54 : (Try.prog.funcs[87]?).any (okF Try.prog fm c_impl_allWithin) = true := by kernel_rfl
theorem k401 : (Try.prog.funcs[89]?).any (okF Try.prog fm c_spec_l03Draw) = true := by kernel_rfl
theorem k50 : (Try.prog.funcs[90]?).any (okF Try.prog fm c_impl_IsTable) = true := by kernel_rfl
theorem k51 : (Try.prog.funcs[91]?).any (okF Try.prog fm c_impl_permutationRows) = true := by kernel_rfl
theorem k52 : (Try.prog.funcs[92]?).any (okF Try.prog fm c_impl_rackFault) = true := by kernel_rfl
theorem k402 : (Try.prog.funcs[93]?).any (okF Try.prog fm c_impl_rackSolution_1) = true := by kernel_rfl
theorem k46 : (Try.prog.funcs[94]?).any (okF Try.prog fm c_spec_l01Table) = true := by kernel_rfl
theorem k48 : (Try.prog.funcs[95]?).any (okF Try.prog fm c_spec_l03Fault) = true := by kernel_rfl
theorem k280 : (Try.prog.funcs[96]?).any (okF Try.prog fm c_spec_l01Own2) = true := by kernel_rfl
theorem k267 : (Try.prog.funcs[97]?).any (okF Try.prog fm c_impl_transposed) = true := by kernel_rfl
theorem k376 : (Try.prog.funcs[98]?).any (okF Try.prog fm c_impl_tableBy) = true := by kernel_rfl
theorem k383 : (Try.prog.funcs[99]?).any (okF Try.prog fm c_impl_derivedRack_1) = true := by kernel_rfl
theorem k403 : (Try.prog.funcs[100]?).any (okF Try.prog fm c_impl_increasing) = true := by kernel_rfl
theorem k404 : (Try.prog.funcs[101]?).any (okF Try.prog fm c_impl_rackBy_1) = true := by kernel_rfl
theorem k391 : (Try.prog.funcs[104]?).any (okF Try.prog fm c_impl_solutionBy_1) = true := by kernel_rfl
theorem k392 : (Try.prog.funcs[105]?).any (okF Try.prog fm c_impl_solutionBy_2) = true := by kernel_rfl
theorem k62 : (Try.prog.funcs[106]?).any (okF Try.prog fm c_spec_l01Has) = true := by kernel_rfl
theorem k67 : (Try.prog.funcs[107]?).any (okF Try.prog fm c_spec_l01Same) = true := by kernel_rfl
theorem k384 : (Try.prog.funcs[111]?).any (okF Try.prog fm c_slices_Index___int64_int64_) = true := by kernel_rfl
theorem k444 : (Try.prog.funcs[115]?).any (okF Try.prog fm c_spec_l03DrawTable) = true := by kernel_rfl
theorem k63 : (Try.prog.funcs[116]?).any (okF Try.prog fm c_slices_ContainsFunc_____int64___int64_) = true := by kernel_rfl
theorem k64 : (Try.prog.funcs[117]?).any (okF Try.prog fm c_impl_IsTable_1) = true := by kernel_rfl
theorem k65 : (Try.prog.funcs[118]?).any (okF Try.prog fm c_impl_permutationRows_1) = true := by kernel_rfl
theorem k31 : (Try.prog.funcs[119]?).any (okF Try.prog fm c_spec_l01Own) = true := by kernel_rfl
theorem k377 : (Try.prog.funcs[120]?).any (okF Try.prog fm c_impl_transposed_1) = true := by kernel_rfl
theorem k69 : (Try.prog.funcs[124]?).any (okF Try.prog fm c_spec_l01Index) = true := by kernel_rfl
theorem k455 : (Try.prog.funcs[129]?).any (okF Try.prog fm c_spec_l03Alexander) = true := by kernel_rfl
theorem k456 : (Try.prog.funcs[130]?).any (okF Try.prog fm c_spec_l03Coprime) = true := by kernel_rfl
theorem k457 : (Try.prog.funcs[131]?).any (okF Try.prog fm c_spec_l01Perms) = true := by kernel_rfl
theorem k70 : (Try.prog.funcs[132]?).any (okF Try.prog fm c_slices_IndexFunc_____int64___int64_) = true := by kernel_rfl
theorem k466 : (Try.prog.funcs[137]?).any (okF Try.prog fm c_spec_l01Grow) = true := by kernel_rfl
def tab : List (Nat × F) := [(95, c_laws_FnRackSolutions), (128, c_laws_big), (190, c_spec_DrawRackSolution), (191, c_impl_RackSolution), (192, c_spec_RackSolution), (193, c_laws_solution9), (159, c_impl_IsNondegenerate), (148, c_impl_DerivedRack), (194, c_impl_IsSquareFree), (160, c_impl_IsInvolutive), (195, c_impl_IsQuandle), (196, c_impl_TrivialRack), (42, c_impl_IsSolution), (178, c_laws_same9), (141, c_laws_likeInts), (30, c_spec_l01In), (322, c_spec_l03DrawAny), (269, c_spec_l01From), (33, c_impl_IsRack), (323, c_impl_rackSolution), (28, c_spec_l03Is), (324, c_spec_l03Solution), (59, c_impl_IsPairMap), (285, c_impl_isNondegenerate), (286, c_impl_derivedRack), (298, c_impl_isInvolutive), (325, c_impl_isIdentity), (326, c_impl_kinkOf), (35, c_impl_within), (327, c_impl_rackBy), (328, c_impl_TrivialRack_1), (60, c_impl_collisionOf), (61, c_impl_equationFault), (336, c_spec_l01Next), (279, c_spec_l01Then), (338, c_spec_l03DrawPerm), (66, c_impl_isPermuted), (308, c_impl_solutionBy), (47, c_spec_l01Perm), (303, c_spec_l03Image), (304, c_spec_l01Back), (287, c_impl_indexIn), (54, c_impl_allWithin), (401, c_spec_l03Draw), (50, c_impl_IsTable), (51, c_impl_permutationRows), (52, c_impl_rackFault), (402, c_impl_rackSolution_1), (46, c_spec_l01Table), (48, c_spec_l03Fault), (280, c_spec_l01Own2), (267, c_impl_transposed), (376, c_impl_tableBy), (383, c_impl_derivedRack_1), (403, c_impl_increasing), (404, c_impl_rackBy_1), (391, c_impl_solutionBy_1), (392, c_impl_solutionBy_2), (62, c_spec_l01Has), (67, c_spec_l01Same), (384, c_slices_Index___int64_int64_), (444, c_spec_l03DrawTable), (63, c_slices_ContainsFunc_____int64___int64_), (64, c_impl_IsTable_1), (65, c_impl_permutationRows_1), (31, c_spec_l01Own), (377, c_impl_transposed_1), (69, c_spec_l01Index), (455, c_spec_l03Alexander), (456, c_spec_l03Coprime), (457, c_spec_l01Perms), (70, c_slices_IndexFunc_____int64___int64_), (466, c_spec_l01Grow)]
def pg : Pg := { fn := fun f => (tab.find? fun x => x.1 == f).map (·.2) }
theorem all_ok : ∀ x, x ∈ tab → (Try.prog.funcs[fm x.1]?).any (okF Try.prog fm x.2) = true := by
 intro x hx
 unfold tab at hx
 simp only [List.mem_cons, List.not_mem_nil, or_false] at hx
 rcases hx with rfl | rfl | rfl | rfl | rfl | rfl | rfl | rfl | rfl | rfl | rfl | rfl | rfl | rfl | rfl | rfl | rfl | rfl | rfl | rfl | rfl | rfl | rfl | rfl | rfl | rfl | rfl | rfl | rfl | rfl | rfl | rfl | rfl | rfl | rfl | rfl | rfl | rfl | rfl | rfl | rfl | rfl | rfl | rfl | rfl | rfl | rfl | rfl | rfl | rfl | rfl | rfl | rfl | rfl | rfl | rfl | rfl | rfl | rfl | rfl | rfl | rfl | rfl | rfl | rfl | rfl | rfl | rfl | rfl | rfl | rfl | rfl | rfl
 · exact k95
 · exact k128
 · exact k190
 · exact k191
 · exact k192
 · exact k193
 · exact k159
 · exact k148
 · exact k194
 · exact k160
 · exact k195
 · exact k196
 · exact k42
 · exact k178
 · exact k141
 · exact k30
 · exact k322
 · exact k269
 · exact k33
 · exact k323
 · exact k28
 · exact k324
 · exact k59
 · exact k285
 · exact k286
 · exact k298
 · exact k325
 · exact k326
 · exact k35
 · exact k327
 · exact k328
 · exact k60
 · exact k61
 · exact k336
 · exact k279
 · exact k338
 · exact k66
 · exact k308
 · exact k47
 · exact k303
 · exact k304
 · exact k287
 · exact k54
 · exact k401
 · exact k50
 · exact k51
 · exact k52
 · exact k402
 · exact k46
 · exact k48
 · exact k280
 · exact k267
 · exact k376
 · exact k383
 · exact k403
 · exact k404
 · exact k391
 · exact k392
 · exact k62
 · exact k67
 · exact k384
 · exact k444
 · exact k63
 · exact k64
 · exact k65
 · exact k31
 · exact k377
 · exact k69
 · exact k455
 · exact k456
 · exact k457
 · exact k70
 · exact k466
theorem follows : Try.prog.follows .mixedOrders = true := by kernel_rfl
theorem prog_ok : ∀ f F, pg.fn f = some F → ∃ fn, Try.prog.funcs[fm f]? = some fn ∧ okF Try.prog fm F fn = true := by
 intro f F h
 simp only [pg, Option.map_eq_some_iff] at h
 obtain ⟨x, h1, rfl⟩ := h
 have hm := List.mem_of_find?_eq_some h1
 have he := List.find?_some h1
 simp only [beq_iff_eq] at he
 have := all_ok x hm
 rw [he] at this
 rw [Option.any_eq_true] at this
 exact this
theorem pact {f : Nat} {args args' : List T} {r : T} (h : Go.Mch.Call pg f args args' r) : Pact Try.prog fm f args args' r :=
 sound follows (fun _ _ _ _ h => False.elim h) prog_ok h
end Go.Proofs.Ytkcgdmjdkbgmkaa.Tie
