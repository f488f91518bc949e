/- The compact code of the functions is this seat's program's: what the machine calls good, the program does. -/
import Derived.Test.YtmfppjjjamemnaaRows
import Derived.KernelRfl
import Derived.Test.YtmfppjjjamemnaaM3
import Derived.Test.YtmfppjjjamemnaaYeA
import Derived.Test.YtmfppjjjamemnaaYeB
import Derived.Test.YtmfppjjjamemnaaYeC
import Derived.Test.YtmfppjjjamemnaaYeD
import Derived.Test.YtmfppjjjamemnaaYeE
import Derived.Test.YtmfppjjjamemnaaP1
namespace Go.Proofs.Ytmfppjjjamemnaa.Tie
open Go.Mch
def fmL : List Nat := [0, 0, 0, 0, 0, 0, 0, 18, 0, 21, 0, 0, 26, 31, 15, 0, 17, 0, 20, 0, 0, 24, 25, 27, 0, 0, 0, 53, 0, 0, 77, 100, 57, 0, 0, 71, 113, 0, 0, 0, 0, 76, 70, 0, 132, 97, 156, 157, 0, 0, 144, 128, 0, 0, 127, 0, 122, 123, 124, 114, 115, 116, 87, 85, 171, 159, 160, 103, 101, 80, 104, 0, 0, 0, 0, 0, 0, 0, 0, 0, 0, 0, 0, 0, 0, 0, 0, 0, 0, 0, 0, 0, 0, 0, 0, 0, 0, 0, 0, 0, 0, 0, 0, 0, 0, 0, 0, 0, 0, 0, 0, 0, 0, 0, 0, 0, 0, 0, 0, 0, 0, 0, 13, 0, 0, 0, 0, 0, 0, 0, 0, 0, 0, 0, 0, 0, 0, 0, 0, 0, 0, 0, 0, 0, 0, 0, 0, 0, 0, 0, 0, 0, 0, 0, 0, 0, 0, 0, 0, 0, 0, 0, 0, 0, 0, 0, 0, 0, 0, 0, 0, 0, 0, 0, 0, 0, 0, 0, 0, 0, 0, 0, 0, 0, 0, 0, 0, 0, 0, 0, 0, 0, 0, 0, 0, 0, 0, 0, 0, 0, 0, 0, 0, 0, 0, 0, 0, 0, 0, 0, 0, 0, 0, 0, 0, 0, 0, 0, 0, 0, 0, 0, 0, 0, 0, 0, 0, 0, 0, 0, 0, 0, 0, 0, 0, 0, 0, 0, 0, 0, 0, 0, 0, 0, 0, 0, 0, 0, 0, 0, 0, 0, 0, 0, 0, 46, 47, 0, 0, 0, 0, 0, 117, 118, 0, 126, 0, 129, 0, 0, 0, 0, 0, 0, 0, 163, 0, 0, 0, 0, 102, 0, 0, 0, 0, 82, 0, 0, 0, 0, 0, 0, 0, 0, 72, 0, 67, 0, 83, 0, 0, 0, 0, 0, 0, 0, 0, 0, 0, 0, 0, 0, 131, 74, 75, 0, 0, 0, 0, 0, 0, 0, 0, 0, 0, 0, 0, 0, 0, 0, 0, 0, 0, 0, 0, 0, 0, 0, 0, 55, 0, 0, 0, 0, 0, 0, 0, 0, 0, 73, 78, 79, 84, 0, 0, 0, 0, 0, 0, 0, 0, 0, 0, 0, 0, 0, 0, 0, 0, 0, 0, 0, 88, 0, 0, 158, 161, 162, 0, 0, 0, 0, 0, 0, 0, 0, 0, 0, 0, 0, 0, 0, 0, 119, 120, 121, 0, 0, 143, 0, 0, 0, 0, 0, 0, 0, 99, 0, 112, 0, 125, 130, 0, 0, 0, 0, 0, 0, 0, 0, 0, 0, 0, 0, 0, 0, 133, 0, 0, 0, 0, 0, 0, 145, 146, 147, 148, 149, 150, 151, 152, 153, 154, 155, 0, 0, 0, 0, 0, 0, 172, 173, 174, 175, 176, 0, 0, 0, 0, 0, 0, 0, 0, 0, 0, 178]
def fm (k : Nat) : Nat := fmL.getD k 0
theorem k122 : (Try.prog.funcs[13]?).any (okF Try.prog fm (lw_I 255 256)) = true := by kernel_rfl
theorem k14 : (Try.prog.funcs[15]?).any (okF Try.prog fm c_laws_szSolution) = true := by kernel_rfl
theorem k16 : (Try.prog.funcs[17]?).any (okF Try.prog fm c_laws_toSolution) = true := by kernel_rfl
theorem k7 : (Try.prog.funcs[18]?).any (okF Try.prog fm c_laws_toInt64S) = true := by kernel_rfl
theorem k18 : (Try.prog.funcs[20]?).any (okF Try.prog fm c_laws_eqSolution) = true := by kernel_rfl
theorem k9 : (Try.prog.funcs[21]?).any (okF Try.prog fm c_laws_eqInt64S) = true := by kernel_rfl
theorem k21 : (Try.prog.funcs[24]?).any (okF Try.prog fm c_laws_eqInt64SS) = true := by kernel_rfl
theorem k22 : (Try.prog.funcs[25]?).any (okF Try.prog fm c_laws_markSolution) = true := by kernel_rfl
theorem k12 : (Try.prog.funcs[26]?).any (okF Try.prog fm c_laws_markInt64S) = true := by kernel_rfl
theorem k23 : (Try.prog.funcs[27]?).any (okF Try.prog fm c_laws_markInt64SS) = true := by kernel_rfl
theorem k13 : (Try.prog.funcs[31]?).any (okF Try.prog fm c_laws_heldInt64S) = true := by kernel_rfl
theorem k255 : (Try.prog.funcs[46]?).any (okF Try.prog fm c_spec_GarsideWord) = true := by kernel_rfl
theorem k256 : (Try.prog.funcs[47]?).any (okF Try.prog fm c_impl_GarsideWord) = true := by kernel_rfl
theorem k27 : (Try.prog.funcs[53]?).any (okF Try.prog fm c_laws_szInt64SS) = true := by kernel_rfl
theorem k339 : (Try.prog.funcs[55]?).any (okF Try.prog fm c_spec_l09Class) = true := by kernel_rfl
theorem k32 : (Try.prog.funcs[57]?).any (okF Try.prog fm c_laws_toInt64SS) = true := by kernel_rfl
theorem k296 : (Try.prog.funcs[67]?).any (okF Try.prog fm c_spec_l09Normals) = true := by kernel_rfl
theorem k42 : (Try.prog.funcs[70]?).any (okF Try.prog fm c_impl_IsSolution) = true := by kernel_rfl
theorem k35 : (Try.prog.funcs[71]?).any (okF Try.prog fm c_impl_within) = true := by kernel_rfl
theorem k294 : (Try.prog.funcs[72]?).any (okF Try.prog fm c_impl_normalWords) = true := by kernel_rfl
theorem k349 : (Try.prog.funcs[73]?).any (okF Try.prog fm c_spec_l01Put) = true := by kernel_rfl
theorem k313 : (Try.prog.funcs[74]?).any (okF Try.prog fm c_slices_SortFunc_____int64___int64_) = true := by kernel_rfl
theorem k314 : (Try.prog.funcs[75]?).any (okF Try.prog fm c_slices_Compare___int64_int64_) = true := by kernel_rfl
theorem k41 : (Try.prog.funcs[76]?).any (okF Try.prog fm c_spec_l02Is) = true := by kernel_rfl
theorem k30 : (Try.prog.funcs[77]?).any (okF Try.prog fm c_spec_l01In) = true := by kernel_rfl
theorem k350 : (Try.prog.funcs[78]?).any (okF Try.prog fm c_spec_l02Good) = true := by kernel_rfl
theorem k351 : (Try.prog.funcs[79]?).any (okF Try.prog fm c_spec_l02Twice) = true := by kernel_rfl
theorem k69 : (Try.prog.funcs[80]?).any (okF Try.prog fm c_spec_l01Index) = true := by kernel_rfl
theorem k285 : (Try.prog.funcs[82]?).any (okF Try.prog fm c_impl_isNondegenerate) = true := by kernel_rfl
theorem k298 : (Try.prog.funcs[83]?).any (okF Try.prog fm c_impl_isInvolutive) = true := by kernel_rfl
theorem k352 : (Try.prog.funcs[84]?).any (okF Try.prog fm c_impl_wordClass) = true := by kernel_rfl
theorem k63 : (Try.prog.funcs[85]?).any (okF Try.prog fm c_slices_ContainsFunc_____int64___int64_) = true := by kernel_rfl
theorem k62 : (Try.prog.funcs[87]?).any (okF Try.prog fm c_spec_l01Has) = true := by kernel_rfl
theorem k372 : (Try.prog.funcs[88]?).any (okF Try.prog fm c_slices_Contains___bool_bool_) = true := by kernel_rfl
theorem k45 : (Try.prog.funcs[97]?).any (okF Try.prog fm c_laws_szInt64S) = true := by kernel_rfl
theorem k406 : (Try.prog.funcs[99]?).any (okF Try.prog fm c_spec_l02Inverse) = true := by kernel_rfl
theorem k31 : (Try.prog.funcs[100]?).any (okF Try.prog fm c_spec_l01Own) = true := by kernel_rfl
theorem k68 : (Try.prog.funcs[101]?).any (okF Try.prog fm c_spec_l02Do) = true := by kernel_rfl
theorem k280 : (Try.prog.funcs[102]?).any (okF Try.prog fm c_spec_l01Own2) = true := by kernel_rfl
theorem k67 : (Try.prog.funcs[103]?).any (okF Try.prog fm c_spec_l01Same) = true := by kernel_rfl
theorem k70 : (Try.prog.funcs[104]?).any (okF Try.prog fm c_slices_IndexFunc_____int64___int64_) = true := by kernel_rfl
theorem k408 : (Try.prog.funcs[112]?).any (okF Try.prog fm c_spec_l01Less) = true := by kernel_rfl
theorem k36 : (Try.prog.funcs[113]?).any (okF Try.prog fm c_slices_Clone___int64_int64_) = true := by kernel_rfl
theorem k59 : (Try.prog.funcs[114]?).any (okF Try.prog fm c_impl_IsPairMap) = true := by kernel_rfl
theorem k60 : (Try.prog.funcs[115]?).any (okF Try.prog fm c_impl_collisionOf) = true := by kernel_rfl
theorem k61 : (Try.prog.funcs[116]?).any (okF Try.prog fm c_impl_equationFault) = true := by kernel_rfl
theorem k262 : (Try.prog.funcs[117]?).any (okF Try.prog fm c_impl_tupleOf) = true := by kernel_rfl
theorem k263 : (Try.prog.funcs[118]?).any (okF Try.prog fm c_impl_numberOf) = true := by kernel_rfl
theorem k393 : (Try.prog.funcs[119]?).any (okF Try.prog fm c_slices_pdqsortCmpFunc___int64_) = true := by kernel_rfl
theorem k394 : (Try.prog.funcs[120]?).any (okF Try.prog fm c_math_bits_Len) = true := by kernel_rfl
theorem k395 : (Try.prog.funcs[121]?).any (okF Try.prog fm c_cmp_Compare_int64_) = true := by kernel_rfl
theorem k56 : (Try.prog.funcs[122]?).any (okF Try.prog fm c_spec_l02Map) = true := by kernel_rfl
theorem k57 : (Try.prog.funcs[123]?).any (okF Try.prog fm c_spec_l02Collision) = true := by kernel_rfl
theorem k58 : (Try.prog.funcs[124]?).any (okF Try.prog fm c_spec_l02Fault) = true := by kernel_rfl
theorem k410 : (Try.prog.funcs[125]?).any (okF Try.prog fm c_spec_l01Rows) = true := by kernel_rfl
theorem k265 : (Try.prog.funcs[126]?).any (okF Try.prog fm c_spec_l01Turn) = true := by kernel_rfl
theorem k54 : (Try.prog.funcs[127]?).any (okF Try.prog fm c_impl_allWithin) = true := by kernel_rfl
theorem k51 : (Try.prog.funcs[128]?).any (okF Try.prog fm c_impl_permutationRows) = true := by kernel_rfl
theorem k267 : (Try.prog.funcs[129]?).any (okF Try.prog fm c_impl_transposed) = true := by kernel_rfl
theorem k411 : (Try.prog.funcs[130]?).any (okF Try.prog fm c_impl_InverseSolution) = true := by kernel_rfl
theorem k312 : (Try.prog.funcs[131]?).any (okF Try.prog fm c_impl_digitsText) = true := by kernel_rfl
theorem k44 : (Try.prog.funcs[132]?).any (okF Try.prog fm c_impl_moved) = true := by kernel_rfl
theorem k426 : (Try.prog.funcs[133]?).any (okF Try.prog fm c_slices_Index___bool_bool_) = true := by kernel_rfl
theorem k398 : (Try.prog.funcs[143]?).any (okF Try.prog fm c_spec_l02Empty) = true := by kernel_rfl
theorem k50 : (Try.prog.funcs[144]?).any (okF Try.prog fm c_impl_IsTable) = true := by kernel_rfl
theorem k433 : (Try.prog.funcs[145]?).any (okF Try.prog fm c_slices_insertionSortCmpFunc___int64_) = true := by kernel_rfl
theorem k434 : (Try.prog.funcs[146]?).any (okF Try.prog fm c_slices_heapSortCmpFunc___int64_) = true := by kernel_rfl
theorem k435 : (Try.prog.funcs[147]?).any (okF Try.prog fm c_slices_breakPatternsCmpFunc___int64_) = true := by kernel_rfl
theorem k436 : (Try.prog.funcs[148]?).any (okF Try.prog fm c_slices_choosePivotCmpFunc___int64_) = true := by kernel_rfl
theorem k437 : (Try.prog.funcs[149]?).any (okF Try.prog fm c_slices_reverseRangeCmpFunc___int64_) = true := by kernel_rfl
theorem k438 : (Try.prog.funcs[150]?).any (okF Try.prog fm c_slices_partialInsertionSortCmpFunc___int64_) = true := by kernel_rfl
theorem k439 : (Try.prog.funcs[151]?).any (okF Try.prog fm c_slices_partitionEqualCmpFunc___int64_) = true := by kernel_rfl
theorem k440 : (Try.prog.funcs[152]?).any (okF Try.prog fm c_slices_partitionCmpFunc___int64_) = true := by kernel_rfl
theorem k441 : (Try.prog.funcs[153]?).any (okF Try.prog fm c_math_bits_Len32) = true := by kernel_rfl
theorem k442 : (Try.prog.funcs[154]?).any (okF Try.prog fm c_math_bits_Len64) = true := by kernel_rfl
theorem k443 : (Try.prog.funcs[155]?).any (okF Try.prog fm c_cmp_isNaN_int64_) = true := by kernel_rfl
theorem k46 : (Try.prog.funcs[156]?).any (okF Try.prog fm c_spec_l01Table) = true := by kernel_rfl
theorem k47 : (Try.prog.funcs[157]?).any (okF Try.prog fm c_spec_l01Perm) = true := by kernel_rfl
theorem k375 : (Try.prog.funcs[158]?).any (okF Try.prog fm c_spec_l01Column) = true := by kernel_rfl
theorem k65 : (Try.prog.funcs[159]?).any (okF Try.prog fm c_impl_permutationRows_1) = true := by kernel_rfl
theorem k66 : (Try.prog.funcs[160]?).any (okF Try.prog fm c_impl_isPermuted) = true := by kernel_rfl
theorem k376 : (Try.prog.funcs[161]?).any (okF Try.prog fm c_impl_tableBy) = true := by kernel_rfl
theorem k377 : (Try.prog.funcs[162]?).any (okF Try.prog fm c_impl_transposed_1) = true := by kernel_rfl
theorem k275 : (Try.prog.funcs[163]?).any (okF Try.prog fm c_impl_cloneTable) = true := by kernel_rfl
theorem k64 : (Try.prog.funcs[171]?).any (okF Try.prog fm c_impl_IsTable_1) = true := by kernel_rfl
theorem k450 : (Try.prog.funcs[172]?).any (okF Try.prog fm c_slices_siftDownCmpFunc___int64_) = true := by kernel_rfl
theorem k451 : (Try.prog.funcs[173]?).any (okF Try.prog fm c_slices_nextPowerOfTwo) = true := by kernel_rfl
theorem k452 : (Try.prog.funcs[174]?).any (okF Try.prog fm c___slices_xorshift__Next) = true := by kernel_rfl
theorem k453 : (Try.prog.funcs[175]?).any (okF Try.prog fm c_slices_medianAdjacentCmpFunc___int64_) = true := by kernel_rfl
theorem k454 : (Try.prog.funcs[176]?).any (okF Try.prog fm c_slices_medianCmpFunc___int64_) = true := by kernel_rfl
theorem k465 : (Try.prog.funcs[178]?).any (okF Try.prog fm c_slices_order2CmpFunc___int64_) = true := by kernel_rfl
def tab : List (Nat × F) := [(122, (lw_I 255 256)), (14, c_laws_szSolution), (16, c_laws_toSolution), (7, c_laws_toInt64S), (18, c_laws_eqSolution), (9, c_laws_eqInt64S), (21, c_laws_eqInt64SS), (22, c_laws_markSolution), (12, c_laws_markInt64S), (23, c_laws_markInt64SS), (13, c_laws_heldInt64S), (255, c_spec_GarsideWord), (256, c_impl_GarsideWord), (27, c_laws_szInt64SS), (339, c_spec_l09Class), (32, c_laws_toInt64SS), (296, c_spec_l09Normals), (42, c_impl_IsSolution), (35, c_impl_within), (294, c_impl_normalWords), (349, c_spec_l01Put), (313, c_slices_SortFunc_____int64___int64_), (314, c_slices_Compare___int64_int64_), (41, c_spec_l02Is), (30, c_spec_l01In), (350, c_spec_l02Good), (351, c_spec_l02Twice), (69, c_spec_l01Index), (285, c_impl_isNondegenerate), (298, c_impl_isInvolutive), (352, c_impl_wordClass), (63, c_slices_ContainsFunc_____int64___int64_), (62, c_spec_l01Has), (372, c_slices_Contains___bool_bool_), (45, c_laws_szInt64S), (406, c_spec_l02Inverse), (31, c_spec_l01Own), (68, c_spec_l02Do), (280, c_spec_l01Own2), (67, c_spec_l01Same), (70, c_slices_IndexFunc_____int64___int64_), (408, c_spec_l01Less), (36, c_slices_Clone___int64_int64_), (59, c_impl_IsPairMap), (60, c_impl_collisionOf), (61, c_impl_equationFault), (262, c_impl_tupleOf), (263, c_impl_numberOf), (393, c_slices_pdqsortCmpFunc___int64_), (394, c_math_bits_Len), (395, c_cmp_Compare_int64_), (56, c_spec_l02Map), (57, c_spec_l02Collision), (58, c_spec_l02Fault), (410, c_spec_l01Rows), (265, c_spec_l01Turn), (54, c_impl_allWithin), (51, c_impl_permutationRows), (267, c_impl_transposed), (411, c_impl_InverseSolution), (312, c_impl_digitsText), (44, c_impl_moved), (426, c_slices_Index___bool_bool_), (398, c_spec_l02Empty), (50, c_impl_IsTable), (433, c_slices_insertionSortCmpFunc___int64_), (434, c_slices_heapSortCmpFunc___int64_), (435, c_slices_breakPatternsCmpFunc___int64_), (436, c_slices_choosePivotCmpFunc___int64_), (437, c_slices_reverseRangeCmpFunc___int64_), (438, c_slices_partialInsertionSortCmpFunc___int64_), (439, c_slices_partitionEqualCmpFunc___int64_), (440, c_slices_partitionCmpFunc___int64_), (441, c_math_bits_Len32), (442, c_math_bits_Len64), (443, c_cmp_isNaN_int64_), (46, c_spec_l01Table), (47, c_spec_l01Perm), (375, c_spec_l01Column), (65, c_impl_permutationRows_1), (66, c_impl_isPermuted), (376, c_impl_tableBy), (377, c_impl_transposed_1), (275, c_impl_cloneTable), (64, c_impl_IsTable_1), (450, c_slices_siftDownCmpFunc___int64_), (451, c_slices_nextPowerOfTwo), (452, c___slices_xorshift__Next), (453, c_slices_medianAdjacentCmpFunc___int64_), (454, c_slices_medianCmpFunc___int64_), (465, c_slices_order2CmpFunc___int64_)]
def pg : Pg := { fn := fun f => (tab.find? fun x => x.1 == f).map (·.2) }
theorem all_ok : ∀ x, x ∈ tab → (Try.prog.funcs[fm x.1]?).any (okF Try.prog fm x.2) = true := by
  intro x hx
  unfold tab at hx
  simp only [List.mem_cons, List.not_mem_nil, or_false] at hx
  rcases hx with rfl | rfl | rfl | rfl | rfl | rfl | rfl | rfl | rfl | rfl | rfl | rfl | rfl | rfl | rfl | rfl | rfl | rfl | rfl | rfl | rfl | rfl | rfl | rfl | rfl | rfl | rfl | rfl | rfl | rfl | rfl | rfl | rfl | rfl | rfl | rfl | rfl | rfl | rfl | rfl | rfl | rfl | rfl | rfl | rfl | rfl | rfl | rfl | rfl | rfl | rfl | rfl | rfl | rfl | rfl | rfl | rfl | rfl | rfl | rfl | rfl | rfl | rfl | rfl | rfl | rfl | rfl | rfl | rfl | rfl | rfl | rfl | rfl | rfl | rfl | rfl | rfl | rfl | rfl | rfl | rfl | rfl | rfl | rfl | rfl | rfl | rfl | rfl | rfl | rfl | rfl
  · exact k122
  · exact k14
  · exact k16
  · exact k7
  · exact k18
  · exact k9
  · exact k21
  · exact k22
  · exact k12
  · exact k23
  · exact k13
  · exact k255
  · exact k256
  · exact k27
  · exact k339
  · exact k32
  · exact k296
  · exact k42
  · exact k35
  · exact k294
  · exact k349
  · exact k313
  · exact k314
  · exact k41
  · exact k30
  · exact k350
  · exact k351
  · exact k69
  · exact k285
  · exact k298
  · exact k352
  · exact k63
  · exact k62
  · exact k372
  · exact k45
  · exact k406
  · exact k31
  · exact k68
  · exact k280
  · exact k67
  · exact k70
  · exact k408
  · exact k36
  · exact k59
  · exact k60
  · exact k61
  · exact k262
  · exact k263
  · exact k393
  · exact k394
  · exact k395
  · exact k56
  · exact k57
  · exact k58
  · exact k410
  · exact k265
  · exact k54
  · exact k51
  · exact k267
  · exact k411
  · exact k312
  · exact k44
  · exact k426
  · exact k398
  · exact k50
  · exact k433
  · exact k434
  · exact k435
  · exact k436
  · exact k437
  · exact k438
  · exact k439
  · exact k440
  · exact k441
  · exact k442
  · exact k443
  · exact k46
  · exact k47
  · exact k375
  · exact k65
  · exact k66
  · exact k376
  · exact k377
  · exact k275
  · exact k64
  · exact k450
  · exact k451
  · exact k452
  · exact k453
  · exact k454
  · exact k465
theorem follows : Try.prog.follows .mixedOrders = true := by kernel_rfl
theorem prog_ok : ∀ f F, pg.fn f = some F → ∃ fn, Try.prog.funcs[fm f]? = some fn ∧ okF Try.prog fm F fn = true := by
  intro f F h
  simp only [pg, Option.map_eq_some_iff] at h
  obtain ⟨x, h1, rfl⟩ := h
  have hm := List.mem_of_find?_eq_some h1
  have he := List.find?_some h1
  simp only [beq_iff_eq] at he
  have := all_ok x hm
  rw [he] at this
  rw [Option.any_eq_true] at this
  exact this
theorem pact {f : Nat} {args args' : List T} {r : T} (h : Go.Mch.Call pg f args args' r) : Pact Try.prog fm f args args' r :=
  sound follows (fun _ _ _ _ h => False.elim h) prog_ok h
end Go.Proofs.Ytmfppjjjamemnaa.Tie
