/- The compact code of the functions is this seat's program's: what the machine calls good, the program does. -/
import Derived.Test.YtmeimdfldiaboaaRows
import Derived.KernelRfl
import Derived.Test.YtmeimdfldiaboaaM3
import Derived.Test.YtmeimdfldiaboaaYeA
import Derived.Test.YtmeimdfldiaboaaYeB
import Derived.Test.YtmeimdfldiaboaaYeC
import Derived.Test.YtmeimdfldiaboaaYeD
import Derived.Test.YtmeimdfldiaboaaYeE
import Derived.Test.YtmeimdfldiaboaaP1
namespace Go.Proofs.Ytmeimdfldiaboaa.Tie
open Go.Mch
def fmL : List Nat := [0, 0, 0, 0, 0, 0, 0, 7, 0, 11, 0, 0, 13, 29, 4, 0, 6, 0, 10, 0, 0, 9, 12, 14, 15, 0, 0, 16, 0, 18, 48, 35, 21, 0, 23, 63, 24, 0, 0, 42, 0, 17, 22, 36, 26, 30, 46, 0, 0, 34, 50, 0, 0, 0, 51, 0, 31, 32, 33, 39, 40, 41, 0, 64, 65, 0, 0, 38, 47, 0, 71, 0, 0, 0, 0, 0, 0, 0, 0, 0, 0, 0, 0, 0, 0, 0, 0, 0, 0, 0, 0, 0, 0, 0, 0, 0, 0, 0, 0, 0, 0, 0, 0, 3, 0, 0, 0, 0, 0, 0, 0, 0, 0, 0, 0, 0, 0, 0, 0, 0, 0, 0, 0, 0, 0, 0, 0, 0, 0, 0, 0, 0, 0, 0, 0, 0, 0, 0, 0, 0, 0, 0, 0, 0, 0, 0, 0, 0, 0, 0, 0, 0, 0, 0, 0, 0, 0, 0, 0, 0, 0, 0, 0, 0, 0, 0, 0, 0, 0, 0, 0, 0, 0, 0, 0, 0, 8, 5, 0, 0, 0, 0, 0, 0, 0, 0, 0, 0, 0, 0, 0, 0, 0, 0, 0, 0, 0, 0, 0, 0, 0, 0, 0, 0, 0, 0, 0, 0, 0, 0, 0, 0, 0, 0, 0, 0, 0, 0, 0, 0, 0, 0, 0, 0, 0, 0, 0, 0, 0, 0, 0, 0, 0, 0, 0, 0, 0, 0, 0, 0, 0, 0, 0, 0, 0, 0, 0, 0, 0, 0, 0, 0, 0, 0, 0, 0, 0, 0, 0, 0, 0, 0, 0, 0, 0, 0, 0, 0, 0, 0, 0, 0, 0, 0, 0, 0, 0, 0, 0, 0, 20, 0, 0, 0, 0, 0, 0, 0, 0, 0, 0, 0, 0, 0, 0, 0, 0, 0, 0, 0, 0, 0, 0, 0, 0, 0, 0, 0, 0, 0, 0, 0, 25, 27, 28, 19, 0, 0, 0, 0, 0, 0, 0, 0, 0, 0, 0, 0, 0, 0, 0, 0, 0, 0, 0, 0, 0, 0, 0, 0, 0, 0, 0, 0, 0, 0, 0, 0, 0, 0, 0, 0, 0, 0, 0, 0, 0, 0, 0, 0, 0, 0, 0, 0, 0, 0, 0, 0, 0, 0, 0, 0, 0, 0, 0, 0, 0, 0, 0, 0, 0, 0, 0, 0, 0, 0, 0, 0, 0, 0, 0, 0, 0, 43, 44, 45, 37, 0, 0, 0, 0, 0, 0, 0, 0, 0, 0, 0, 49, 0, 0, 0, 0, 0, 0, 0, 0, 0, 0, 0, 0, 0, 0, 0, 0, 0, 0, 0, 0, 0, 0, 0, 0, 52, 53, 54, 55, 56, 57, 58, 59, 60, 61, 62, 0, 0, 0, 0, 0, 0, 66, 67, 68, 69, 70, 0, 0, 0, 0, 0, 0, 0, 0, 0, 0, 72]
def fm (k : Nat) : Nat := fmL.getD k 0
theorem k103 : (Try.prog.funcs[3]?).any (okF Try.prog fm (lw_wT 177 176)) = true := by kernel_rfl
theorem k14 : (Try.prog.funcs[4]?).any (okF Try.prog fm c_laws_szSolution) = true := by kernel_rfl
theorem k177 : (Try.prog.funcs[5]?).any (okF Try.prog fm c_spec_TupleOrbit) = true := by kernel_rfl
theorem k16 : (Try.prog.funcs[6]?).any (okF Try.prog fm c_laws_toSolution) = true := by kernel_rfl
theorem k7 : (Try.prog.funcs[7]?).any (okF Try.prog fm c_laws_toInt64S) = true := by kernel_rfl
theorem k176 : (Try.prog.funcs[8]?).any (okF Try.prog fm c_impl_TupleOrbit) = true := by kernel_rfl
theorem k21 : (Try.prog.funcs[9]?).any (okF Try.prog fm c_laws_eqInt64SS) = true := by kernel_rfl
theorem k18 : (Try.prog.funcs[10]?).any (okF Try.prog fm c_laws_eqSolution) = true := by kernel_rfl
theorem k9 : (Try.prog.funcs[11]?).any (okF Try.prog fm c_laws_eqInt64S) = true := by kernel_rfl
theorem k22 : (Try.prog.funcs[12]?).any (okF Try.prog fm c_laws_markSolution) = true := by kernel_rfl
theorem k12 : (Try.prog.funcs[13]?).any (okF Try.prog fm c_laws_markInt64S) = true := by kernel_rfl
theorem k23 : (Try.prog.funcs[14]?).any (okF Try.prog fm c_laws_markInt64SS) = true := by kernel_rfl
theorem k24 : (Try.prog.funcs[15]?).any (okF Try.prog fm c_laws_heldInt64SS) = true := by kernel_rfl
theorem k27 : (Try.prog.funcs[16]?).any (okF Try.prog fm c_laws_szInt64SS) = true := by kernel_rfl
theorem k41 : (Try.prog.funcs[17]?).any (okF Try.prog fm c_spec_l02Is) = true := by kernel_rfl
theorem k29 : (Try.prog.funcs[18]?).any (okF Try.prog fm c_spec_l06Tuple) = true := by kernel_rfl
theorem k315 : (Try.prog.funcs[19]?).any (okF Try.prog fm c_spec_l06Reach) = true := by kernel_rfl
theorem k280 : (Try.prog.funcs[20]?).any (okF Try.prog fm c_spec_l01Own2) = true := by kernel_rfl
theorem k32 : (Try.prog.funcs[21]?).any (okF Try.prog fm c_laws_toInt64SS) = true := by kernel_rfl
theorem k42 : (Try.prog.funcs[22]?).any (okF Try.prog fm c_impl_IsSolution) = true := by kernel_rfl
theorem k34 : (Try.prog.funcs[23]?).any (okF Try.prog fm c_impl_isTuple) = true := by kernel_rfl
theorem k36 : (Try.prog.funcs[24]?).any (okF Try.prog fm c_slices_Clone___int64_int64_) = true := by kernel_rfl
theorem k312 : (Try.prog.funcs[25]?).any (okF Try.prog fm c_impl_digitsText) = true := by kernel_rfl
theorem k44 : (Try.prog.funcs[26]?).any (okF Try.prog fm c_impl_moved) = true := by kernel_rfl
theorem k313 : (Try.prog.funcs[27]?).any (okF Try.prog fm c_slices_SortFunc_____int64___int64_) = true := by kernel_rfl
theorem k314 : (Try.prog.funcs[28]?).any (okF Try.prog fm c_slices_Compare___int64_int64_) = true := by kernel_rfl
theorem k13 : (Try.prog.funcs[29]?).any (okF Try.prog fm c_laws_heldInt64S) = true := by kernel_rfl
theorem k45 : (Try.prog.funcs[30]?).any (okF Try.prog fm c_laws_szInt64S) = true := by kernel_rfl
theorem k56 : (Try.prog.funcs[31]?).any (okF Try.prog fm c_spec_l02Map) = true := by kernel_rfl
theorem k57 : (Try.prog.funcs[32]?).any (okF Try.prog fm c_spec_l02Collision) = true := by kernel_rfl
theorem k58 : (Try.prog.funcs[33]?).any (okF Try.prog fm c_spec_l02Fault) = true := by kernel_rfl
theorem k49 : (Try.prog.funcs[34]?).any (okF Try.prog fm c_spec_l04Elements) = true := by kernel_rfl
theorem k31 : (Try.prog.funcs[35]?).any (okF Try.prog fm c_spec_l01Own) = true := by kernel_rfl
theorem k43 : (Try.prog.funcs[36]?).any (okF Try.prog fm c_spec_l06Move) = true := by kernel_rfl
theorem k396 : (Try.prog.funcs[37]?).any (okF Try.prog fm c_spec_l03Search) = true := by kernel_rfl
theorem k67 : (Try.prog.funcs[38]?).any (okF Try.prog fm c_spec_l01Same) = true := by kernel_rfl
theorem k59 : (Try.prog.funcs[39]?).any (okF Try.prog fm c_impl_IsPairMap) = true := by kernel_rfl
theorem k60 : (Try.prog.funcs[40]?).any (okF Try.prog fm c_impl_collisionOf) = true := by kernel_rfl
theorem k61 : (Try.prog.funcs[41]?).any (okF Try.prog fm c_impl_equationFault) = true := by kernel_rfl
theorem k39 : (Try.prog.funcs[42]?).any (okF Try.prog fm c_impl_areElements) = true := by kernel_rfl
theorem k393 : (Try.prog.funcs[43]?).any (okF Try.prog fm c_slices_pdqsortCmpFunc___int64_) = true := by kernel_rfl
theorem k394 : (Try.prog.funcs[44]?).any (okF Try.prog fm c_math_bits_Len) = true := by kernel_rfl
theorem k395 : (Try.prog.funcs[45]?).any (okF Try.prog fm c_cmp_Compare_int64_) = true := by kernel_rfl
theorem k46 : (Try.prog.funcs[46]?).any (okF Try.prog fm c_spec_l01Table) = true := by kernel_rfl
theorem k68 : (Try.prog.funcs[47]?).any (okF Try.prog fm c_spec_l02Do) = true := by kernel_rfl
theorem k30 : (Try.prog.funcs[48]?).any (okF Try.prog fm c_spec_l01In) = true := by kernel_rfl
theorem k408 : (Try.prog.funcs[49]?).any (okF Try.prog fm c_spec_l01Less) = true := by kernel_rfl
theorem k50 : (Try.prog.funcs[50]?).any (okF Try.prog fm c_impl_IsTable) = true := by kernel_rfl
theorem k54 : (Try.prog.funcs[51]?).any (okF Try.prog fm c_impl_allWithin) = true := by kernel_rfl
theorem k433 : (Try.prog.funcs[52]?).any (okF Try.prog fm c_slices_insertionSortCmpFunc___int64_) = true := by kernel_rfl
theorem k434 : (Try.prog.funcs[53]?).any (okF Try.prog fm c_slices_heapSortCmpFunc___int64_) = true := by kernel_rfl
theorem k435 : (Try.prog.funcs[54]?).any (okF Try.prog fm c_slices_breakPatternsCmpFunc___int64_) = true := by kernel_rfl
theorem k436 : (Try.prog.funcs[55]?).any (okF Try.prog fm c_slices_choosePivotCmpFunc___int64_) = true := by kernel_rfl
theorem k437 : (Try.prog.funcs[56]?).any (okF Try.prog fm c_slices_reverseRangeCmpFunc___int64_) = true := by kernel_rfl
theorem k438 : (Try.prog.funcs[57]?).any (okF Try.prog fm c_slices_partialInsertionSortCmpFunc___int64_) = true := by kernel_rfl
theorem k439 : (Try.prog.funcs[58]?).any (okF Try.prog fm c_slices_partitionEqualCmpFunc___int64_) = true := by kernel_rfl
theorem k440 : (Try.prog.funcs[59]?).any (okF Try.prog fm c_slices_partitionCmpFunc___int64_) = true := by kernel_rfl
theorem k441 : (Try.prog.funcs[60]?).any (okF Try.prog fm c_math_bits_Len32) = true := by kernel_rfl
theorem k442 : (Try.prog.funcs[61]?).any (okF Try.prog fm c_math_bits_Len64) = true := by kernel_rfl
theorem k443 : (Try.prog.funcs[62]?).any (okF Try.prog fm c_cmp_isNaN_int64_) = true := by kernel_rfl
theorem k35 : (Try.prog.funcs[63]?).any (okF Try.prog fm c_impl_within) = true := by kernel_rfl
theorem k63 : (Try.prog.funcs[64]?).any (okF Try.prog fm c_slices_ContainsFunc_____int64___int64_) = true := by kernel_rfl
theorem k64 : (Try.prog.funcs[65]?).any (okF Try.prog fm c_impl_IsTable_1) = true := by kernel_rfl
theorem k450 : (Try.prog.funcs[66]?).any (okF Try.prog fm c_slices_siftDownCmpFunc___int64_) = true := by kernel_rfl
theorem k451 : (Try.prog.funcs[67]?).any (okF Try.prog fm c_slices_nextPowerOfTwo) = true := by kernel_rfl
theorem k452 : (Try.prog.funcs[68]?).any (okF Try.prog fm c___slices_xorshift__Next) = true := by kernel_rfl
theorem k453 : (Try.prog.funcs[69]?).any (okF Try.prog fm c_slices_medianAdjacentCmpFunc___int64_) = true := by kernel_rfl
theorem k454 : (Try.prog.funcs[70]?).any (okF Try.prog fm c_slices_medianCmpFunc___int64_) = true := by kernel_rfl
theorem k70 : (Try.prog.funcs[71]?).any (okF Try.prog fm c_slices_IndexFunc_____int64___int64_) = true := by kernel_rfl
theorem k465 : (Try.prog.funcs[72]?).any (okF Try.prog fm c_slices_order2CmpFunc___int64_) = true := by kernel_rfl
def tab : List (Nat × F) := [(103, (lw_wT 177 176)), (14, c_laws_szSolution), (177, c_spec_TupleOrbit), (16, c_laws_toSolution), (7, c_laws_toInt64S), (176, c_impl_TupleOrbit), (21, c_laws_eqInt64SS), (18, c_laws_eqSolution), (9, c_laws_eqInt64S), (22, c_laws_markSolution), (12, c_laws_markInt64S), (23, c_laws_markInt64SS), (24, c_laws_heldInt64SS), (27, c_laws_szInt64SS), (41, c_spec_l02Is), (29, c_spec_l06Tuple), (315, c_spec_l06Reach), (280, c_spec_l01Own2), (32, c_laws_toInt64SS), (42, c_impl_IsSolution), (34, c_impl_isTuple), (36, c_slices_Clone___int64_int64_), (312, c_impl_digitsText), (44, c_impl_moved), (313, c_slices_SortFunc_____int64___int64_), (314, c_slices_Compare___int64_int64_), (13, c_laws_heldInt64S), (45, c_laws_szInt64S), (56, c_spec_l02Map), (57, c_spec_l02Collision), (58, c_spec_l02Fault), (49, c_spec_l04Elements), (31, c_spec_l01Own), (43, c_spec_l06Move), (396, c_spec_l03Search), (67, c_spec_l01Same), (59, c_impl_IsPairMap), (60, c_impl_collisionOf), (61, c_impl_equationFault), (39, c_impl_areElements), (393, c_slices_pdqsortCmpFunc___int64_), (394, c_math_bits_Len), (395, c_cmp_Compare_int64_), (46, c_spec_l01Table), (68, c_spec_l02Do), (30, c_spec_l01In), (408, c_spec_l01Less), (50, c_impl_IsTable), (54, c_impl_allWithin), (433, c_slices_insertionSortCmpFunc___int64_), (434, c_slices_heapSortCmpFunc___int64_), (435, c_slices_breakPatternsCmpFunc___int64_), (436, c_slices_choosePivotCmpFunc___int64_), (437, c_slices_reverseRangeCmpFunc___int64_), (438, c_slices_partialInsertionSortCmpFunc___int64_), (439, c_slices_partitionEqualCmpFunc___int64_), (440, c_slices_partitionCmpFunc___int64_), (441, c_math_bits_Len32), (442, c_math_bits_Len64), (443, c_cmp_isNaN_int64_), (35, c_impl_within), (63, c_slices_ContainsFunc_____int64___int64_), (64, c_impl_IsTable_1), (450, c_slices_siftDownCmpFunc___int64_), (451, c_slices_nextPowerOfTwo), (452, c___slices_xorshift__Next), (453, c_slices_medianAdjacentCmpFunc___int64_), (454, c_slices_medianCmpFunc___int64_), (70, c_slices_IndexFunc_____int64___int64_), (465, c_slices_order2CmpFunc___int64_)]
def pg : Pg := { fn := fun f => (tab.find? fun x => x.1 == f).map (·.2) }
theorem all_ok : ∀ x, x ∈ tab → (Try.prog.funcs[fm x.1]?).any (okF Try.prog fm x.2) = true := by
  intro x hx
  unfold tab at hx
  simp only [List.mem_cons, List.not_mem_nil, or_false] at hx
  rcases hx with rfl | rfl | rfl | rfl | rfl | rfl | rfl | rfl | rfl | rfl | rfl | rfl | rfl | rfl | rfl | rfl | rfl | rfl | rfl | rfl | rfl | rfl | rfl | rfl | rfl | rfl | rfl | rfl | rfl | rfl | rfl | rfl | rfl | rfl | rfl | rfl | rfl | rfl | rfl | rfl | rfl | rfl | rfl | rfl | rfl | rfl | rfl | rfl | rfl | rfl | rfl | rfl | rfl | rfl | rfl | rfl | rfl | rfl | rfl | rfl | rfl | rfl | rfl | rfl | rfl | rfl | rfl | rfl | rfl | rfl
  · exact k103
  · exact k14
  · exact k177
  · exact k16
  · exact k7
  · exact k176
  · exact k21
  · exact k18
  · exact k9
  · exact k22
  · exact k12
  · exact k23
  · exact k24
  · exact k27
  · exact k41
  · exact k29
  · exact k315
  · exact k280
  · exact k32
  · exact k42
  · exact k34
  · exact k36
  · exact k312
  · exact k44
  · exact k313
  · exact k314
  · exact k13
  · exact k45
  · exact k56
  · exact k57
  · exact k58
  · exact k49
  · exact k31
  · exact k43
  · exact k396
  · exact k67
  · exact k59
  · exact k60
  · exact k61
  · exact k39
  · exact k393
  · exact k394
  · exact k395
  · exact k46
  · exact k68
  · exact k30
  · exact k408
  · exact k50
  · exact k54
  · exact k433
  · exact k434
  · exact k435
  · exact k436
  · exact k437
  · exact k438
  · exact k439
  · exact k440
  · exact k441
  · exact k442
  · exact k443
  · exact k35
  · exact k63
  · exact k64
  · exact k450
  · exact k451
  · exact k452
  · exact k453
  · exact k454
  · exact k70
  · exact k465
theorem follows : Try.prog.follows .mixedOrders = true := by kernel_rfl
theorem prog_ok : ∀ f F, pg.fn f = some F → ∃ fn, Try.prog.funcs[fm f]? = some fn ∧ okF Try.prog fm F fn = true := by
  intro f F h
  simp only [pg, Option.map_eq_some_iff] at h
  obtain ⟨x, h1, rfl⟩ := h
  have hm := List.mem_of_find?_eq_some h1
  have he := List.find?_some h1
  simp only [beq_iff_eq] at he
  have := all_ok x hm
  rw [he] at this
  rw [Option.any_eq_true] at this
  exact this
theorem pact {f : Nat} {args args' : List T} {r : T} (h : Go.Mch.Call pg f args args' r) : Pact Try.prog fm f args args' r :=
  sound follows (fun _ _ _ _ h => False.elim h) prog_ok h
end Go.Proofs.Ytmeimdfldiaboaa.Tie
