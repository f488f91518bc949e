/- The compact code of the functions is this seat's program's: what the machine calls good, the program does. -/
import Derived.Test.YtbjgmanbanhhiaaRows
import Derived.KernelRfl
import Derived.Test.YtbjgmanbanhhiaaM3
import Derived.Test.YtbjgmanbanhhiaaYeA
import Derived.Test.YtbjgmanbanhhiaaYeB
import Derived.Test.YtbjgmanbanhhiaaYeC
import Derived.Test.YtbjgmanbanhhiaaYeD
import Derived.Test.YtbjgmanbanhhiaaYeE
import Derived.Test.YtbjgmanbanhhiaaP1
namespace Go.Proofs.Ytbjgmanbanhhiaa.Tie
open Go.Mch
def fmL : List Nat := [0, 0, 0, 0, 0, 0, 0, 32, 0, 28, 0, 0, 29, 30, 15, 0, 17, 0, 19, 0, 0, 34, 24, 35, 36, 0, 0, 54, 0, 78, 70, 133, 57, 0, 82, 152, 83, 0, 0, 74, 0, 77, 81, 134, 85, 104, 165, 0, 0, 132, 159, 0, 0, 0, 127, 0, 129, 130, 131, 119, 136, 137, 0, 150, 184, 0, 0, 111, 143, 0, 146, 0, 0, 0, 0, 0, 0, 0, 0, 0, 0, 0, 0, 0, 0, 0, 0, 0, 0, 0, 0, 0, 0, 0, 0, 0, 0, 0, 0, 0, 0, 0, 0, 7, 0, 0, 0, 0, 0, 0, 0, 0, 0, 0, 0, 0, 0, 0, 0, 0, 0, 0, 0, 0, 0, 0, 0, 0, 0, 0, 0, 0, 0, 0, 0, 0, 0, 0, 0, 0, 0, 0, 0, 0, 0, 0, 0, 0, 0, 0, 0, 0, 0, 0, 0, 0, 0, 0, 0, 0, 0, 0, 0, 0, 0, 0, 0, 0, 0, 0, 0, 0, 0, 0, 0, 0, 33, 31, 0, 0, 0, 0, 0, 0, 0, 0, 0, 0, 0, 0, 0, 0, 0, 0, 0, 0, 0, 0, 0, 0, 0, 0, 0, 0, 0, 0, 0, 0, 0, 0, 0, 0, 0, 0, 0, 0, 0, 0, 0, 0, 0, 0, 0, 0, 0, 0, 0, 0, 0, 0, 0, 0, 0, 0, 0, 0, 0, 0, 0, 0, 0, 0, 0, 0, 0, 0, 0, 0, 0, 0, 0, 0, 0, 0, 0, 0, 0, 0, 0, 0, 0, 0, 0, 0, 0, 0, 0, 0, 0, 0, 0, 0, 0, 0, 0, 0, 0, 0, 0, 0, 80, 0, 0, 0, 0, 0, 0, 0, 0, 0, 0, 0, 0, 0, 0, 0, 0, 0, 0, 0, 0, 0, 0, 0, 0, 0, 0, 0, 0, 0, 0, 0, 84, 86, 87, 79, 0, 0, 0, 0, 0, 0, 0, 0, 0, 0, 0, 0, 0, 0, 0, 0, 0, 0, 0, 0, 0, 0, 0, 0, 0, 0, 0, 0, 0, 0, 0, 0, 0, 0, 0, 0, 0, 0, 0, 0, 0, 0, 0, 0, 0, 0, 0, 0, 0, 0, 0, 0, 0, 0, 0, 0, 0, 0, 0, 0, 0, 0, 0, 0, 0, 0, 0, 0, 0, 0, 0, 0, 0, 0, 0, 0, 0, 138, 139, 140, 135, 0, 0, 0, 0, 0, 0, 0, 0, 0, 0, 0, 154, 0, 0, 0, 0, 0, 0, 0, 0, 0, 0, 0, 0, 0, 0, 0, 0, 0, 0, 0, 0, 0, 0, 0, 0, 166, 167, 168, 169, 170, 171, 172, 173, 174, 175, 176, 0, 0, 0, 0, 0, 0, 186, 187, 188, 189, 190, 0, 0, 0, 0, 0, 0, 0, 0, 0, 0, 192]
def fm (k : Nat) : Nat := fmL.getD k 0
theorem k103 : (Try.prog.funcs[7]?).any (okF Try.prog fm (lw_wT 177 176)) = true := by kernel_rfl
theorem k14 : (Try.prog.funcs[15]?).any (okF Try.prog fm c_laws_szSolution) = true := by kernel_rfl
theorem k16 : (Try.prog.funcs[17]?).any (okF Try.prog fm c_laws_toSolution) = true := by kernel_rfl
theorem k18 : (Try.prog.funcs[19]?).any (okF Try.prog fm c_laws_eqSolution) = true := by kernel_rfl
theorem k22 : (Try.prog.funcs[24]?).any (okF Try.prog fm c_laws_markSolution) = true := by kernel_rfl
theorem k9 : (Try.prog.funcs[28]?).any (okF Try.prog fm c_laws_eqInt64S) = true := by kernel_rfl
theorem k12 : (Try.prog.funcs[29]?).any (okF Try.prog fm c_laws_markInt64S) = true := by kernel_rfl
theorem k13 : (Try.prog.funcs[30]?).any (okF Try.prog fm c_laws_heldInt64S) = true := by kernel_rfl
theorem k177 : (Try.prog.funcs[31]?).any (okF Try.prog fm c_spec_TupleOrbit) = true := by kernel_rfl
theorem k7 : (Try.prog.funcs[32]?).any (okF Try.prog fm c_laws_toInt64S) = true := by kernel_rfl
theorem k176 : (Try.prog.funcs[33]?).any (okF Try.prog fm c_impl_TupleOrbit) = true := by kernel_rfl
theorem k21 : (Try.prog.funcs[34]?).any (okF Try.prog fm c_laws_eqInt64SS) = true := by kernel_rfl
theorem k23 : (Try.prog.funcs[35]?).any (okF Try.prog fm c_laws_markInt64SS) = true := by kernel_rfl
theorem k24 : (Try.prog.funcs[36]?).any (okF Try.prog fm c_laws_heldInt64SS) = true := by kernel_rfl
theorem k27 : (Try.prog.funcs[54]?).any (okF Try.prog fm c_laws_szInt64SS) = true := by kernel_rfl
theorem k32 : (Try.prog.funcs[57]?).any (okF Try.prog fm c_laws_toInt64SS) = true := by kernel_rfl
theorem k30 : (Try.prog.funcs[70]?).any (okF Try.prog fm c_spec_l01In) = true := by kernel_rfl
theorem k39 : (Try.prog.funcs[74]?).any (okF Try.prog fm c_impl_areElements) = true := by kernel_rfl
theorem k41 : (Try.prog.funcs[77]?).any (okF Try.prog fm c_spec_l02Is) = true := by kernel_rfl
theorem k29 : (Try.prog.funcs[78]?).any (okF Try.prog fm c_spec_l06Tuple) = true := by kernel_rfl
theorem k315 : (Try.prog.funcs[79]?).any (okF Try.prog fm c_spec_l06Reach) = true := by kernel_rfl
theorem k280 : (Try.prog.funcs[80]?).any (okF Try.prog fm c_spec_l01Own2) = true := by kernel_rfl
theorem k42 : (Try.prog.funcs[81]?).any (okF Try.prog fm c_impl_IsSolution) = true := by kernel_rfl
theorem k34 : (Try.prog.funcs[82]?).any (okF Try.prog fm c_impl_isTuple) = true := by kernel_rfl
theorem k36 : (Try.prog.funcs[83]?).any (okF Try.prog fm c_slices_Clone___int64_int64_) = true := by kernel_rfl
theorem k312 : (Try.prog.funcs[84]?).any (okF Try.prog fm c_impl_digitsText) = true := by kernel_rfl
theorem k44 : (Try.prog.funcs[85]?).any (okF Try.prog fm c_impl_moved) = true := by kernel_rfl
theorem k313 : (Try.prog.funcs[86]?).any (okF Try.prog fm c_slices_SortFunc_____int64___int64_) = true := by kernel_rfl
theorem k314 : (Try.prog.funcs[87]?).any (okF Try.prog fm c_slices_Compare___int64_int64_) = true := by kernel_rfl
theorem k45 : (Try.prog.funcs[104]?).any (okF Try.prog fm c_laws_szInt64S) = true := by kernel_rfl
theorem k67 : (Try.prog.funcs[111]?).any (okF Try.prog fm c_spec_l01Same) = true := by kernel_rfl
theorem k59 : (Try.prog.funcs[119]?).any (okF Try.prog fm c_impl_IsPairMap) = true := by kernel_rfl
theorem k54 : (Try.prog.funcs[127]?).any (okF Try.prog fm c_impl_allWithin) = true := by kernel_rfl
theorem k56 : (Try.prog.funcs[129]?).any (okF Try.prog fm c_spec_l02Map) = true := by kernel_rfl
theorem k57 : (Try.prog.funcs[130]?).any (okF Try.prog fm c_spec_l02Collision) = true := by kernel_rfl
theorem k58 : (Try.prog.funcs[131]?).any (okF Try.prog fm c_spec_l02Fault) = true := by kernel_rfl
theorem k49 : (Try.prog.funcs[132]?).any (okF Try.prog fm c_spec_l04Elements) = true := by kernel_rfl
theorem k31 : (Try.prog.funcs[133]?).any (okF Try.prog fm c_spec_l01Own) = true := by kernel_rfl
theorem k43 : (Try.prog.funcs[134]?).any (okF Try.prog fm c_spec_l06Move) = true := by kernel_rfl
theorem k396 : (Try.prog.funcs[135]?).any (okF Try.prog fm c_spec_l03Search) = true := by kernel_rfl
theorem k60 : (Try.prog.funcs[136]?).any (okF Try.prog fm c_impl_collisionOf) = true := by kernel_rfl
theorem k61 : (Try.prog.funcs[137]?).any (okF Try.prog fm c_impl_equationFault) = true := by kernel_rfl
theorem k393 : (Try.prog.funcs[138]?).any (okF Try.prog fm c_slices_pdqsortCmpFunc___int64_) = true := by kernel_rfl
theorem k394 : (Try.prog.funcs[139]?).any (okF Try.prog fm c_math_bits_Len) = true := by kernel_rfl
theorem k395 : (Try.prog.funcs[140]?).any (okF Try.prog fm c_cmp_Compare_int64_) = true := by kernel_rfl
theorem k68 : (Try.prog.funcs[143]?).any (okF Try.prog fm c_spec_l02Do) = true := by kernel_rfl
theorem k70 : (Try.prog.funcs[146]?).any (okF Try.prog fm c_slices_IndexFunc_____int64___int64_) = true := by kernel_rfl
theorem k63 : (Try.prog.funcs[150]?).any (okF Try.prog fm c_slices_ContainsFunc_____int64___int64_) = true := by kernel_rfl
theorem k35 : (Try.prog.funcs[152]?).any (okF Try.prog fm c_impl_within) = true := by kernel_rfl
theorem k408 : (Try.prog.funcs[154]?).any (okF Try.prog fm c_spec_l01Less) = true := by kernel_rfl
theorem k50 : (Try.prog.funcs[159]?).any (okF Try.prog fm c_impl_IsTable) = true := by kernel_rfl
theorem k46 : (Try.prog.funcs[165]?).any (okF Try.prog fm c_spec_l01Table) = true := by kernel_rfl
theorem k433 : (Try.prog.funcs[166]?).any (okF Try.prog fm c_slices_insertionSortCmpFunc___int64_) = true := by kernel_rfl
theorem k434 : (Try.prog.funcs[167]?).any (okF Try.prog fm c_slices_heapSortCmpFunc___int64_) = true := by kernel_rfl
theorem k435 : (Try.prog.funcs[168]?).any (okF Try.prog fm c_slices_breakPatternsCmpFunc___int64_) = true := by kernel_rfl
theorem k436 : (Try.prog.funcs[169]?).any (okF Try.prog fm c_slices_choosePivotCmpFunc___int64_) = true := by kernel_rfl
theorem k437 : (Try.prog.funcs[170]?).any (okF Try.prog fm c_slices_reverseRangeCmpFunc___int64_) = true := by kernel_rfl
theorem k438 : (Try.prog.funcs[171]?).any (okF Try.prog fm c_slices_partialInsertionSortCmpFunc___int64_) = true := by kernel_rfl
theorem k439 : (Try.prog.funcs[172]?).any (okF Try.prog fm c_slices_partitionEqualCmpFunc___int64_) = true := by kernel_rfl
theorem k440 : (Try.prog.funcs[173]?).any (okF Try.prog fm c_slices_partitionCmpFunc___int64_) = true := by kernel_rfl
theorem k441 : (Try.prog.funcs[174]?).any (okF Try.prog fm c_math_bits_Len32) = true := by kernel_rfl
theorem k442 : (Try.prog.funcs[175]?).any (okF Try.prog fm c_math_bits_Len64) = true := by kernel_rfl
theorem k443 : (Try.prog.funcs[176]?).any (okF Try.prog fm c_cmp_isNaN_int64_) = true := by kernel_rfl
theorem k64 : (Try.prog.funcs[184]?).any (okF Try.prog fm c_impl_IsTable_1) = true := by kernel_rfl
theorem k450 : (Try.prog.funcs[186]?).any (okF Try.prog fm c_slices_siftDownCmpFunc___int64_) = true := by kernel_rfl
theorem k451 : (Try.prog.funcs[187]?).any (okF Try.prog fm c_slices_nextPowerOfTwo) = true := by kernel_rfl
theorem k452 : (Try.prog.funcs[188]?).any (okF Try.prog fm c___slices_xorshift__Next) = true := by kernel_rfl
theorem k453 : (Try.prog.funcs[189]?).any (okF Try.prog fm c_slices_medianAdjacentCmpFunc___int64_) = true := by kernel_rfl
theorem k454 : (Try.prog.funcs[190]?).any (okF Try.prog fm c_slices_medianCmpFunc___int64_) = true := by kernel_rfl
theorem k465 : (Try.prog.funcs[192]?).any (okF Try.prog fm c_slices_order2CmpFunc___int64_) = true := by kernel_rfl
def tab : List (Nat × F) := [(103, (lw_wT 177 176)), (14, c_laws_szSolution), (16, c_laws_toSolution), (18, c_laws_eqSolution), (22, c_laws_markSolution), (9, c_laws_eqInt64S), (12, c_laws_markInt64S), (13, c_laws_heldInt64S), (177, c_spec_TupleOrbit), (7, c_laws_toInt64S), (176, c_impl_TupleOrbit), (21, c_laws_eqInt64SS), (23, c_laws_markInt64SS), (24, c_laws_heldInt64SS), (27, c_laws_szInt64SS), (32, c_laws_toInt64SS), (30, c_spec_l01In), (39, c_impl_areElements), (41, c_spec_l02Is), (29, c_spec_l06Tuple), (315, c_spec_l06Reach), (280, c_spec_l01Own2), (42, c_impl_IsSolution), (34, c_impl_isTuple), (36, c_slices_Clone___int64_int64_), (312, c_impl_digitsText), (44, c_impl_moved), (313, c_slices_SortFunc_____int64___int64_), (314, c_slices_Compare___int64_int64_), (45, c_laws_szInt64S), (67, c_spec_l01Same), (59, c_impl_IsPairMap), (54, c_impl_allWithin), (56, c_spec_l02Map), (57, c_spec_l02Collision), (58, c_spec_l02Fault), (49, c_spec_l04Elements), (31, c_spec_l01Own), (43, c_spec_l06Move), (396, c_spec_l03Search), (60, c_impl_collisionOf), (61, c_impl_equationFault), (393, c_slices_pdqsortCmpFunc___int64_), (394, c_math_bits_Len), (395, c_cmp_Compare_int64_), (68, c_spec_l02Do), (70, c_slices_IndexFunc_____int64___int64_), (63, c_slices_ContainsFunc_____int64___int64_), (35, c_impl_within), (408, c_spec_l01Less), (50, c_impl_IsTable), (46, c_spec_l01Table), (433, c_slices_insertionSortCmpFunc___int64_), (434, c_slices_heapSortCmpFunc___int64_), (435, c_slices_breakPatternsCmpFunc___int64_), (436, c_slices_choosePivotCmpFunc___int64_), (437, c_slices_reverseRangeCmpFunc___int64_), (438, c_slices_partialInsertionSortCmpFunc___int64_), (439, c_slices_partitionEqualCmpFunc___int64_), (440, c_slices_partitionCmpFunc___int64_), (441, c_math_bits_Len32), (442, c_math_bits_Len64), (443, c_cmp_isNaN_int64_), (64, c_impl_IsTable_1), (450, c_slices_siftDownCmpFunc___int64_), (451, c_slices_nextPowerOfTwo), (452, c___slices_xorshift__Next), (453, c_slices_medianAdjacentCmpFunc___int64_), (454, c_slices_medianCmpFunc___int64_), (465, c_slices_order2CmpFunc___int64_)]
def pg : Pg := { fn := fun f => (tab.find? fun x => x.1 == f).map (·.2) }
theorem all_ok : ∀ x, x ∈ tab → (Try.prog.funcs[fm x.1]?).any (okF Try.prog fm x.2) = true := by
  intro x hx
  unfold tab at hx
  simp only [List.mem_cons, List.not_mem_nil, or_false] at hx
  rcases hx with rfl | rfl | rfl | rfl | rfl | rfl | rfl | rfl | rfl | rfl | rfl | rfl | rfl | rfl | rfl | rfl | rfl | rfl | rfl | rfl | rfl | rfl | rfl | rfl | rfl | rfl | rfl | rfl | rfl | rfl | rfl | rfl | rfl | rfl | rfl | rfl | rfl | rfl | rfl | rfl | rfl | rfl | rfl | rfl | rfl | rfl | rfl | rfl | rfl | rfl | rfl | rfl | rfl | rfl | rfl | rfl | rfl | rfl | rfl | rfl | rfl | rfl | rfl | rfl | rfl | rfl | rfl | rfl | rfl | rfl
  · exact k103
  · exact k14
  · exact k16
  · exact k18
  · exact k22
  · exact k9
  · exact k12
  · exact k13
  · exact k177
  · exact k7
  · exact k176
  · exact k21
  · exact k23
  · exact k24
  · exact k27
  · exact k32
  · exact k30
  · exact k39
  · exact k41
  · exact k29
  · exact k315
  · exact k280
  · exact k42
  · exact k34
  · exact k36
  · exact k312
  · exact k44
  · exact k313
  · exact k314
  · exact k45
  · exact k67
  · exact k59
  · exact k54
  · exact k56
  · exact k57
  · exact k58
  · exact k49
  · exact k31
  · exact k43
  · exact k396
  · exact k60
  · exact k61
  · exact k393
  · exact k394
  · exact k395
  · exact k68
  · exact k70
  · exact k63
  · exact k35
  · exact k408
  · exact k50
  · exact k46
  · exact k433
  · exact k434
  · exact k435
  · exact k436
  · exact k437
  · exact k438
  · exact k439
  · exact k440
  · exact k441
  · exact k442
  · exact k443
  · exact k64
  · exact k450
  · exact k451
  · exact k452
  · exact k453
  · exact k454
  · exact k465
theorem follows : Try.prog.follows .mixedOrders = true := by kernel_rfl
theorem prog_ok : ∀ f F, pg.fn f = some F → ∃ fn, Try.prog.funcs[fm f]? = some fn ∧ okF Try.prog fm F fn = true := by
  intro f F h
  simp only [pg, Option.map_eq_some_iff] at h
  obtain ⟨x, h1, rfl⟩ := h
  have hm := List.mem_of_find?_eq_some h1
  have he := List.find?_some h1
  simp only [beq_iff_eq] at he
  have := all_ok x hm
  rw [he] at this
  rw [Option.any_eq_true] at this
  exact this
theorem pact {f : Nat} {args args' : List T} {r : T} (h : Go.Mch.Call pg f args args' r) : Pact Try.prog fm f args args' r :=
  sound follows (fun _ _ _ _ h => False.elim h) prog_ok h
end Go.Proofs.Ytbjgmanbanhhiaa.Tie
