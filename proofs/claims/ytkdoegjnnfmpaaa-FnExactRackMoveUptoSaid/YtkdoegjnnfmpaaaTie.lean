/- The compact code of the functions is this seat's program's: what the machine calls good, the program does. -/
import Derived.Test.YtkdoegjnnfmpaaaRows
import Derived.KernelRfl
import Derived.Test.YtkdoegjnnfmpaaaYcC
import Derived.Test.YtkdoegjnnfmpaaaYeA
namespace Go.Proofs.Ytkdoegjnnfmpaaa.Tie
open Go.Mch
def fmL : List Nat := [3, 4, 5, 6, 7, 8, 9, 10, 11, 12, 13, 14, 15, 16, 17, 18, 19, 20, 21, 22, 23, 24, 25, 26, 27, 28, 29, 30, 31, 32, 33, 34, 35, 36, 37, 38, 39, 40, 41, 42, 43, 44, 45, 46, 47, 48, 49, 50, 51, 52, 53, 54, 55, 56, 57, 58, 59, 60, 61, 62, 63, 64, 65, 66, 67, 68, 69, 70, 71, 72, 73]
def fm (k : Nat) : Nat := fmL.getD k 0
theorem k0 : (Try.prog.funcs[3]?).any (okF Try.prog fm c_laws_FnExactRackMove) = true := by kernel_rfl
theorem k1 : (Try.prog.funcs[4]?).any (okF Try.prog fm c_laws_FnExactActWord) = true := by kernel_rfl
theorem k2 : (Try.prog.funcs[5]?).any (okF Try.prog fm c_laws_FnExactFixedPairs) = true := by kernel_rfl
theorem k3 : (Try.prog.funcs[6]?).any (okF Try.prog fm c_laws_FnExactTupleMove) = true := by kernel_rfl
theorem k4 : (Try.prog.funcs[7]?).any (okF Try.prog fm c_laws_szRack) = true := by kernel_rfl
theorem k5 : (Try.prog.funcs[8]?).any (okF Try.prog fm c_spec_RackMove) = true := by kernel_rfl
theorem k6 : (Try.prog.funcs[9]?).any (okF Try.prog fm c_laws_toRack) = true := by kernel_rfl
theorem k7 : (Try.prog.funcs[10]?).any (okF Try.prog fm c_laws_toInt64S) = true := by kernel_rfl
theorem k8 : (Try.prog.funcs[11]?).any (okF Try.prog fm c_impl_RackMove) = true := by kernel_rfl
theorem k9 : (Try.prog.funcs[12]?).any (okF Try.prog fm c_laws_eqInt64S) = true := by kernel_rfl
theorem k10 : (Try.prog.funcs[13]?).any (okF Try.prog fm c_laws_eqRack) = true := by kernel_rfl
theorem k11 : (Try.prog.funcs[14]?).any (okF Try.prog fm c_laws_markRack) = true := by kernel_rfl
theorem k12 : (Try.prog.funcs[15]?).any (okF Try.prog fm c_laws_markInt64S) = true := by kernel_rfl
theorem k13 : (Try.prog.funcs[16]?).any (okF Try.prog fm c_laws_heldInt64S) = true := by kernel_rfl
theorem k14 : (Try.prog.funcs[17]?).any (okF Try.prog fm c_laws_szSolution) = true := by kernel_rfl
theorem k15 : (Try.prog.funcs[18]?).any (okF Try.prog fm c_spec_ActWord) = true := by kernel_rfl
theorem k16 : (Try.prog.funcs[19]?).any (okF Try.prog fm c_laws_toSolution) = true := by kernel_rfl
theorem k18 : (Try.prog.funcs[21]?).any (okF Try.prog fm c_laws_eqSolution) = true := by kernel_rfl
theorem k19 : (Try.prog.funcs[22]?).any (okF Try.prog fm c_spec_FixedPairs) = true := by kernel_rfl
theorem k20 : (Try.prog.funcs[23]?).any (okF Try.prog fm c_impl_FixedPairs) = true := by kernel_rfl
theorem k21 : (Try.prog.funcs[24]?).any (okF Try.prog fm c_laws_eqInt64SS) = true := by kernel_rfl
theorem k22 : (Try.prog.funcs[25]?).any (okF Try.prog fm c_laws_markSolution) = true := by kernel_rfl
theorem k23 : (Try.prog.funcs[26]?).any (okF Try.prog fm c_laws_markInt64SS) = true := by kernel_rfl
theorem k24 : (Try.prog.funcs[27]?).any (okF Try.prog fm c_laws_heldInt64SS) = true := by kernel_rfl
theorem k25 : (Try.prog.funcs[28]?).any (okF Try.prog fm c_spec_TupleMove) = true := by kernel_rfl
theorem k26 : (Try.prog.funcs[29]?).any (okF Try.prog fm c_impl_TupleMove) = true := by kernel_rfl
theorem k27 : (Try.prog.funcs[30]?).any (okF Try.prog fm c_laws_szInt64SS) = true := by kernel_rfl
theorem k28 : (Try.prog.funcs[31]?).any (okF Try.prog fm c_spec_l03Is) = true := by kernel_rfl
theorem k29 : (Try.prog.funcs[32]?).any (okF Try.prog fm c_spec_l06Tuple) = true := by kernel_rfl
theorem k30 : (Try.prog.funcs[33]?).any (okF Try.prog fm c_spec_l01In) = true := by kernel_rfl
theorem k31 : (Try.prog.funcs[34]?).any (okF Try.prog fm c_spec_l01Own) = true := by kernel_rfl
theorem k32 : (Try.prog.funcs[35]?).any (okF Try.prog fm c_laws_toInt64SS) = true := by kernel_rfl
theorem k33 : (Try.prog.funcs[36]?).any (okF Try.prog fm c_impl_IsRack) = true := by kernel_rfl
theorem k34 : (Try.prog.funcs[37]?).any (okF Try.prog fm c_impl_isTuple) = true := by kernel_rfl
theorem k35 : (Try.prog.funcs[38]?).any (okF Try.prog fm c_impl_within) = true := by kernel_rfl
theorem k36 : (Try.prog.funcs[39]?).any (okF Try.prog fm c_slices_Clone___int64_int64_) = true := by kernel_rfl
theorem k37 : (Try.prog.funcs[40]?).any (okF Try.prog fm c_spec_l09Code) = true := by kernel_rfl
theorem k38 : (Try.prog.funcs[41]?).any (okF Try.prog fm c_impl_checkWords) = true := by kernel_rfl
theorem k39 : (Try.prog.funcs[42]?).any (okF Try.prog fm c_impl_areElements) = true := by kernel_rfl
theorem k40 : (Try.prog.funcs[43]?).any (okF Try.prog fm c_slices_Backward___int64_int64_) = true := by kernel_rfl
theorem k41 : (Try.prog.funcs[44]?).any (okF Try.prog fm c_spec_l02Is) = true := by kernel_rfl
theorem k42 : (Try.prog.funcs[45]?).any (okF Try.prog fm c_impl_IsSolution) = true := by kernel_rfl
theorem k43 : (Try.prog.funcs[46]?).any (okF Try.prog fm c_spec_l06Move) = true := by kernel_rfl
theorem k44 : (Try.prog.funcs[47]?).any (okF Try.prog fm c_impl_moved) = true := by kernel_rfl
theorem k45 : (Try.prog.funcs[48]?).any (okF Try.prog fm c_laws_szInt64S) = true := by kernel_rfl
theorem k46 : (Try.prog.funcs[49]?).any (okF Try.prog fm c_spec_l01Table) = true := by kernel_rfl
theorem k47 : (Try.prog.funcs[50]?).any (okF Try.prog fm c_spec_l01Perm) = true := by kernel_rfl
theorem k48 : (Try.prog.funcs[51]?).any (okF Try.prog fm c_spec_l03Fault) = true := by kernel_rfl
theorem k49 : (Try.prog.funcs[52]?).any (okF Try.prog fm c_spec_l04Elements) = true := by kernel_rfl
theorem k50 : (Try.prog.funcs[53]?).any (okF Try.prog fm c_impl_IsTable) = true := by kernel_rfl
theorem k51 : (Try.prog.funcs[54]?).any (okF Try.prog fm c_impl_permutationRows) = true := by kernel_rfl
theorem k52 : (Try.prog.funcs[55]?).any (okF Try.prog fm c_impl_rackFault) = true := by kernel_rfl
theorem k53 : (Try.prog.funcs[56]?).any (okF Try.prog fm c_spec_l09Word) = true := by kernel_rfl
theorem k54 : (Try.prog.funcs[57]?).any (okF Try.prog fm c_impl_allWithin) = true := by kernel_rfl
theorem k55 : (Try.prog.funcs[58]?).any (okF Try.prog fm c_slices_Backward___int64_int64__1) = true := by kernel_rfl
theorem k56 : (Try.prog.funcs[59]?).any (okF Try.prog fm c_spec_l02Map) = true := by kernel_rfl
theorem k57 : (Try.prog.funcs[60]?).any (okF Try.prog fm c_spec_l02Collision) = true := by kernel_rfl
theorem k58 : (Try.prog.funcs[61]?).any (okF Try.prog fm c_spec_l02Fault) = true := by kernel_rfl
theorem k59 : (Try.prog.funcs[62]?).any (okF Try.prog fm c_impl_IsPairMap) = true := by kernel_rfl
theorem k60 : (Try.prog.funcs[63]?).any (okF Try.prog fm c_impl_collisionOf) = true := by kernel_rfl
theorem k61 : (Try.prog.funcs[64]?).any (okF Try.prog fm c_impl_equationFault) = true := by kernel_rfl
theorem k62 : (Try.prog.funcs[65]?).any (okF Try.prog fm c_spec_l01Has) = true := by kernel_rfl
theorem k63 : (Try.prog.funcs[66]?).any (okF Try.prog fm c_slices_ContainsFunc_____int64___int64_) = true := by kernel_rfl
theorem k64 : (Try.prog.funcs[67]?).any (okF Try.prog fm c_impl_IsTable_1) = true := by kernel_rfl
theorem k65 : (Try.prog.funcs[68]?).any (okF Try.prog fm c_impl_permutationRows_1) = true := by kernel_rfl
theorem k66 : (Try.prog.funcs[69]?).any (okF Try.prog fm c_impl_isPermuted) = true := by kernel_rfl
theorem k67 : (Try.prog.funcs[70]?).any (okF Try.prog fm c_spec_l01Same) = true := by kernel_rfl
theorem k68 : (Try.prog.funcs[71]?).any (okF Try.prog fm c_spec_l02Do) = true := by kernel_rfl
theorem k69 : (Try.prog.funcs[72]?).any (okF Try.prog fm c_spec_l01Index) = true := by kernel_rfl
theorem k70 : (Try.prog.funcs[73]?).any (okF Try.prog fm c_slices_IndexFunc_____int64___int64_) = true := by kernel_rfl
def tab : List (Nat × F) := [(0, c_laws_FnExactRackMove), (1, c_laws_FnExactActWord), (2, c_laws_FnExactFixedPairs), (3, c_laws_FnExactTupleMove), (4, c_laws_szRack), (5, c_spec_RackMove), (6, c_laws_toRack), (7, c_laws_toInt64S), (8, c_impl_RackMove), (9, c_laws_eqInt64S), (10, c_laws_eqRack), (11, c_laws_markRack), (12, c_laws_markInt64S), (13, c_laws_heldInt64S), (14, c_laws_szSolution), (15, c_spec_ActWord), (16, c_laws_toSolution), (18, c_laws_eqSolution), (19, c_spec_FixedPairs), (20, c_impl_FixedPairs), (21, c_laws_eqInt64SS), (22, c_laws_markSolution), (23, c_laws_markInt64SS), (24, c_laws_heldInt64SS), (25, c_spec_TupleMove), (26, c_impl_TupleMove), (27, c_laws_szInt64SS), (28, c_spec_l03Is), (29, c_spec_l06Tuple), (30, c_spec_l01In), (31, c_spec_l01Own), (32, c_laws_toInt64SS), (33, c_impl_IsRack), (34, c_impl_isTuple), (35, c_impl_within), (36, c_slices_Clone___int64_int64_), (37, c_spec_l09Code), (38, c_impl_checkWords), (39, c_impl_areElements), (40, c_slices_Backward___int64_int64_), (41, c_spec_l02Is), (42, c_impl_IsSolution), (43, c_spec_l06Move), (44, c_impl_moved), (45, c_laws_szInt64S), (46, c_spec_l01Table), (47, c_spec_l01Perm), (48, c_spec_l03Fault), (49, c_spec_l04Elements), (50, c_impl_IsTable), (51, c_impl_permutationRows), (52, c_impl_rackFault), (53, c_spec_l09Word), (54, c_impl_allWithin), (55, c_slices_Backward___int64_int64__1), (56, c_spec_l02Map), (57, c_spec_l02Collision), (58, c_spec_l02Fault), (59, c_impl_IsPairMap), (60, c_impl_collisionOf), (61, c_impl_equationFault), (62, c_spec_l01Has), (63, c_slices_ContainsFunc_____int64___int64_), (64, c_impl_IsTable_1), (65, c_impl_permutationRows_1), (66, c_impl_isPermuted), (67, c_spec_l01Same), (68, c_spec_l02Do), (69, c_spec_l01Index), (70, c_slices_IndexFunc_____int64___int64_)]
def pg : Pg := { fn := fun f => (tab.find? fun x => x.1 == f).map (·.2) }
theorem all_ok : ∀ x, x ∈ tab → (Try.prog.funcs[fm x.1]?).any (okF Try.prog fm x.2) = true := by
  intro x hx
  unfold tab at hx
  simp only [List.mem_cons, List.not_mem_nil, or_false] at hx
  rcases hx with rfl | rfl | rfl | rfl | rfl | rfl | rfl | rfl | rfl | rfl | rfl | rfl | rfl | rfl | rfl | rfl | rfl | rfl | rfl | rfl | rfl | rfl | rfl | rfl | rfl | rfl | rfl | rfl | rfl | rfl | rfl | rfl | rfl | rfl | rfl | rfl | rfl | rfl | rfl | rfl | rfl | rfl | rfl | rfl | rfl | rfl | rfl | rfl | rfl | rfl | rfl | rfl | rfl | rfl | rfl | rfl | rfl | rfl | rfl | rfl | rfl | rfl | rfl | rfl | rfl | rfl | rfl | rfl | rfl | rfl
  · exact k0
  · exact k1
  · exact k2
  · exact k3
  · exact k4
  · exact k5
  · exact k6
  · exact k7
  · exact k8
  · exact k9
  · exact k10
  · exact k11
  · exact k12
  · exact k13
  · exact k14
  · exact k15
  · exact k16
  · exact k18
  · exact k19
  · exact k20
  · exact k21
  · exact k22
  · exact k23
  · exact k24
  · exact k25
  · exact k26
  · exact k27
  · exact k28
  · exact k29
  · exact k30
  · exact k31
  · exact k32
  · exact k33
  · exact k34
  · exact k35
  · exact k36
  · exact k37
  · exact k38
  · exact k39
  · exact k40
  · exact k41
  · exact k42
  · exact k43
  · exact k44
  · exact k45
  · exact k46
  · exact k47
  · exact k48
  · exact k49
  · exact k50
  · exact k51
  · exact k52
  · exact k53
  · exact k54
  · exact k55
  · exact k56
  · exact k57
  · exact k58
  · exact k59
  · exact k60
  · exact k61
  · exact k62
  · exact k63
  · exact k64
  · exact k65
  · exact k66
  · exact k67
  · exact k68
  · exact k69
  · exact k70
theorem follows : Try.prog.follows .mixedOrders = true := by kernel_rfl
theorem prog_ok : ∀ f F, pg.fn f = some F → ∃ fn, Try.prog.funcs[fm f]? = some fn ∧ okF Try.prog fm F fn = true := by
  intro f F h
  simp only [pg, Option.map_eq_some_iff] at h
  obtain ⟨x, h1, rfl⟩ := h
  have hm := List.mem_of_find?_eq_some h1
  have he := List.find?_some h1
  simp only [beq_iff_eq] at he
  have := all_ok x hm
  rw [he] at this
  rw [Option.any_eq_true] at this
  exact this
theorem pact {f : Nat} {args args' : List T} {r : T} (h : Go.Mch.Call pg f args args' r) : Pact Try.prog fm f args args' r :=
  sound follows (fun _ _ _ _ h => False.elim h) prog_ok h
end Go.Proofs.Ytkdoegjnnfmpaaa.Tie
