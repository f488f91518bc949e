/- The compact code of the functions is this seat's program's: what the machine calls good, the program does. -/
import Derived.Test.YtliigdlobcjhpaaRows
import Derived.KernelRfl
import Derived.Test.YtliigdlobcjhpaaM3
import Derived.Test.YtliigdlobcjhpaaYeA
import Derived.Test.YtliigdlobcjhpaaYeB
import Derived.Test.YtliigdlobcjhpaaP1
namespace Go.Proofs.Ytliigdlobcjhpaa.Tie
open Go.Mch
def fmL : List Nat := [0, 0, 0, 0, 0, 0, 0, 31, 0, 33, 0, 0, 0, 0, 15, 0, 17, 0, 19, 0, 0, 22, 0, 0, 0, 0, 0, 53, 0, 0, 55, 96, 59, 0, 0, 61, 77, 0, 0, 0, 0, 54, 60, 58, 64, 92, 118, 0, 0, 0, 120, 0, 0, 0, 135, 0, 93, 94, 95, 97, 98, 99, 0, 125, 134, 0, 0, 69, 119, 0, 136, 3, 0, 0, 0, 0, 0, 0, 0, 0, 0, 0, 0, 0, 0, 0, 0, 0, 0, 0, 0, 0, 0, 0, 0, 0, 0, 0, 0, 0, 0, 0, 0, 0, 0, 0, 0, 0, 0, 0, 0, 0, 0, 0, 0, 0, 0, 0, 0, 0, 0, 0, 0, 0, 16, 18, 0, 0, 0, 0, 0, 0, 0, 0, 0, 0, 0, 0, 0, 0, 0, 0, 0, 0, 0, 0, 0, 0, 0, 0, 0, 0, 0, 0, 0, 0, 0, 0, 0, 0, 0, 0, 0, 0, 0, 0, 0, 0, 0, 0, 0, 0, 0, 0, 0, 0, 0, 0, 0, 0, 0, 0, 0, 0, 0, 0, 0, 0, 0, 0, 0, 0, 0, 0, 0, 0, 0, 0, 0, 0, 0, 0, 0, 0, 0, 0, 0, 0, 0, 0, 0, 0, 0, 0, 0, 0, 0, 0, 0, 0, 0, 0, 0, 0, 0, 0, 0, 0, 0, 0, 0, 0, 0, 0, 0, 0, 0, 0, 0, 0, 0, 0, 0, 0, 0, 0, 0, 0, 0, 0, 0, 0, 0, 0, 0, 0, 0, 0, 0, 0, 56, 57, 62, 63]
def fm (k : Nat) : Nat := fmL.getD k 0
theorem k71 : (Try.prog.funcs[3]?).any (okF Try.prog fm (lw_pN 124 125)) = true := by kernel_rfl
theorem k14 : (Try.prog.funcs[15]?).any (okF Try.prog fm c_laws_szSolution) = true := by kernel_rfl
theorem k124 : (Try.prog.funcs[16]?).any (okF Try.prog fm c_spec_CountTupleOrbits) = true := by kernel_rfl
theorem k16 : (Try.prog.funcs[17]?).any (okF Try.prog fm c_laws_toSolution) = true := by kernel_rfl
theorem k125 : (Try.prog.funcs[18]?).any (okF Try.prog fm c_impl_CountTupleOrbits) = true := by kernel_rfl
theorem k18 : (Try.prog.funcs[19]?).any (okF Try.prog fm c_laws_eqSolution) = true := by kernel_rfl
theorem k21 : (Try.prog.funcs[22]?).any (okF Try.prog fm c_laws_eqInt64SS) = true := by kernel_rfl
theorem k7 : (Try.prog.funcs[31]?).any (okF Try.prog fm c_laws_toInt64S) = true := by kernel_rfl
theorem k9 : (Try.prog.funcs[33]?).any (okF Try.prog fm c_laws_eqInt64S) = true := by kernel_rfl
theorem k27 : (Try.prog.funcs[53]?).any (okF Try.prog fm c_laws_szInt64SS) = true := by kernel_rfl
theorem k41 : (Try.prog.funcs[54]?).any (okF Try.prog fm c_spec_l02Is) = true := by kernel_rfl
theorem k30 : (Try.prog.funcs[55]?).any (okF Try.prog fm c_spec_l01In) = true := by kernel_rfl
theorem k260 : (Try.prog.funcs[56]?).any (okF Try.prog fm c_spec_l06Digits) = true := by kernel_rfl
theorem k261 : (Try.prog.funcs[57]?).any (okF Try.prog fm c_spec_l06Number) = true := by kernel_rfl
theorem k43 : (Try.prog.funcs[58]?).any (okF Try.prog fm c_spec_l06Move) = true := by kernel_rfl
theorem k32 : (Try.prog.funcs[59]?).any (okF Try.prog fm c_laws_toInt64SS) = true := by kernel_rfl
theorem k42 : (Try.prog.funcs[60]?).any (okF Try.prog fm c_impl_IsSolution) = true := by kernel_rfl
theorem k35 : (Try.prog.funcs[61]?).any (okF Try.prog fm c_impl_within) = true := by kernel_rfl
theorem k262 : (Try.prog.funcs[62]?).any (okF Try.prog fm c_impl_tupleOf) = true := by kernel_rfl
theorem k263 : (Try.prog.funcs[63]?).any (okF Try.prog fm c_impl_numberOf) = true := by kernel_rfl
theorem k44 : (Try.prog.funcs[64]?).any (okF Try.prog fm c_impl_moved) = true := by kernel_rfl
theorem k67 : (Try.prog.funcs[69]?).any (okF Try.prog fm c_spec_l01Same) = true := by kernel_rfl
theorem k36 : (Try.prog.funcs[77]?).any (okF Try.prog fm c_slices_Clone___int64_int64_) = true := by kernel_rfl
theorem k45 : (Try.prog.funcs[92]?).any (okF Try.prog fm c_laws_szInt64S) = true := by kernel_rfl
theorem k56 : (Try.prog.funcs[93]?).any (okF Try.prog fm c_spec_l02Map) = true := by kernel_rfl
theorem k57 : (Try.prog.funcs[94]?).any (okF Try.prog fm c_spec_l02Collision) = true := by kernel_rfl
theorem k58 : (Try.prog.funcs[95]?).any (okF Try.prog fm c_spec_l02Fault) = true := by kernel_rfl
theorem k31 : (Try.prog.funcs[96]?).any (okF Try.prog fm c_spec_l01Own) = true := by kernel_rfl
theorem k59 : (Try.prog.funcs[97]?).any (okF Try.prog fm c_impl_IsPairMap) = true := by kernel_rfl
theorem k60 : (Try.prog.funcs[98]?).any (okF Try.prog fm c_impl_collisionOf) = true := by kernel_rfl
theorem k61 : (Try.prog.funcs[99]?).any (okF Try.prog fm c_impl_equationFault) = true := by kernel_rfl
theorem k46 : (Try.prog.funcs[118]?).any (okF Try.prog fm c_spec_l01Table) = true := by kernel_rfl
theorem k68 : (Try.prog.funcs[119]?).any (okF Try.prog fm c_spec_l02Do) = true := by kernel_rfl
theorem k50 : (Try.prog.funcs[120]?).any (okF Try.prog fm c_impl_IsTable) = true := by kernel_rfl
theorem k63 : (Try.prog.funcs[125]?).any (okF Try.prog fm c_slices_ContainsFunc_____int64___int64_) = true := by kernel_rfl
theorem k64 : (Try.prog.funcs[134]?).any (okF Try.prog fm c_impl_IsTable_1) = true := by kernel_rfl
theorem k54 : (Try.prog.funcs[135]?).any (okF Try.prog fm c_impl_allWithin) = true := by kernel_rfl
theorem k70 : (Try.prog.funcs[136]?).any (okF Try.prog fm c_slices_IndexFunc_____int64___int64_) = true := by kernel_rfl
def tab : List (Nat × F) := [(71, (lw_pN 124 125)), (14, c_laws_szSolution), (124, c_spec_CountTupleOrbits), (16, c_laws_toSolution), (125, c_impl_CountTupleOrbits), (18, c_laws_eqSolution), (21, c_laws_eqInt64SS), (7, c_laws_toInt64S), (9, c_laws_eqInt64S), (27, c_laws_szInt64SS), (41, c_spec_l02Is), (30, c_spec_l01In), (260, c_spec_l06Digits), (261, c_spec_l06Number), (43, c_spec_l06Move), (32, c_laws_toInt64SS), (42, c_impl_IsSolution), (35, c_impl_within), (262, c_impl_tupleOf), (263, c_impl_numberOf), (44, c_impl_moved), (67, c_spec_l01Same), (36, c_slices_Clone___int64_int64_), (45, c_laws_szInt64S), (56, c_spec_l02Map), (57, c_spec_l02Collision), (58, c_spec_l02Fault), (31, c_spec_l01Own), (59, c_impl_IsPairMap), (60, c_impl_collisionOf), (61, c_impl_equationFault), (46, c_spec_l01Table), (68, c_spec_l02Do), (50, c_impl_IsTable), (63, c_slices_ContainsFunc_____int64___int64_), (64, c_impl_IsTable_1), (54, c_impl_allWithin), (70, c_slices_IndexFunc_____int64___int64_)]
def pg : Pg := { fn := fun f => (tab.find? fun x => x.1 == f).map (·.2) }
theorem all_ok : ∀ x, x ∈ tab → (Try.prog.funcs[fm x.1]?).any (okF Try.prog fm x.2) = true := by
  intro x hx
  unfold tab at hx
  simp only [List.mem_cons, List.not_mem_nil, or_false] at hx
  rcases hx with rfl | rfl | rfl | rfl | rfl | rfl | rfl | rfl | rfl | rfl | rfl | rfl | rfl | rfl | rfl | rfl | rfl | rfl | rfl | rfl | rfl | rfl | rfl | rfl | rfl | rfl | rfl | rfl | rfl | rfl | rfl | rfl | rfl | rfl | rfl | rfl | rfl | rfl
  · exact k71
  · exact k14
  · exact k124
  · exact k16
  · exact k125
  · exact k18
  · exact k21
  · exact k7
  · exact k9
  · exact k27
  · exact k41
  · exact k30
  · exact k260
  · exact k261
  · exact k43
  · exact k32
  · exact k42
  · exact k35
  · exact k262
  · exact k263
  · exact k44
  · exact k67
  · exact k36
  · exact k45
  · exact k56
  · exact k57
  · exact k58
  · exact k31
  · exact k59
  · exact k60
  · exact k61
  · exact k46
  · exact k68
  · exact k50
  · exact k63
  · exact k64
  · exact k54
  · exact k70
theorem follows : Try.prog.follows .mixedOrders = true := by kernel_rfl
theorem prog_ok : ∀ f F, pg.fn f = some F → ∃ fn, Try.prog.funcs[fm f]? = some fn ∧ okF Try.prog fm F fn = true := by
  intro f F h
  simp only [pg, Option.map_eq_some_iff] at h
  obtain ⟨x, h1, rfl⟩ := h
  have hm := List.mem_of_find?_eq_some h1
  have he := List.find?_some h1
  simp only [beq_iff_eq] at he
  have := all_ok x hm
  rw [he] at this
  rw [Option.any_eq_true] at this
  exact this
theorem pact {f : Nat} {args args' : List T} {r : T} (h : Go.Mch.Call pg f args args' r) : Pact Try.prog fm f args args' r :=
  sound follows (fun _ _ _ _ h => False.elim h) prog_ok h
end Go.Proofs.Ytliigdlobcjhpaa.Tie
