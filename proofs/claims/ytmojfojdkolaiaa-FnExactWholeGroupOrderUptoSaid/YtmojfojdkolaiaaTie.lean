/- The compact code of the functions is this seat's program's: what the machine calls good, the program does. -/
import Derived.Test.YtmojfojdkolaiaaRows
import Derived.KernelRfl
import Derived.Test.YtmojfojdkolaiaaM3
import Derived.Test.YtmojfojdkolaiaaYeA
import Derived.Test.YtmojfojdkolaiaaYeB
import Derived.Test.YtmojfojdkolaiaaYeC
import Derived.Test.YtmojfojdkolaiaaP1
namespace Go.Proofs.Ytmojfojdkolaiaa.Tie
open Go.Mch
def fmL : List Nat := [0, 0, 0, 0, 0, 0, 0, 27, 0, 19, 0, 0, 0, 0, 15, 0, 17, 0, 20, 0, 0, 58, 0, 0, 0, 0, 0, 52, 0, 0, 91, 141, 55, 0, 0, 93, 0, 0, 0, 0, 0, 99, 102, 0, 0, 98, 105, 61, 0, 0, 110, 111, 0, 0, 143, 0, 132, 133, 134, 137, 138, 139, 107, 77, 142, 144, 66, 108, 155, 140, 120, 0, 0, 0, 0, 0, 0, 0, 0, 0, 0, 0, 0, 0, 0, 0, 0, 0, 0, 0, 7, 0, 0, 0, 0, 0, 0, 0, 0, 0, 0, 0, 0, 0, 0, 0, 0, 0, 0, 0, 0, 0, 0, 0, 0, 0, 0, 0, 0, 0, 0, 0, 0, 0, 0, 0, 0, 0, 0, 0, 37, 36, 0, 0, 0, 0, 0, 0, 0, 0, 0, 0, 0, 0, 0, 0, 0, 0, 0, 0, 0, 0, 0, 0, 0, 0, 0, 0, 0, 0, 0, 0, 0, 0, 0, 0, 0, 0, 0, 0, 0, 0, 0, 0, 0, 0, 0, 0, 0, 0, 0, 0, 0, 0, 0, 0, 0, 0, 0, 0, 0, 0, 0, 0, 0, 0, 0, 0, 0, 0, 0, 0, 0, 0, 0, 0, 0, 0, 0, 0, 0, 0, 0, 0, 0, 0, 0, 0, 0, 0, 0, 0, 0, 0, 0, 0, 0, 0, 0, 0, 0, 0, 0, 0, 0, 0, 0, 0, 0, 0, 0, 0, 0, 0, 0, 0, 0, 0, 0, 0, 0, 0, 0, 0, 0, 0, 0, 0, 0, 0, 0, 0, 0, 0, 53, 118, 56, 122, 0, 0, 82, 78, 80, 81, 0, 0, 0, 95, 0, 151, 109, 0, 0, 0, 0, 103, 0, 0, 0, 0, 0, 0, 0, 0, 0, 0, 0, 0, 0, 0, 0, 0, 0, 0, 0, 0, 0, 0, 0, 0, 0, 0, 153, 0, 0, 0, 0, 0, 0, 0, 0, 0, 0, 0, 0, 0, 0, 0, 0, 0, 0, 0, 0, 0, 92, 94, 0, 0, 0, 0, 0, 0, 0, 123, 0, 0, 0, 0, 0, 152, 100, 0, 0, 0, 0, 0, 0, 0, 0, 0, 0, 0, 0, 0, 0, 0, 0, 0, 0, 0, 0, 0, 0, 0, 0, 148, 114, 150, 0, 0, 124, 121, 0, 0, 0, 0, 0, 0, 0, 0, 0, 0, 0, 0, 0, 0, 0, 0, 0, 0, 0, 0, 0, 0, 0, 0, 0, 0, 157, 0, 135, 0, 0, 0, 0, 0, 0, 0, 0, 0, 0, 0, 0, 0, 0, 0, 0, 0, 0, 149]
def fm (k : Nat) : Nat := fmL.getD k 0
theorem k90 : (Try.prog.funcs[7]?).any (okF Try.prog fm (lw_N 131 130)) = true := by kernel_rfl
theorem k14 : (Try.prog.funcs[15]?).any (okF Try.prog fm c_laws_szSolution) = true := by kernel_rfl
theorem k16 : (Try.prog.funcs[17]?).any (okF Try.prog fm c_laws_toSolution) = true := by kernel_rfl
theorem k9 : (Try.prog.funcs[19]?).any (okF Try.prog fm c_laws_eqInt64S) = true := by kernel_rfl
theorem k18 : (Try.prog.funcs[20]?).any (okF Try.prog fm c_laws_eqSolution) = true := by kernel_rfl
theorem k7 : (Try.prog.funcs[27]?).any (okF Try.prog fm c_laws_toInt64S) = true := by kernel_rfl
theorem k131 : (Try.prog.funcs[36]?).any (okF Try.prog fm c_spec_WholeGroupOrder) = true := by kernel_rfl
theorem k130 : (Try.prog.funcs[37]?).any (okF Try.prog fm c_impl_WholeGroupOrder) = true := by kernel_rfl
theorem k27 : (Try.prog.funcs[52]?).any (okF Try.prog fm c_laws_szInt64SS) = true := by kernel_rfl
theorem k264 : (Try.prog.funcs[53]?).any (okF Try.prog fm c_spec_l07Is) = true := by kernel_rfl
theorem k32 : (Try.prog.funcs[55]?).any (okF Try.prog fm c_laws_toInt64SS) = true := by kernel_rfl
theorem k266 : (Try.prog.funcs[56]?).any (okF Try.prog fm c_impl_isRegular) = true := by kernel_rfl
theorem k21 : (Try.prog.funcs[58]?).any (okF Try.prog fm c_laws_eqInt64SS) = true := by kernel_rfl
theorem k47 : (Try.prog.funcs[61]?).any (okF Try.prog fm c_spec_l01Perm) = true := by kernel_rfl
theorem k66 : (Try.prog.funcs[66]?).any (okF Try.prog fm c_impl_isPermuted) = true := by kernel_rfl
theorem k63 : (Try.prog.funcs[77]?).any (okF Try.prog fm c_slices_ContainsFunc_____int64___int64_) = true := by kernel_rfl
theorem k271 : (Try.prog.funcs[78]?).any (okF Try.prog fm c_impl_wholeSystem) = true := by kernel_rfl
theorem k272 : (Try.prog.funcs[80]?).any (okF Try.prog fm c_spec_l07Order) = true := by kernel_rfl
theorem k273 : (Try.prog.funcs[81]?).any (okF Try.prog fm c_spec_l07Both) = true := by kernel_rfl
theorem k270 : (Try.prog.funcs[82]?).any (okF Try.prog fm c_impl_limitedOrder) = true := by kernel_rfl
theorem k30 : (Try.prog.funcs[91]?).any (okF Try.prog fm c_spec_l01In) = true := by kernel_rfl
theorem k334 : (Try.prog.funcs[92]?).any (okF Try.prog fm c_spec_l01Unit) = true := by kernel_rfl
theorem k35 : (Try.prog.funcs[93]?).any (okF Try.prog fm c_impl_within) = true := by kernel_rfl
theorem k335 : (Try.prog.funcs[94]?).any (okF Try.prog fm c_impl_identity) = true := by kernel_rfl
theorem k277 : (Try.prog.funcs[95]?).any (okF Try.prog fm c_impl_then) = true := by kernel_rfl
theorem k45 : (Try.prog.funcs[98]?).any (okF Try.prog fm c_laws_szInt64S) = true := by kernel_rfl
theorem k41 : (Try.prog.funcs[99]?).any (okF Try.prog fm c_spec_l02Is) = true := by kernel_rfl
theorem k350 : (Try.prog.funcs[100]?).any (okF Try.prog fm c_spec_l02Good) = true := by kernel_rfl
theorem k42 : (Try.prog.funcs[102]?).any (okF Try.prog fm c_impl_IsSolution) = true := by kernel_rfl
theorem k285 : (Try.prog.funcs[103]?).any (okF Try.prog fm c_impl_isNondegenerate) = true := by kernel_rfl
theorem k46 : (Try.prog.funcs[105]?).any (okF Try.prog fm c_spec_l01Table) = true := by kernel_rfl
theorem k62 : (Try.prog.funcs[107]?).any (okF Try.prog fm c_spec_l01Has) = true := by kernel_rfl
theorem k67 : (Try.prog.funcs[108]?).any (okF Try.prog fm c_spec_l01Same) = true := by kernel_rfl
theorem k280 : (Try.prog.funcs[109]?).any (okF Try.prog fm c_spec_l01Own2) = true := by kernel_rfl
theorem k50 : (Try.prog.funcs[110]?).any (okF Try.prog fm c_impl_IsTable) = true := by kernel_rfl
theorem k51 : (Try.prog.funcs[111]?).any (okF Try.prog fm c_impl_permutationRows) = true := by kernel_rfl
theorem k376 : (Try.prog.funcs[114]?).any (okF Try.prog fm c_impl_tableBy) = true := by kernel_rfl
theorem k265 : (Try.prog.funcs[118]?).any (okF Try.prog fm c_spec_l01Turn) = true := by kernel_rfl
theorem k70 : (Try.prog.funcs[120]?).any (okF Try.prog fm c_slices_IndexFunc_____int64___int64_) = true := by kernel_rfl
theorem k381 : (Try.prog.funcs[121]?).any (okF Try.prog fm c_slices_Concat_____int64___int64_) = true := by kernel_rfl
theorem k267 : (Try.prog.funcs[122]?).any (okF Try.prog fm c_impl_transposed) = true := by kernel_rfl
theorem k343 : (Try.prog.funcs[123]?).any (okF Try.prog fm c_spec_l01Group) = true := by kernel_rfl
theorem k380 : (Try.prog.funcs[124]?).any (okF Try.prog fm c_impl_groupOrder) = true := by kernel_rfl
theorem k56 : (Try.prog.funcs[132]?).any (okF Try.prog fm c_spec_l02Map) = true := by kernel_rfl
theorem k57 : (Try.prog.funcs[133]?).any (okF Try.prog fm c_spec_l02Collision) = true := by kernel_rfl
theorem k58 : (Try.prog.funcs[134]?).any (okF Try.prog fm c_spec_l02Fault) = true := by kernel_rfl
theorem k410 : (Try.prog.funcs[135]?).any (okF Try.prog fm c_spec_l01Rows) = true := by kernel_rfl
theorem k59 : (Try.prog.funcs[137]?).any (okF Try.prog fm c_impl_IsPairMap) = true := by kernel_rfl
theorem k60 : (Try.prog.funcs[138]?).any (okF Try.prog fm c_impl_collisionOf) = true := by kernel_rfl
theorem k61 : (Try.prog.funcs[139]?).any (okF Try.prog fm c_impl_equationFault) = true := by kernel_rfl
theorem k69 : (Try.prog.funcs[140]?).any (okF Try.prog fm c_spec_l01Index) = true := by kernel_rfl
theorem k31 : (Try.prog.funcs[141]?).any (okF Try.prog fm c_spec_l01Own) = true := by kernel_rfl
theorem k64 : (Try.prog.funcs[142]?).any (okF Try.prog fm c_impl_IsTable_1) = true := by kernel_rfl
theorem k54 : (Try.prog.funcs[143]?).any (okF Try.prog fm c_impl_allWithin) = true := by kernel_rfl
theorem k65 : (Try.prog.funcs[144]?).any (okF Try.prog fm c_impl_permutationRows_1) = true := by kernel_rfl
theorem k375 : (Try.prog.funcs[148]?).any (okF Try.prog fm c_spec_l01Column) = true := by kernel_rfl
theorem k429 : (Try.prog.funcs[149]?).any (okF Try.prog fm c_slices_Grow_____int64___int64_) = true := by kernel_rfl
theorem k377 : (Try.prog.funcs[150]?).any (okF Try.prog fm c_impl_transposed_1) = true := by kernel_rfl
theorem k279 : (Try.prog.funcs[151]?).any (okF Try.prog fm c_spec_l01Then) = true := by kernel_rfl
theorem k349 : (Try.prog.funcs[152]?).any (okF Try.prog fm c_spec_l01Put) = true := by kernel_rfl
theorem k312 : (Try.prog.funcs[153]?).any (okF Try.prog fm c_impl_digitsText) = true := by kernel_rfl
theorem k68 : (Try.prog.funcs[155]?).any (okF Try.prog fm c_spec_l02Do) = true := by kernel_rfl
theorem k408 : (Try.prog.funcs[157]?).any (okF Try.prog fm c_spec_l01Less) = true := by kernel_rfl
def tab : List (Nat × F) := [(90, (lw_N 131 130)), (14, c_laws_szSolution), (16, c_laws_toSolution), (9, c_laws_eqInt64S), (18, c_laws_eqSolution), (7, c_laws_toInt64S), (131, c_spec_WholeGroupOrder), (130, c_impl_WholeGroupOrder), (27, c_laws_szInt64SS), (264, c_spec_l07Is), (32, c_laws_toInt64SS), (266, c_impl_isRegular), (21, c_laws_eqInt64SS), (47, c_spec_l01Perm), (66, c_impl_isPermuted), (63, c_slices_ContainsFunc_____int64___int64_), (271, c_impl_wholeSystem), (272, c_spec_l07Order), (273, c_spec_l07Both), (270, c_impl_limitedOrder), (30, c_spec_l01In), (334, c_spec_l01Unit), (35, c_impl_within), (335, c_impl_identity), (277, c_impl_then), (45, c_laws_szInt64S), (41, c_spec_l02Is), (350, c_spec_l02Good), (42, c_impl_IsSolution), (285, c_impl_isNondegenerate), (46, c_spec_l01Table), (62, c_spec_l01Has), (67, c_spec_l01Same), (280, c_spec_l01Own2), (50, c_impl_IsTable), (51, c_impl_permutationRows), (376, c_impl_tableBy), (265, c_spec_l01Turn), (70, c_slices_IndexFunc_____int64___int64_), (381, c_slices_Concat_____int64___int64_), (267, c_impl_transposed), (343, c_spec_l01Group), (380, c_impl_groupOrder), (56, c_spec_l02Map), (57, c_spec_l02Collision), (58, c_spec_l02Fault), (410, c_spec_l01Rows), (59, c_impl_IsPairMap), (60, c_impl_collisionOf), (61, c_impl_equationFault), (69, c_spec_l01Index), (31, c_spec_l01Own), (64, c_impl_IsTable_1), (54, c_impl_allWithin), (65, c_impl_permutationRows_1), (375, c_spec_l01Column), (429, c_slices_Grow_____int64___int64_), (377, c_impl_transposed_1), (279, c_spec_l01Then), (349, c_spec_l01Put), (312, c_impl_digitsText), (68, c_spec_l02Do), (408, c_spec_l01Less)]
def pg : Pg := { fn := fun f => (tab.find? fun x => x.1 == f).map (·.2) }
theorem all_ok : ∀ x, x ∈ tab → (Try.prog.funcs[fm x.1]?).any (okF Try.prog fm x.2) = true := by
  intro x hx
  unfold tab at hx
  simp only [List.mem_cons, List.not_mem_nil, or_false] at hx
  rcases hx with rfl | rfl | rfl | rfl | rfl | rfl | rfl | rfl | rfl | rfl | rfl | rfl | rfl | rfl | rfl | rfl | rfl | rfl | rfl | rfl | rfl | rfl | rfl | rfl | rfl | rfl | rfl | rfl | rfl | rfl | rfl | rfl | rfl | rfl | rfl | rfl | rfl | rfl | rfl | rfl | rfl | rfl | rfl | rfl | rfl | rfl | rfl | rfl | rfl | rfl | rfl | rfl | rfl | rfl | rfl | rfl | rfl | rfl | rfl | rfl | rfl | rfl | rfl
  · exact k90
  · exact k14
  · exact k16
  · exact k9
  · exact k18
  · exact k7
  · exact k131
  · exact k130
  · exact k27
  · exact k264
  · exact k32
  · exact k266
  · exact k21
  · exact k47
  · exact k66
  · exact k63
  · exact k271
  · exact k272
  · exact k273
  · exact k270
  · exact k30
  · exact k334
  · exact k35
  · exact k335
  · exact k277
  · exact k45
  · exact k41
  · exact k350
  · exact k42
  · exact k285
  · exact k46
  · exact k62
  · exact k67
  · exact k280
  · exact k50
  · exact k51
  · exact k376
  · exact k265
  · exact k70
  · exact k381
  · exact k267
  · exact k343
  · exact k380
  · exact k56
  · exact k57
  · exact k58
  · exact k410
  · exact k59
  · exact k60
  · exact k61
  · exact k69
  · exact k31
  · exact k64
  · exact k54
  · exact k65
  · exact k375
  · exact k429
  · exact k377
  · exact k279
  · exact k349
  · exact k312
  · exact k68
  · exact k408
theorem follows : Try.prog.follows .mixedOrders = true := by kernel_rfl
theorem prog_ok : ∀ f F, pg.fn f = some F → ∃ fn, Try.prog.funcs[fm f]? = some fn ∧ okF Try.prog fm F fn = true := by
  intro f F h
  simp only [pg, Option.map_eq_some_iff] at h
  obtain ⟨x, h1, rfl⟩ := h
  have hm := List.mem_of_find?_eq_some h1
  have he := List.find?_some h1
  simp only [beq_iff_eq] at he
  have := all_ok x hm
  rw [he] at this
  rw [Option.any_eq_true] at this
  exact this
theorem pact {f : Nat} {args args' : List T} {r : T} (h : Go.Mch.Call pg f args args' r) : Pact Try.prog fm f args args' r :=
  sound follows (fun _ _ _ _ h => False.elim h) prog_ok h
end Go.Proofs.Ytmojfojdkolaiaa.Tie
