/- The compact code of the functions is this seat's program's: what the machine calls good, the program does. -/
import Derived.Test.YtbjgmanbanhhiaaRows
import Derived.KernelRfl
import Derived.Test.YtbjgmanbanhhiaaM3
import Derived.Test.YtbjgmanbanhhiaaYeA
import Derived.Test.YtbjgmanbanhhiaaYeB
import Derived.Test.YtbjgmanbanhhiaaYeC
import Derived.Test.YtbjgmanbanhhiaaP1
namespace Go.Proofs.Ytbjgmanbanhhiaa.Tie
open Go.Mch
def fmL : List Nat := [0, 0, 0, 0, 0, 0, 0, 32, 0, 28, 0, 0, 0, 0, 15, 0, 17, 0, 19, 0, 0, 34, 0, 0, 0, 0, 0, 54, 0, 0, 70, 133, 57, 0, 0, 152, 0, 0, 0, 0, 0, 77, 81, 0, 0, 104, 165, 181, 0, 0, 159, 157, 0, 0, 127, 0, 129, 130, 131, 119, 136, 137, 113, 150, 184, 182, 183, 111, 143, 114, 146, 0, 0, 0, 0, 0, 0, 0, 0, 0, 0, 0, 0, 0, 4, 0, 0, 0, 0, 0, 0, 0, 0, 0, 0, 0, 0, 0, 0, 0, 0, 0, 0, 0, 0, 0, 0, 0, 0, 0, 0, 0, 0, 0, 0, 0, 0, 0, 0, 0, 0, 0, 0, 0, 0, 0, 0, 0, 0, 0, 0, 0, 0, 0, 21, 0, 0, 0, 0, 0, 0, 0, 0, 0, 0, 0, 0, 0, 0, 0, 0, 0, 0, 0, 0, 0, 0, 0, 0, 0, 0, 0, 0, 0, 0, 0, 0, 20, 0, 0, 0, 0, 0, 0, 0, 0, 0, 0, 0, 0, 0, 0, 0, 0, 0, 0, 0, 0, 0, 0, 0, 0, 0, 0, 0, 0, 0, 0, 0, 0, 0, 0, 0, 0, 0, 0, 0, 0, 0, 0, 0, 0, 0, 0, 0, 0, 0, 0, 0, 0, 0, 0, 0, 0, 0, 0, 0, 0, 0, 0, 0, 0, 0, 0, 0, 0, 0, 0, 0, 0, 0, 0, 0, 0, 0, 0, 0, 0, 0, 0, 0, 0, 0, 0, 0, 0, 0, 0, 0, 0, 0, 0, 0, 0, 55, 60, 58, 61, 0, 0, 59, 0, 56, 0, 0, 0, 0, 149, 0, 148, 80, 0, 0, 0, 0, 106, 0, 0, 0, 0, 0, 0, 0, 0, 0, 0, 0, 0, 0, 0, 0, 0, 0, 0, 0, 0, 0, 0, 0, 0, 0, 0, 84, 0, 0, 0, 0, 0, 0, 0, 0, 0, 0, 0, 0, 0, 0, 0, 0, 0, 0, 0, 0, 0, 126, 115, 0, 0, 0, 0, 0, 0, 0, 95, 0, 0, 0, 0, 0, 144, 105, 0, 0, 0, 0, 0, 0, 0, 0, 0, 0, 0, 0, 0, 0, 0, 0, 0, 0, 0, 0, 0, 0, 0, 0, 108, 109, 110, 0, 0, 107, 0, 0, 0, 0, 0, 0, 0, 0, 0, 0, 0, 0, 0, 0, 0, 0, 0, 0, 0, 0, 0, 0, 0, 0, 0, 0, 0, 154, 0, 156]
def fm (k : Nat) : Nat := fmL.getD k 0
theorem k84 : (Try.prog.funcs[4]?).any (okF Try.prog fm (lw_N 167 134)) = true := by kernel_rfl
theorem k14 : (Try.prog.funcs[15]?).any (okF Try.prog fm c_laws_szSolution) = true := by kernel_rfl
theorem k16 : (Try.prog.funcs[17]?).any (okF Try.prog fm c_laws_toSolution) = true := by kernel_rfl
theorem k18 : (Try.prog.funcs[19]?).any (okF Try.prog fm c_laws_eqSolution) = true := by kernel_rfl
theorem k167 : (Try.prog.funcs[20]?).any (okF Try.prog fm c_spec_RightGroupOrder) = true := by kernel_rfl
theorem k134 : (Try.prog.funcs[21]?).any (okF Try.prog fm c_impl_RightGroupOrder) = true := by kernel_rfl
theorem k9 : (Try.prog.funcs[28]?).any (okF Try.prog fm c_laws_eqInt64S) = true := by kernel_rfl
theorem k7 : (Try.prog.funcs[32]?).any (okF Try.prog fm c_laws_toInt64S) = true := by kernel_rfl
theorem k21 : (Try.prog.funcs[34]?).any (okF Try.prog fm c_laws_eqInt64SS) = true := by kernel_rfl
theorem k27 : (Try.prog.funcs[54]?).any (okF Try.prog fm c_laws_szInt64SS) = true := by kernel_rfl
theorem k264 : (Try.prog.funcs[55]?).any (okF Try.prog fm c_spec_l07Is) = true := by kernel_rfl
theorem k272 : (Try.prog.funcs[56]?).any (okF Try.prog fm c_spec_l07Order) = true := by kernel_rfl
theorem k32 : (Try.prog.funcs[57]?).any (okF Try.prog fm c_laws_toInt64SS) = true := by kernel_rfl
theorem k266 : (Try.prog.funcs[58]?).any (okF Try.prog fm c_impl_isRegular) = true := by kernel_rfl
theorem k270 : (Try.prog.funcs[59]?).any (okF Try.prog fm c_impl_limitedOrder) = true := by kernel_rfl
theorem k265 : (Try.prog.funcs[60]?).any (okF Try.prog fm c_spec_l01Turn) = true := by kernel_rfl
theorem k267 : (Try.prog.funcs[61]?).any (okF Try.prog fm c_impl_transposed) = true := by kernel_rfl
theorem k30 : (Try.prog.funcs[70]?).any (okF Try.prog fm c_spec_l01In) = true := by kernel_rfl
theorem k41 : (Try.prog.funcs[77]?).any (okF Try.prog fm c_spec_l02Is) = true := by kernel_rfl
theorem k280 : (Try.prog.funcs[80]?).any (okF Try.prog fm c_spec_l01Own2) = true := by kernel_rfl
theorem k42 : (Try.prog.funcs[81]?).any (okF Try.prog fm c_impl_IsSolution) = true := by kernel_rfl
theorem k312 : (Try.prog.funcs[84]?).any (okF Try.prog fm c_impl_digitsText) = true := by kernel_rfl
theorem k343 : (Try.prog.funcs[95]?).any (okF Try.prog fm c_spec_l01Group) = true := by kernel_rfl
theorem k45 : (Try.prog.funcs[104]?).any (okF Try.prog fm c_laws_szInt64S) = true := by kernel_rfl
theorem k350 : (Try.prog.funcs[105]?).any (okF Try.prog fm c_spec_l02Good) = true := by kernel_rfl
theorem k285 : (Try.prog.funcs[106]?).any (okF Try.prog fm c_impl_isNondegenerate) = true := by kernel_rfl
theorem k380 : (Try.prog.funcs[107]?).any (okF Try.prog fm c_impl_groupOrder) = true := by kernel_rfl
theorem k375 : (Try.prog.funcs[108]?).any (okF Try.prog fm c_spec_l01Column) = true := by kernel_rfl
theorem k376 : (Try.prog.funcs[109]?).any (okF Try.prog fm c_impl_tableBy) = true := by kernel_rfl
theorem k377 : (Try.prog.funcs[110]?).any (okF Try.prog fm c_impl_transposed_1) = true := by kernel_rfl
theorem k67 : (Try.prog.funcs[111]?).any (okF Try.prog fm c_spec_l01Same) = true := by kernel_rfl
theorem k62 : (Try.prog.funcs[113]?).any (okF Try.prog fm c_spec_l01Has) = true := by kernel_rfl
theorem k69 : (Try.prog.funcs[114]?).any (okF Try.prog fm c_spec_l01Index) = true := by kernel_rfl
theorem k335 : (Try.prog.funcs[115]?).any (okF Try.prog fm c_impl_identity) = true := by kernel_rfl
theorem k59 : (Try.prog.funcs[119]?).any (okF Try.prog fm c_impl_IsPairMap) = true := by kernel_rfl
theorem k334 : (Try.prog.funcs[126]?).any (okF Try.prog fm c_spec_l01Unit) = true := by kernel_rfl
theorem k54 : (Try.prog.funcs[127]?).any (okF Try.prog fm c_impl_allWithin) = true := by kernel_rfl
theorem k56 : (Try.prog.funcs[129]?).any (okF Try.prog fm c_spec_l02Map) = true := by kernel_rfl
theorem k57 : (Try.prog.funcs[130]?).any (okF Try.prog fm c_spec_l02Collision) = true := by kernel_rfl
theorem k58 : (Try.prog.funcs[131]?).any (okF Try.prog fm c_spec_l02Fault) = true := by kernel_rfl
theorem k31 : (Try.prog.funcs[133]?).any (okF Try.prog fm c_spec_l01Own) = true := by kernel_rfl
theorem k60 : (Try.prog.funcs[136]?).any (okF Try.prog fm c_impl_collisionOf) = true := by kernel_rfl
theorem k61 : (Try.prog.funcs[137]?).any (okF Try.prog fm c_impl_equationFault) = true := by kernel_rfl
theorem k68 : (Try.prog.funcs[143]?).any (okF Try.prog fm c_spec_l02Do) = true := by kernel_rfl
theorem k349 : (Try.prog.funcs[144]?).any (okF Try.prog fm c_spec_l01Put) = true := by kernel_rfl
theorem k70 : (Try.prog.funcs[146]?).any (okF Try.prog fm c_slices_IndexFunc_____int64___int64_) = true := by kernel_rfl
theorem k279 : (Try.prog.funcs[148]?).any (okF Try.prog fm c_spec_l01Then) = true := by kernel_rfl
theorem k277 : (Try.prog.funcs[149]?).any (okF Try.prog fm c_impl_then) = true := by kernel_rfl
theorem k63 : (Try.prog.funcs[150]?).any (okF Try.prog fm c_slices_ContainsFunc_____int64___int64_) = true := by kernel_rfl
theorem k35 : (Try.prog.funcs[152]?).any (okF Try.prog fm c_impl_within) = true := by kernel_rfl
theorem k408 : (Try.prog.funcs[154]?).any (okF Try.prog fm c_spec_l01Less) = true := by kernel_rfl
theorem k410 : (Try.prog.funcs[156]?).any (okF Try.prog fm c_spec_l01Rows) = true := by kernel_rfl
theorem k51 : (Try.prog.funcs[157]?).any (okF Try.prog fm c_impl_permutationRows) = true := by kernel_rfl
theorem k50 : (Try.prog.funcs[159]?).any (okF Try.prog fm c_impl_IsTable) = true := by kernel_rfl
theorem k46 : (Try.prog.funcs[165]?).any (okF Try.prog fm c_spec_l01Table) = true := by kernel_rfl
theorem k47 : (Try.prog.funcs[181]?).any (okF Try.prog fm c_spec_l01Perm) = true := by kernel_rfl
theorem k65 : (Try.prog.funcs[182]?).any (okF Try.prog fm c_impl_permutationRows_1) = true := by kernel_rfl
theorem k66 : (Try.prog.funcs[183]?).any (okF Try.prog fm c_impl_isPermuted) = true := by kernel_rfl
theorem k64 : (Try.prog.funcs[184]?).any (okF Try.prog fm c_impl_IsTable_1) = true := by kernel_rfl
def tab : List (Nat × F) := [(84, (lw_N 167 134)), (14, c_laws_szSolution), (16, c_laws_toSolution), (18, c_laws_eqSolution), (167, c_spec_RightGroupOrder), (134, c_impl_RightGroupOrder), (9, c_laws_eqInt64S), (7, c_laws_toInt64S), (21, c_laws_eqInt64SS), (27, c_laws_szInt64SS), (264, c_spec_l07Is), (272, c_spec_l07Order), (32, c_laws_toInt64SS), (266, c_impl_isRegular), (270, c_impl_limitedOrder), (265, c_spec_l01Turn), (267, c_impl_transposed), (30, c_spec_l01In), (41, c_spec_l02Is), (280, c_spec_l01Own2), (42, c_impl_IsSolution), (312, c_impl_digitsText), (343, c_spec_l01Group), (45, c_laws_szInt64S), (350, c_spec_l02Good), (285, c_impl_isNondegenerate), (380, c_impl_groupOrder), (375, c_spec_l01Column), (376, c_impl_tableBy), (377, c_impl_transposed_1), (67, c_spec_l01Same), (62, c_spec_l01Has), (69, c_spec_l01Index), (335, c_impl_identity), (59, c_impl_IsPairMap), (334, c_spec_l01Unit), (54, c_impl_allWithin), (56, c_spec_l02Map), (57, c_spec_l02Collision), (58, c_spec_l02Fault), (31, c_spec_l01Own), (60, c_impl_collisionOf), (61, c_impl_equationFault), (68, c_spec_l02Do), (349, c_spec_l01Put), (70, c_slices_IndexFunc_____int64___int64_), (279, c_spec_l01Then), (277, c_impl_then), (63, c_slices_ContainsFunc_____int64___int64_), (35, c_impl_within), (408, c_spec_l01Less), (410, c_spec_l01Rows), (51, c_impl_permutationRows), (50, c_impl_IsTable), (46, c_spec_l01Table), (47, c_spec_l01Perm), (65, c_impl_permutationRows_1), (66, c_impl_isPermuted), (64, c_impl_IsTable_1)]
def pg : Pg := { fn := fun f => (tab.find? fun x => x.1 == f).map (·.2) }
theorem all_ok : ∀ x, x ∈ tab → (Try.prog.funcs[fm x.1]?).any (okF Try.prog fm x.2) = true := by
  intro x hx
  unfold tab at hx
  simp only [List.mem_cons, List.not_mem_nil, or_false] at hx
  rcases hx with rfl | rfl | rfl | rfl | rfl | rfl | rfl | rfl | rfl | rfl | rfl | rfl | rfl | rfl | rfl | rfl | rfl | rfl | rfl | rfl | rfl | rfl | rfl | rfl | rfl | rfl | rfl | rfl | rfl | rfl | rfl | rfl | rfl | rfl | rfl | rfl | rfl | rfl | rfl | rfl | rfl | rfl | rfl | rfl | rfl | rfl | rfl | rfl | rfl | rfl | rfl | rfl | rfl | rfl | rfl | rfl | rfl | rfl | rfl
  · exact k84
  · exact k14
  · exact k16
  · exact k18
  · exact k167
  · exact k134
  · exact k9
  · exact k7
  · exact k21
  · exact k27
  · exact k264
  · exact k272
  · exact k32
  · exact k266
  · exact k270
  · exact k265
  · exact k267
  · exact k30
  · exact k41
  · exact k280
  · exact k42
  · exact k312
  · exact k343
  · exact k45
  · exact k350
  · exact k285
  · exact k380
  · exact k375
  · exact k376
  · exact k377
  · exact k67
  · exact k62
  · exact k69
  · exact k335
  · exact k59
  · exact k334
  · exact k54
  · exact k56
  · exact k57
  · exact k58
  · exact k31
  · exact k60
  · exact k61
  · exact k68
  · exact k349
  · exact k70
  · exact k279
  · exact k277
  · exact k63
  · exact k35
  · exact k408
  · exact k410
  · exact k51
  · exact k50
  · exact k46
  · exact k47
  · exact k65
  · exact k66
  · exact k64
theorem follows : Try.prog.follows .mixedOrders = true := by kernel_rfl
theorem prog_ok : ∀ f F, pg.fn f = some F → ∃ fn, Try.prog.funcs[fm f]? = some fn ∧ okF Try.prog fm F fn = true := by
  intro f F h
  simp only [pg, Option.map_eq_some_iff] at h
  obtain ⟨x, h1, rfl⟩ := h
  have hm := List.mem_of_find?_eq_some h1
  have he := List.find?_some h1
  simp only [beq_iff_eq] at he
  have := all_ok x hm
  rw [he] at this
  rw [Option.any_eq_true] at this
  exact this
theorem pact {f : Nat} {args args' : List T} {r : T} (h : Go.Mch.Call pg f args args' r) : Pact Try.prog fm f args args' r :=
  sound follows (fun _ _ _ _ h => False.elim h) prog_ok h
end Go.Proofs.Ytbjgmanbanhhiaa.Tie
