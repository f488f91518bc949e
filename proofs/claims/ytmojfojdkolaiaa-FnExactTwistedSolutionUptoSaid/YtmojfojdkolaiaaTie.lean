/- The compact code of the functions is this seat's program's: what the machine calls good, the program does. -/
import Derived.Test.YtmojfojdkolaiaaRows
import Derived.KernelRfl
import Derived.Test.YtmojfojdkolaiaaM3
import Derived.Test.YtmojfojdkolaiaaYeA
import Derived.Test.YtmojfojdkolaiaaYeB
import Derived.Test.YtmojfojdkolaiaaYeC
import Derived.Test.YtmojfojdkolaiaaP1
namespace Go.Proofs.Ytmojfojdkolaiaa.Tie
open Go.Mch
def fmL : List Nat := [0, 0, 0, 0, 24, 0, 26, 27, 0, 19, 29, 30, 22, 23, 0, 0, 0, 0, 20, 0, 0, 58, 21, 59, 72, 0, 0, 52, 60, 0, 91, 141, 55, 65, 0, 93, 0, 0, 0, 0, 0, 0, 0, 0, 0, 98, 105, 61, 106, 0, 110, 111, 112, 0, 143, 0, 0, 0, 0, 0, 0, 0, 107, 77, 142, 144, 66, 108, 0, 140, 120, 0, 0, 0, 0, 0, 0, 0, 0, 0, 0, 0, 0, 0, 0, 0, 4, 0, 0, 0, 0, 0, 0, 0, 0, 0, 0, 0, 0, 0, 0, 0, 0, 0, 0, 0, 0, 0, 0, 0, 0, 0, 0, 0, 0, 0, 0, 0, 0, 0, 0, 0, 0, 0, 0, 0, 0, 0, 0, 0, 0, 0, 0, 0, 0, 0, 0, 0, 0, 0, 0, 0, 0, 0, 0, 0, 0, 0, 0, 0, 0, 0, 0, 0, 0, 0, 0, 0, 0, 0, 0, 0, 0, 0, 0, 0, 0, 0, 0, 0, 25, 28, 31, 0, 0, 0, 0, 0, 0, 0, 0, 0, 0, 0, 0, 0, 0, 0, 0, 0, 0, 0, 0, 0, 0, 0, 0, 0, 0, 0, 0, 0, 0, 0, 0, 0, 0, 0, 0, 0, 0, 0, 0, 0, 0, 0, 0, 0, 0, 0, 0, 0, 0, 0, 0, 0, 0, 0, 0, 0, 0, 0, 0, 0, 0, 0, 0, 0, 0, 0, 0, 0, 0, 0, 0, 0, 0, 0, 0, 0, 0, 0, 0, 0, 0, 0, 0, 0, 0, 0, 0, 0, 0, 0, 0, 0, 0, 0, 0, 0, 0, 0, 0, 0, 0, 0, 0, 0, 0, 0, 109, 0, 0, 0, 0, 0, 0, 0, 0, 0, 0, 0, 0, 0, 0, 0, 0, 0, 0, 0, 0, 0, 62, 63, 64, 67, 68, 69, 70, 71, 0, 0, 0, 0, 147, 0, 0, 0, 0, 0, 0, 0, 0, 0, 0, 0, 0, 0, 0, 0, 0, 0, 0, 0, 0, 0, 0, 0, 0, 0, 0, 0, 0, 0, 0, 0, 0, 0, 0, 0, 0, 0, 0, 0, 0, 0, 0, 0, 0, 0, 0, 0, 0, 0, 0, 0, 0, 0, 0, 0, 0, 0, 0, 0, 0, 0, 114, 0, 0, 0, 0, 0, 0, 0, 0, 0, 0, 0, 0, 113, 115, 116, 117, 0, 0, 156, 0, 0, 0, 0, 0, 0, 0, 0, 0, 0, 0, 0, 0, 0, 0, 0, 0, 0, 0, 0, 0, 0, 0, 0, 0, 0, 0, 0, 0, 0, 0, 0, 0, 0, 0, 145, 146, 0, 0, 0, 0, 0, 0, 0, 0, 0, 0, 158]
def fm (k : Nat) : Nat := fmL.getD k 0
theorem k86 : (Try.prog.funcs[4]?).any (okF Try.prog fm (lw_kwS 170 171)) = true := by kernel_rfl
theorem k9 : (Try.prog.funcs[19]?).any (okF Try.prog fm c_laws_eqInt64S) = true := by kernel_rfl
theorem k18 : (Try.prog.funcs[20]?).any (okF Try.prog fm c_laws_eqSolution) = true := by kernel_rfl
theorem k22 : (Try.prog.funcs[21]?).any (okF Try.prog fm c_laws_markSolution) = true := by kernel_rfl
theorem k12 : (Try.prog.funcs[22]?).any (okF Try.prog fm c_laws_markInt64S) = true := by kernel_rfl
theorem k13 : (Try.prog.funcs[23]?).any (okF Try.prog fm c_laws_heldInt64S) = true := by kernel_rfl
theorem k4 : (Try.prog.funcs[24]?).any (okF Try.prog fm c_laws_szRack) = true := by kernel_rfl
theorem k170 : (Try.prog.funcs[25]?).any (okF Try.prog fm c_spec_TwistedSolution) = true := by kernel_rfl
theorem k6 : (Try.prog.funcs[26]?).any (okF Try.prog fm c_laws_toRack) = true := by kernel_rfl
theorem k7 : (Try.prog.funcs[27]?).any (okF Try.prog fm c_laws_toInt64S) = true := by kernel_rfl
theorem k171 : (Try.prog.funcs[28]?).any (okF Try.prog fm c_impl_TwistedSolution) = true := by kernel_rfl
theorem k10 : (Try.prog.funcs[29]?).any (okF Try.prog fm c_laws_eqRack) = true := by kernel_rfl
theorem k11 : (Try.prog.funcs[30]?).any (okF Try.prog fm c_laws_markRack) = true := by kernel_rfl
theorem k172 : (Try.prog.funcs[31]?).any (okF Try.prog fm c_laws_heldSolution) = true := by kernel_rfl
theorem k27 : (Try.prog.funcs[52]?).any (okF Try.prog fm c_laws_szInt64SS) = true := by kernel_rfl
theorem k32 : (Try.prog.funcs[55]?).any (okF Try.prog fm c_laws_toInt64SS) = true := by kernel_rfl
theorem k21 : (Try.prog.funcs[58]?).any (okF Try.prog fm c_laws_eqInt64SS) = true := by kernel_rfl
theorem k23 : (Try.prog.funcs[59]?).any (okF Try.prog fm c_laws_markInt64SS) = true := by kernel_rfl
theorem k28 : (Try.prog.funcs[60]?).any (okF Try.prog fm c_spec_l03Is) = true := by kernel_rfl
theorem k47 : (Try.prog.funcs[61]?).any (okF Try.prog fm c_spec_l01Perm) = true := by kernel_rfl
theorem k302 : (Try.prog.funcs[62]?).any (okF Try.prog fm c_spec_l01Same2) = true := by kernel_rfl
theorem k303 : (Try.prog.funcs[63]?).any (okF Try.prog fm c_spec_l03Image) = true := by kernel_rfl
theorem k304 : (Try.prog.funcs[64]?).any (okF Try.prog fm c_spec_l01Back) = true := by kernel_rfl
theorem k33 : (Try.prog.funcs[65]?).any (okF Try.prog fm c_impl_IsRack) = true := by kernel_rfl
theorem k66 : (Try.prog.funcs[66]?).any (okF Try.prog fm c_impl_isPermuted) = true := by kernel_rfl
theorem k305 : (Try.prog.funcs[67]?).any (okF Try.prog fm c_impl_equalTables) = true := by kernel_rfl
theorem k306 : (Try.prog.funcs[68]?).any (okF Try.prog fm c_impl_renamed) = true := by kernel_rfl
theorem k307 : (Try.prog.funcs[69]?).any (okF Try.prog fm c_impl_inverse) = true := by kernel_rfl
theorem k308 : (Try.prog.funcs[70]?).any (okF Try.prog fm c_impl_solutionBy) = true := by kernel_rfl
theorem k309 : (Try.prog.funcs[71]?).any (okF Try.prog fm c_impl_TwistedSolution_1) = true := by kernel_rfl
theorem k24 : (Try.prog.funcs[72]?).any (okF Try.prog fm c_laws_heldInt64SS) = true := by kernel_rfl
theorem k63 : (Try.prog.funcs[77]?).any (okF Try.prog fm c_slices_ContainsFunc_____int64___int64_) = true := by kernel_rfl
theorem k30 : (Try.prog.funcs[91]?).any (okF Try.prog fm c_spec_l01In) = true := by kernel_rfl
theorem k35 : (Try.prog.funcs[93]?).any (okF Try.prog fm c_impl_within) = true := by kernel_rfl
theorem k45 : (Try.prog.funcs[98]?).any (okF Try.prog fm c_laws_szInt64S) = true := by kernel_rfl
theorem k46 : (Try.prog.funcs[105]?).any (okF Try.prog fm c_spec_l01Table) = true := by kernel_rfl
theorem k48 : (Try.prog.funcs[106]?).any (okF Try.prog fm c_spec_l03Fault) = true := by kernel_rfl
theorem k62 : (Try.prog.funcs[107]?).any (okF Try.prog fm c_spec_l01Has) = true := by kernel_rfl
theorem k67 : (Try.prog.funcs[108]?).any (okF Try.prog fm c_spec_l01Same) = true := by kernel_rfl
theorem k280 : (Try.prog.funcs[109]?).any (okF Try.prog fm c_spec_l01Own2) = true := by kernel_rfl
theorem k50 : (Try.prog.funcs[110]?).any (okF Try.prog fm c_impl_IsTable) = true := by kernel_rfl
theorem k51 : (Try.prog.funcs[111]?).any (okF Try.prog fm c_impl_permutationRows) = true := by kernel_rfl
theorem k52 : (Try.prog.funcs[112]?).any (okF Try.prog fm c_impl_rackFault) = true := by kernel_rfl
theorem k389 : (Try.prog.funcs[113]?).any (okF Try.prog fm c_impl_compareTables) = true := by kernel_rfl
theorem k376 : (Try.prog.funcs[114]?).any (okF Try.prog fm c_impl_tableBy) = true := by kernel_rfl
theorem k390 : (Try.prog.funcs[115]?).any (okF Try.prog fm c_impl_renamed_1) = true := by kernel_rfl
theorem k391 : (Try.prog.funcs[116]?).any (okF Try.prog fm c_impl_solutionBy_1) = true := by kernel_rfl
theorem k392 : (Try.prog.funcs[117]?).any (okF Try.prog fm c_impl_solutionBy_2) = true := by kernel_rfl
theorem k70 : (Try.prog.funcs[120]?).any (okF Try.prog fm c_slices_IndexFunc_____int64___int64_) = true := by kernel_rfl
theorem k69 : (Try.prog.funcs[140]?).any (okF Try.prog fm c_spec_l01Index) = true := by kernel_rfl
theorem k31 : (Try.prog.funcs[141]?).any (okF Try.prog fm c_spec_l01Own) = true := by kernel_rfl
theorem k64 : (Try.prog.funcs[142]?).any (okF Try.prog fm c_impl_IsTable_1) = true := by kernel_rfl
theorem k54 : (Try.prog.funcs[143]?).any (okF Try.prog fm c_impl_allWithin) = true := by kernel_rfl
theorem k65 : (Try.prog.funcs[144]?).any (okF Try.prog fm c_impl_permutationRows_1) = true := by kernel_rfl
theorem k431 : (Try.prog.funcs[145]?).any (okF Try.prog fm c_slices_CompareFunc_____int64_____int64___int64___int64_) = true := by kernel_rfl
theorem k432 : (Try.prog.funcs[146]?).any (okF Try.prog fm c_impl_compareTables_1) = true := by kernel_rfl
theorem k314 : (Try.prog.funcs[147]?).any (okF Try.prog fm c_slices_Compare___int64_int64_) = true := by kernel_rfl
theorem k395 : (Try.prog.funcs[156]?).any (okF Try.prog fm c_cmp_Compare_int64_) = true := by kernel_rfl
theorem k443 : (Try.prog.funcs[158]?).any (okF Try.prog fm c_cmp_isNaN_int64_) = true := by kernel_rfl
def tab : List (Nat × F) := [(86, (lw_kwS 170 171)), (9, c_laws_eqInt64S), (18, c_laws_eqSolution), (22, c_laws_markSolution), (12, c_laws_markInt64S), (13, c_laws_heldInt64S), (4, c_laws_szRack), (170, c_spec_TwistedSolution), (6, c_laws_toRack), (7, c_laws_toInt64S), (171, c_impl_TwistedSolution), (10, c_laws_eqRack), (11, c_laws_markRack), (172, c_laws_heldSolution), (27, c_laws_szInt64SS), (32, c_laws_toInt64SS), (21, c_laws_eqInt64SS), (23, c_laws_markInt64SS), (28, c_spec_l03Is), (47, c_spec_l01Perm), (302, c_spec_l01Same2), (303, c_spec_l03Image), (304, c_spec_l01Back), (33, c_impl_IsRack), (66, c_impl_isPermuted), (305, c_impl_equalTables), (306, c_impl_renamed), (307, c_impl_inverse), (308, c_impl_solutionBy), (309, c_impl_TwistedSolution_1), (24, c_laws_heldInt64SS), (63, c_slices_ContainsFunc_____int64___int64_), (30, c_spec_l01In), (35, c_impl_within), (45, c_laws_szInt64S), (46, c_spec_l01Table), (48, c_spec_l03Fault), (62, c_spec_l01Has), (67, c_spec_l01Same), (280, c_spec_l01Own2), (50, c_impl_IsTable), (51, c_impl_permutationRows), (52, c_impl_rackFault), (389, c_impl_compareTables), (376, c_impl_tableBy), (390, c_impl_renamed_1), (391, c_impl_solutionBy_1), (392, c_impl_solutionBy_2), (70, c_slices_IndexFunc_____int64___int64_), (69, c_spec_l01Index), (31, c_spec_l01Own), (64, c_impl_IsTable_1), (54, c_impl_allWithin), (65, c_impl_permutationRows_1), (431, c_slices_CompareFunc_____int64_____int64___int64___int64_), (432, c_impl_compareTables_1), (314, c_slices_Compare___int64_int64_), (395, c_cmp_Compare_int64_), (443, c_cmp_isNaN_int64_)]
def pg : Pg := { fn := fun f => (tab.find? fun x => x.1 == f).map (·.2) }
theorem all_ok : ∀ x, x ∈ tab → (Try.prog.funcs[fm x.1]?).any (okF Try.prog fm x.2) = true := by
  intro x hx
  unfold tab at hx
  simp only [List.mem_cons, List.not_mem_nil, or_false] at hx
  rcases hx with rfl | rfl | rfl | rfl | rfl | rfl | rfl | rfl | rfl | rfl | rfl | rfl | rfl | rfl | rfl | rfl | rfl | rfl | rfl | rfl | rfl | rfl | rfl | rfl | rfl | rfl | rfl | rfl | rfl | rfl | rfl | rfl | rfl | rfl | rfl | rfl | rfl | rfl | rfl | rfl | rfl | rfl | rfl | rfl | rfl | rfl | rfl | rfl | rfl | rfl | rfl | rfl | rfl | rfl | rfl | rfl | rfl | rfl | rfl
  · exact k86
  · exact k9
  · exact k18
  · exact k22
  · exact k12
  · exact k13
  · exact k4
  · exact k170
  · exact k6
  · exact k7
  · exact k171
  · exact k10
  · exact k11
  · exact k172
  · exact k27
  · exact k32
  · exact k21
  · exact k23
  · exact k28
  · exact k47
  · exact k302
  · exact k303
  · exact k304
  · exact k33
  · exact k66
  · exact k305
  · exact k306
  · exact k307
  · exact k308
  · exact k309
  · exact k24
  · exact k63
  · exact k30
  · exact k35
  · exact k45
  · exact k46
  · exact k48
  · exact k62
  · exact k67
  · exact k280
  · exact k50
  · exact k51
  · exact k52
  · exact k389
  · exact k376
  · exact k390
  · exact k391
  · exact k392
  · exact k70
  · exact k69
  · exact k31
  · exact k64
  · exact k54
  · exact k65
  · exact k431
  · exact k432
  · exact k314
  · exact k395
  · exact k443
theorem follows : Try.prog.follows .mixedOrders = true := by kernel_rfl
theorem prog_ok : ∀ f F, pg.fn f = some F → ∃ fn, Try.prog.funcs[fm f]? = some fn ∧ okF Try.prog fm F fn = true := by
  intro f F h
  simp only [pg, Option.map_eq_some_iff] at h
  obtain ⟨x, h1, rfl⟩ := h
  have hm := List.mem_of_find?_eq_some h1
  have he := List.find?_some h1
  simp only [beq_iff_eq] at he
  have := all_ok x hm
  rw [he] at this
  rw [Option.any_eq_true] at this
  exact this
theorem pact {f : Nat} {args args' : List T} {r : T} (h : Go.Mch.Call pg f args args' r) : Pact Try.prog fm f args args' r :=
  sound follows (fun _ _ _ _ h => False.elim h) prog_ok h
end Go.Proofs.Ytmojfojdkolaiaa.Tie
