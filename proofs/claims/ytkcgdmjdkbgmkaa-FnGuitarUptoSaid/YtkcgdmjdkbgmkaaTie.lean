/- The compact code of the functions is this seat's program's: what the machine calls good, the program does. -/
import Derived.Test.YtkcgdmjdkbgmkaaRows
import Derived.KernelRfl
import Derived.Test.YtkcgdmjdkbgmkaaM4
import Derived.Test.YtkcgdmjdkbgmkaaYeA
import Derived.Test.YtkcgdmjdkbgmkaaYeB
import Derived.Test.YtkcgdmjdkbgmkaaYeC
import Derived.Test.YtkcgdmjdkbgmkaaYeD
import Derived.Test.YtkcgdmjdkbgmkaaYeG
namespace Go.Proofs.Ytkcgdmjdkbgmkaa.Tie
open Go.Mch
def fmL : List Nat := [0, 0, 0, 0, 0, 0, 0, 0, 36, 0, 0, 0, 0, 0, 0, 0, 0, 0, 0, 0, 0, 0, 0, 0, 0, 0, 35, 0, 49, 109, 39, 119, 0, 47, 82, 57, 79, 0, 0, 42, 0, 85, 25, 0, 83, 0, 94, 72, 95, 126, 90, 91, 92, 0, 87, 0, 112, 113, 114, 51, 60, 61, 106, 116, 117, 118, 66, 107, 128, 124, 132, 0, 0, 0, 0, 0, 0, 0, 0, 0, 0, 0, 0, 0, 0, 0, 0, 0, 0, 0, 0, 0, 0, 0, 0, 0, 0, 0, 0, 0, 0, 0, 0, 0, 0, 0, 6, 0, 0, 0, 0, 0, 0, 0, 0, 0, 0, 0, 0, 0, 0, 0, 0, 0, 0, 0, 0, 0, 14, 0, 0, 0, 0, 0, 0, 0, 0, 0, 0, 0, 0, 33, 0, 0, 0, 32, 31, 0, 20, 0, 0, 34, 0, 0, 0, 0, 0, 0, 0, 0, 0, 0, 0, 0, 0, 0, 0, 0, 0, 0, 29, 0, 0, 0, 0, 0, 0, 0, 0, 0, 0, 0, 0, 0, 0, 0, 0, 0, 0, 0, 0, 0, 0, 0, 0, 0, 0, 0, 0, 0, 0, 0, 0, 0, 0, 0, 0, 0, 0, 0, 0, 0, 0, 0, 0, 0, 30, 0, 0, 0, 0, 0, 0, 0, 0, 0, 0, 0, 0, 0, 0, 0, 0, 76, 0, 0, 0, 0, 0, 0, 0, 0, 0, 0, 0, 0, 0, 0, 0, 0, 0, 0, 0, 0, 0, 0, 0, 0, 0, 0, 0, 0, 0, 0, 0, 0, 0, 97, 0, 46, 0, 0, 0, 0, 0, 0, 0, 0, 0, 64, 96, 80, 78, 110, 0, 52, 53, 81, 0, 0, 0, 0, 0, 0, 0, 0, 0, 0, 0, 0, 0, 0, 73, 74, 75, 0, 0, 0, 0, 0, 0, 77, 0, 0, 0, 0, 0, 0, 0, 0, 0, 0, 0, 0, 50, 0, 0, 0, 0, 0, 0, 0, 0, 0, 147, 0, 62, 0, 65, 0, 0, 0, 0, 0, 0, 0, 0, 0, 0, 0, 0, 0, 0, 0, 108, 0, 0, 0, 0, 0, 0, 0, 0, 0, 0, 0, 0, 146, 136, 0, 0, 0, 0, 0, 0, 127, 98, 120, 0, 0, 0, 0, 0, 99, 111, 0, 0, 0, 0, 0, 0, 0, 0, 0, 0, 0, 0, 0, 149, 0, 0, 89, 0, 0, 0, 0, 145, 0, 0, 0, 0, 0, 125, 0, 0, 0, 0, 0, 0, 0, 0, 0, 135, 140, 0, 148, 0, 0, 0, 0, 0, 0, 0, 0, 0, 0, 0, 0, 0, 0, 0, 0, 0, 0, 115, 134, 0, 0, 0, 139, 0, 0, 0, 0, 0, 129, 130, 131, 141, 142, 143, 144, 0, 0, 0, 0, 137]
def fm (k : Nat) : Nat := fmL.getD k 0
theorem k106 : (Try.prog.funcs[6]?).any (okF Try.prog fm c_laws_FnGuitar) = true := by kernel_rfl
theorem k128 : (Try.prog.funcs[14]?).any (okF Try.prog fm c_laws_big) = true := by kernel_rfl
theorem k148 : (Try.prog.funcs[20]?).any (okF Try.prog fm c_impl_DerivedRack) = true := by kernel_rfl
theorem k42 : (Try.prog.funcs[25]?).any (okF Try.prog fm c_impl_IsSolution) = true := by kernel_rfl
theorem k170 : (Try.prog.funcs[29]?).any (okF Try.prog fm c_spec_TwistedSolution) = true := by kernel_rfl
theorem k216 : (Try.prog.funcs[30]?).any (okF Try.prog fm c_spec_DrawGuitarMap) = true := by kernel_rfl
theorem k146 : (Try.prog.funcs[31]?).any (okF Try.prog fm c_impl_GuitarMap) = true := by kernel_rfl
theorem k145 : (Try.prog.funcs[32]?).any (okF Try.prog fm c_spec_GuitarMap) = true := by kernel_rfl
theorem k141 : (Try.prog.funcs[33]?).any (okF Try.prog fm c_laws_likeInts) = true := by kernel_rfl
theorem k151 : (Try.prog.funcs[34]?).any (okF Try.prog fm c_impl_GuitarBack) = true := by kernel_rfl
theorem k26 : (Try.prog.funcs[35]?).any (okF Try.prog fm c_impl_TupleMove) = true := by kernel_rfl
theorem k8 : (Try.prog.funcs[36]?).any (okF Try.prog fm c_impl_RackMove) = true := by kernel_rfl
theorem k30 : (Try.prog.funcs[39]?).any (okF Try.prog fm c_spec_l01In) = true := by kernel_rfl
theorem k39 : (Try.prog.funcs[42]?).any (okF Try.prog fm c_impl_areElements) = true := by kernel_rfl
theorem k269 : (Try.prog.funcs[46]?).any (okF Try.prog fm c_spec_l01From) = true := by kernel_rfl
theorem k33 : (Try.prog.funcs[47]?).any (okF Try.prog fm c_impl_IsRack) = true := by kernel_rfl
theorem k28 : (Try.prog.funcs[49]?).any (okF Try.prog fm c_spec_l03Is) = true := by kernel_rfl
theorem k324 : (Try.prog.funcs[50]?).any (okF Try.prog fm c_spec_l03Solution) = true := by kernel_rfl
theorem k59 : (Try.prog.funcs[51]?).any (okF Try.prog fm c_impl_IsPairMap) = true := by kernel_rfl
theorem k285 : (Try.prog.funcs[52]?).any (okF Try.prog fm c_impl_isNondegenerate) = true := by kernel_rfl
theorem k286 : (Try.prog.funcs[53]?).any (okF Try.prog fm c_impl_derivedRack) = true := by kernel_rfl
theorem k35 : (Try.prog.funcs[57]?).any (okF Try.prog fm c_impl_within) = true := by kernel_rfl
theorem k60 : (Try.prog.funcs[60]?).any (okF Try.prog fm c_impl_collisionOf) = true := by kernel_rfl
theorem k61 : (Try.prog.funcs[61]?).any (okF Try.prog fm c_impl_equationFault) = true := by kernel_rfl
theorem k336 : (Try.prog.funcs[62]?).any (okF Try.prog fm c_spec_l01Next) = true := by kernel_rfl
theorem k279 : (Try.prog.funcs[64]?).any (okF Try.prog fm c_spec_l01Then) = true := by kernel_rfl
theorem k338 : (Try.prog.funcs[65]?).any (okF Try.prog fm c_spec_l03DrawPerm) = true := by kernel_rfl
theorem k66 : (Try.prog.funcs[66]?).any (okF Try.prog fm c_impl_isPermuted) = true := by kernel_rfl
theorem k47 : (Try.prog.funcs[72]?).any (okF Try.prog fm c_spec_l01Perm) = true := by kernel_rfl
theorem k302 : (Try.prog.funcs[73]?).any (okF Try.prog fm c_spec_l01Same2) = true := by kernel_rfl
theorem k303 : (Try.prog.funcs[74]?).any (okF Try.prog fm c_spec_l03Image) = true := by kernel_rfl
theorem k304 : (Try.prog.funcs[75]?).any (okF Try.prog fm c_spec_l01Back) = true := by kernel_rfl
theorem k233 : (Try.prog.funcs[76]?).any (okF Try.prog fm c_spec_DrawDerivedRack) = true := by kernel_rfl
theorem k311 : (Try.prog.funcs[77]?).any (okF Try.prog fm c_spec_l06DrawTuple) = true := by kernel_rfl
theorem k282 : (Try.prog.funcs[78]?).any (okF Try.prog fm c_impl_checkGuitar) = true := by kernel_rfl
theorem k36 : (Try.prog.funcs[79]?).any (okF Try.prog fm c_slices_Clone___int64_int64_) = true := by kernel_rfl
theorem k281 : (Try.prog.funcs[80]?).any (okF Try.prog fm c_spec_l06Code) = true := by kernel_rfl
theorem k287 : (Try.prog.funcs[81]?).any (okF Try.prog fm c_impl_indexIn) = true := by kernel_rfl
theorem k34 : (Try.prog.funcs[82]?).any (okF Try.prog fm c_impl_isTuple) = true := by kernel_rfl
theorem k44 : (Try.prog.funcs[83]?).any (okF Try.prog fm c_impl_moved) = true := by kernel_rfl
theorem k41 : (Try.prog.funcs[85]?).any (okF Try.prog fm c_spec_l02Is) = true := by kernel_rfl
theorem k54 : (Try.prog.funcs[87]?).any (okF Try.prog fm c_impl_allWithin) = true := by kernel_rfl
theorem k401 : (Try.prog.funcs[89]?).any (okF Try.prog fm c_spec_l03Draw) = true := by kernel_rfl
theorem k50 : (Try.prog.funcs[90]?).any (okF Try.prog fm c_impl_IsTable) = true := by kernel_rfl
theorem k51 : (Try.prog.funcs[91]?).any (okF Try.prog fm c_impl_permutationRows) = true := by kernel_rfl
theorem k52 : (Try.prog.funcs[92]?).any (okF Try.prog fm c_impl_rackFault) = true := by kernel_rfl
theorem k46 : (Try.prog.funcs[94]?).any (okF Try.prog fm c_spec_l01Table) = true := by kernel_rfl
theorem k48 : (Try.prog.funcs[95]?).any (okF Try.prog fm c_spec_l03Fault) = true := by kernel_rfl
theorem k280 : (Try.prog.funcs[96]?).any (okF Try.prog fm c_spec_l01Own2) = true := by kernel_rfl
theorem k267 : (Try.prog.funcs[97]?).any (okF Try.prog fm c_impl_transposed) = true := by kernel_rfl
theorem k376 : (Try.prog.funcs[98]?).any (okF Try.prog fm c_impl_tableBy) = true := by kernel_rfl
theorem k383 : (Try.prog.funcs[99]?).any (okF Try.prog fm c_impl_derivedRack_1) = true := by kernel_rfl
theorem k62 : (Try.prog.funcs[106]?).any (okF Try.prog fm c_spec_l01Has) = true := by kernel_rfl
theorem k67 : (Try.prog.funcs[107]?).any (okF Try.prog fm c_spec_l01Same) = true := by kernel_rfl
theorem k354 : (Try.prog.funcs[108]?).any (okF Try.prog fm c_spec_l06Draw) = true := by kernel_rfl
theorem k29 : (Try.prog.funcs[109]?).any (okF Try.prog fm c_spec_l06Tuple) = true := by kernel_rfl
theorem k283 : (Try.prog.funcs[110]?).any (okF Try.prog fm c_spec_l06Plain) = true := by kernel_rfl
theorem k384 : (Try.prog.funcs[111]?).any (okF Try.prog fm c_slices_Index___int64_int64_) = true := by kernel_rfl
theorem k56 : (Try.prog.funcs[112]?).any (okF Try.prog fm c_spec_l02Map) = true := by kernel_rfl
theorem k57 : (Try.prog.funcs[113]?).any (okF Try.prog fm c_spec_l02Collision) = true := by kernel_rfl
theorem k58 : (Try.prog.funcs[114]?).any (okF Try.prog fm c_spec_l02Fault) = true := by kernel_rfl
theorem k444 : (Try.prog.funcs[115]?).any (okF Try.prog fm c_spec_l03DrawTable) = true := by kernel_rfl
theorem k63 : (Try.prog.funcs[116]?).any (okF Try.prog fm c_slices_ContainsFunc_____int64___int64_) = true := by kernel_rfl
theorem k64 : (Try.prog.funcs[117]?).any (okF Try.prog fm c_impl_IsTable_1) = true := by kernel_rfl
theorem k65 : (Try.prog.funcs[118]?).any (okF Try.prog fm c_impl_permutationRows_1) = true := by kernel_rfl
theorem k31 : (Try.prog.funcs[119]?).any (okF Try.prog fm c_spec_l01Own) = true := by kernel_rfl
theorem k377 : (Try.prog.funcs[120]?).any (okF Try.prog fm c_impl_transposed_1) = true := by kernel_rfl
theorem k69 : (Try.prog.funcs[124]?).any (okF Try.prog fm c_spec_l01Index) = true := by kernel_rfl
theorem k412 : (Try.prog.funcs[125]?).any (okF Try.prog fm c_spec_l02Draw) = true := by kernel_rfl
theorem k49 : (Try.prog.funcs[126]?).any (okF Try.prog fm c_spec_l04Elements) = true := by kernel_rfl
theorem k375 : (Try.prog.funcs[127]?).any (okF Try.prog fm c_spec_l01Column) = true := by kernel_rfl
theorem k68 : (Try.prog.funcs[128]?).any (okF Try.prog fm c_spec_l02Do) = true := by kernel_rfl
theorem k455 : (Try.prog.funcs[129]?).any (okF Try.prog fm c_spec_l03Alexander) = true := by kernel_rfl
theorem k456 : (Try.prog.funcs[130]?).any (okF Try.prog fm c_spec_l03Coprime) = true := by kernel_rfl
theorem k457 : (Try.prog.funcs[131]?).any (okF Try.prog fm c_spec_l01Perms) = true := by kernel_rfl
theorem k70 : (Try.prog.funcs[132]?).any (okF Try.prog fm c_slices_IndexFunc_____int64___int64_) = true := by kernel_rfl
theorem k445 : (Try.prog.funcs[134]?).any (okF Try.prog fm c_spec_l02Any) = true := by kernel_rfl
theorem k422 : (Try.prog.funcs[135]?).any (okF Try.prog fm c_spec_l02Rename) = true := by kernel_rfl
theorem k368 : (Try.prog.funcs[136]?).any (okF Try.prog fm c_spec_l01Draw) = true := by kernel_rfl
theorem k466 : (Try.prog.funcs[137]?).any (okF Try.prog fm c_spec_l01Grow) = true := by kernel_rfl
theorem k449 : (Try.prog.funcs[139]?).any (okF Try.prog fm c_spec_l02Flip) = true := by kernel_rfl
theorem k423 : (Try.prog.funcs[140]?).any (okF Try.prog fm c_spec_l02Polygon) = true := by kernel_rfl
theorem k458 : (Try.prog.funcs[141]?).any (okF Try.prog fm c_spec_l02Product) = true := by kernel_rfl
theorem k459 : (Try.prog.funcs[142]?).any (okF Try.prog fm c_spec_l02Twisted) = true := by kernel_rfl
theorem k460 : (Try.prog.funcs[143]?).any (okF Try.prog fm c_spec_l02Union) = true := by kernel_rfl
theorem k461 : (Try.prog.funcs[144]?).any (okF Try.prog fm c_spec_l02Involutive) = true := by kernel_rfl
theorem k406 : (Try.prog.funcs[145]?).any (okF Try.prog fm c_spec_l02Inverse) = true := by kernel_rfl
theorem k367 : (Try.prog.funcs[146]?).any (okF Try.prog fm c_spec_l01Rename) = true := by kernel_rfl
theorem k334 : (Try.prog.funcs[147]?).any (okF Try.prog fm c_spec_l01Unit) = true := by kernel_rfl
theorem k425 : (Try.prog.funcs[148]?).any (okF Try.prog fm c_spec_l02Twist) = true := by kernel_rfl
theorem k398 : (Try.prog.funcs[149]?).any (okF Try.prog fm c_spec_l02Empty) = true := by kernel_rfl
def tab : List (Nat × F) := [(106, c_laws_FnGuitar), (128, c_laws_big), (148, c_impl_DerivedRack), (42, c_impl_IsSolution), (170, c_spec_TwistedSolution), (216, c_spec_DrawGuitarMap), (146, c_impl_GuitarMap), (145, c_spec_GuitarMap), (141, c_laws_likeInts), (151, c_impl_GuitarBack), (26, c_impl_TupleMove), (8, c_impl_RackMove), (30, c_spec_l01In), (39, c_impl_areElements), (269, c_spec_l01From), (33, c_impl_IsRack), (28, c_spec_l03Is), (324, c_spec_l03Solution), (59, c_impl_IsPairMap), (285, c_impl_isNondegenerate), (286, c_impl_derivedRack), (35, c_impl_within), (60, c_impl_collisionOf), (61, c_impl_equationFault), (336, c_spec_l01Next), (279, c_spec_l01Then), (338, c_spec_l03DrawPerm), (66, c_impl_isPermuted), (47, c_spec_l01Perm), (302, c_spec_l01Same2), (303, c_spec_l03Image), (304, c_spec_l01Back), (233, c_spec_DrawDerivedRack), (311, c_spec_l06DrawTuple), (282, c_impl_checkGuitar), (36, c_slices_Clone___int64_int64_), (281, c_spec_l06Code), (287, c_impl_indexIn), (34, c_impl_isTuple), (44, c_impl_moved), (41, c_spec_l02Is), (54, c_impl_allWithin), (401, c_spec_l03Draw), (50, c_impl_IsTable), (51, c_impl_permutationRows), (52, c_impl_rackFault), (46, c_spec_l01Table), (48, c_spec_l03Fault), (280, c_spec_l01Own2), (267, c_impl_transposed), (376, c_impl_tableBy), (383, c_impl_derivedRack_1), (62, c_spec_l01Has), (67, c_spec_l01Same), (354, c_spec_l06Draw), (29, c_spec_l06Tuple), (283, c_spec_l06Plain), (384, c_slices_Index___int64_int64_), (56, c_spec_l02Map), (57, c_spec_l02Collision), (58, c_spec_l02Fault), (444, c_spec_l03DrawTable), (63, c_slices_ContainsFunc_____int64___int64_), (64, c_impl_IsTable_1), (65, c_impl_permutationRows_1), (31, c_spec_l01Own), (377, c_impl_transposed_1), (69, c_spec_l01Index), (412, c_spec_l02Draw), (49, c_spec_l04Elements), (375, c_spec_l01Column), (68, c_spec_l02Do), (455, c_spec_l03Alexander), (456, c_spec_l03Coprime), (457, c_spec_l01Perms), (70, c_slices_IndexFunc_____int64___int64_), (445, c_spec_l02Any), (422, c_spec_l02Rename), (368, c_spec_l01Draw), (466, c_spec_l01Grow), (449, c_spec_l02Flip), (423, c_spec_l02Polygon), (458, c_spec_l02Product), (459, c_spec_l02Twisted), (460, c_spec_l02Union), (461, c_spec_l02Involutive), (406, c_spec_l02Inverse), (367, c_spec_l01Rename), (334, c_spec_l01Unit), (425, c_spec_l02Twist), (398, c_spec_l02Empty)]
def pg : Pg := { fn := fun f => (tab.find? fun x => x.1 == f).map (·.2) }
theorem all_ok : ∀ x, x ∈ tab → (Try.prog.funcs[fm x.1]?).any (okF Try.prog fm x.2) = true := by
 intro x hx
 unfold tab at hx
 simp only [List.mem_cons, List.not_mem_nil, or_false] at hx
 rcases hx with rfl | rfl | rfl | rfl | rfl | rfl | rfl | rfl | rfl | rfl | rfl | rfl | rfl | rfl | rfl | rfl | rfl | rfl | rfl | rfl | rfl | rfl | rfl | rfl | rfl | rfl | rfl | rfl | rfl | rfl | rfl | rfl | rfl | rfl | rfl | rfl | rfl | rfl | rfl | rfl | rfl | rfl | rfl | rfl | rfl | rfl | rfl | rfl | rfl | rfl | rfl | rfl | rfl | rfl | rfl | rfl | rfl | rfl | rfl | rfl | rfl | rfl | rfl | rfl | rfl | rfl | rfl | rfl | rfl | rfl | rfl | rfl | rfl | rfl | rfl | rfl | rfl | rfl | rfl | rfl | rfl | rfl | rfl | rfl | rfl | rfl | rfl | rfl | rfl | rfl | rfl
 · exact k106
 · exact k128
 · exact k148
 · exact k42
 · exact k170
 · exact k216
 · exact k146
 · exact k145
 · exact k141
 · exact k151
 · exact k26
 · exact k8
 · exact k30
 · exact k39
 · exact k269
 · exact k33
 · exact k28
 · exact k324
 · exact k59
 · exact k285
 · exact k286
 · exact k35
 · exact k60
 · exact k61
 · exact k336
 · exact k279
 · exact k338
 · exact k66
 · exact k47
 · exact k302
 · exact k303
 · exact k304
 · exact k233
 · exact k311
 · exact k282
 · exact k36
 · exact k281
 · exact k287
 · exact k34
 · exact k44
 · exact k41
 · exact k54
 · exact k401
 · exact k50
 · exact k51
 · exact k52
 · exact k46
 · exact k48
 · exact k280
 · exact k267
 · exact k376
 · exact k383
 · exact k62
 · exact k67
 · exact k354
 · exact k29
 · exact k283
 · exact k384
 · exact k56
 · exact k57
 · exact k58
 · exact k444
 · exact k63
 · exact k64
 · exact k65
 · exact k31
 · exact k377
 · exact k69
 · exact k412
 · exact k49
 · exact k375
 · exact k68
 · exact k455
 · exact k456
 · exact k457
 · exact k70
 · exact k445
 · exact k422
 · exact k368
 · exact k466
 · exact k449
 · exact k423
 · exact k458
 · exact k459
 · exact k460
 · exact k461
 · exact k406
 · exact k367
 · exact k334
 · exact k425
 · exact k398
theorem follows : Try.prog.follows .mixedOrders = true := by kernel_rfl
theorem prog_ok : ∀ f F, pg.fn f = some F → ∃ fn, Try.prog.funcs[fm f]? = some fn ∧ okF Try.prog fm F fn = true := by
 intro f F h
 simp only [pg, Option.map_eq_some_iff] at h
 obtain ⟨x, h1, rfl⟩ := h
 have hm := List.mem_of_find?_eq_some h1
 have he := List.find?_some h1
 simp only [beq_iff_eq] at he
 have := all_ok x hm
 rw [he] at this
 rw [Option.any_eq_true] at this
 exact this
theorem pact {f : Nat} {args args' : List T} {r : T} (h : Go.Mch.Call pg f args args' r) : Pact Try.prog fm f args args' r :=
 sound follows (fun _ _ _ _ h => False.elim h) prog_ok h
end Go.Proofs.Ytkcgdmjdkbgmkaa.Tie
