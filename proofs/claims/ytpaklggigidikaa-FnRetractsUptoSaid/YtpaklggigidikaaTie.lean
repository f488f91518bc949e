/- The compact code of the functions is this seat's program's: what the machine calls good, the program does. -/
import Derived.Test.YtpaklggigidikaaRows
import Derived.KernelRfl
import Derived.Test.YtpaklggigidikaaM4
import Derived.Test.YtpaklggigidikaaYeA
import Derived.Test.YtpaklggigidikaaYeB
import Derived.Test.YtpaklggigidikaaYeC
import Derived.Test.YtpaklggigidikaaYeD
import Derived.Test.YtpaklggigidikaaYeG
namespace Go.Proofs.Ytpaklggigidikaa.Tie
open Go.Mch
def fmL : List Nat := [0, 0, 0, 0, 0, 0, 0, 0, 0, 0, 0, 0, 0, 0, 0, 0, 0, 0, 0, 0, 0, 0, 0, 0, 0, 0, 0, 0, 0, 0, 100, 101, 0, 0, 0, 69, 47, 0, 0, 0, 0, 39, 15, 0, 0, 0, 84, 86, 0, 0, 50, 51, 0, 0, 72, 0, 61, 62, 63, 27, 30, 31, 88, 70, 71, 73, 74, 66, 85, 52, 89, 0, 0, 0, 0, 0, 0, 0, 0, 0, 0, 0, 0, 0, 0, 0, 0, 0, 0, 0, 0, 0, 0, 0, 0, 0, 0, 0, 0, 0, 0, 0, 0, 0, 0, 0, 0, 3, 0, 0, 0, 0, 0, 0, 0, 0, 0, 0, 0, 0, 0, 0, 0, 0, 0, 0, 0, 11, 4, 0, 0, 0, 0, 0, 0, 10, 0, 23, 0, 0, 0, 16, 0, 0, 0, 0, 0, 0, 0, 0, 0, 0, 0, 0, 0, 0, 0, 0, 0, 12, 13, 0, 0, 9, 0, 0, 0, 0, 0, 0, 0, 0, 0, 0, 0, 0, 0, 0, 0, 0, 0, 0, 0, 0, 0, 0, 7, 6, 0, 0, 0, 0, 0, 0, 0, 0, 0, 0, 0, 0, 0, 0, 0, 0, 0, 0, 0, 0, 0, 0, 0, 0, 0, 0, 0, 0, 0, 5, 8, 14, 0, 0, 0, 0, 0, 0, 0, 0, 0, 0, 0, 0, 0, 0, 0, 0, 0, 0, 0, 0, 0, 0, 0, 0, 0, 0, 0, 0, 0, 0, 0, 0, 0, 0, 0, 0, 0, 0, 0, 0, 0, 0, 0, 0, 21, 65, 19, 26, 17, 18, 0, 0, 0, 0, 0, 25, 45, 0, 0, 102, 103, 0, 0, 0, 0, 28, 0, 0, 43, 41, 0, 24, 83, 0, 0, 0, 0, 0, 29, 0, 0, 0, 0, 0, 92, 0, 0, 0, 37, 0, 0, 0, 0, 0, 0, 0, 0, 0, 0, 0, 22, 20, 0, 0, 0, 0, 0, 0, 0, 0, 0, 0, 0, 0, 80, 44, 32, 0, 0, 0, 0, 0, 0, 0, 0, 0, 0, 0, 0, 0, 40, 77, 0, 0, 0, 0, 0, 0, 0, 0, 0, 0, 0, 76, 78, 0, 33, 54, 55, 0, 0, 0, 0, 0, 0, 87, 48, 49, 34, 35, 0, 0, 0, 0, 68, 67, 46, 0, 0, 0, 0, 59, 60, 0, 0, 0, 0, 0, 42, 36, 38, 0, 0, 0, 0, 0, 99, 0, 0, 0, 64, 0, 56, 58, 0, 0, 0, 90, 91, 0, 0, 0, 82, 94, 75, 93, 0, 53, 57, 0, 0, 0, 0, 0, 0, 0, 0, 0, 0, 0, 0, 0, 0, 0, 0, 81, 0, 0, 0, 79, 0, 0, 0, 0, 0, 0, 0, 0, 95, 96, 97, 98]
def fm (k : Nat) : Nat := fmL.getD k 0
theorem k107 : (Try.prog.funcs[3]?).any (okF Try.prog fm c_laws_FnRetracts) = true := by kernel_rfl
theorem k128 : (Try.prog.funcs[4]?).any (okF Try.prog fm c_laws_big) = true := by kernel_rfl
theorem k217 : (Try.prog.funcs[5]?).any (okF Try.prog fm c_spec_DrawRetractOf) = true := by kernel_rfl
theorem k187 : (Try.prog.funcs[6]?).any (okF Try.prog fm c_impl_RetractOf) = true := by kernel_rfl
theorem k186 : (Try.prog.funcs[7]?).any (okF Try.prog fm c_spec_RetractOf) = true := by kernel_rfl
theorem k218 : (Try.prog.funcs[8]?).any (okF Try.prog fm c_laws_likeSolution5) = true := by kernel_rfl
theorem k163 : (Try.prog.funcs[9]?).any (okF Try.prog fm c_impl_AlikeClasses) = true := by kernel_rfl
theorem k135 : (Try.prog.funcs[10]?).any (okF Try.prog fm c_impl_LambdaMaps) = true := by kernel_rfl
theorem k127 : (Try.prog.funcs[11]?).any (okF Try.prog fm c_impl_RhoMaps) = true := by kernel_rfl
theorem k159 : (Try.prog.funcs[12]?).any (okF Try.prog fm c_impl_IsNondegenerate) = true := by kernel_rfl
theorem k160 : (Try.prog.funcs[13]?).any (okF Try.prog fm c_impl_IsInvolutive) = true := by kernel_rfl
theorem k219 : (Try.prog.funcs[14]?).any (okF Try.prog fm c_laws_top5) = true := by kernel_rfl
theorem k42 : (Try.prog.funcs[15]?).any (okF Try.prog fm c_impl_IsSolution) = true := by kernel_rfl
theorem k141 : (Try.prog.funcs[16]?).any (okF Try.prog fm c_laws_likeInts) = true := by kernel_rfl
theorem k268 : (Try.prog.funcs[17]?).any (okF Try.prog fm c_spec_l07Spoil) = true := by kernel_rfl
theorem k269 : (Try.prog.funcs[18]?).any (okF Try.prog fm c_spec_l01From) = true := by kernel_rfl
theorem k266 : (Try.prog.funcs[19]?).any (okF Try.prog fm c_impl_isRegular) = true := by kernel_rfl
theorem k321 : (Try.prog.funcs[20]?).any (okF Try.prog fm c_impl_retractOf) = true := by kernel_rfl
theorem k264 : (Try.prog.funcs[21]?).any (okF Try.prog fm c_spec_l07Is) = true := by kernel_rfl
theorem k320 : (Try.prog.funcs[22]?).any (okF Try.prog fm c_spec_l08Retract) = true := by kernel_rfl
theorem k137 : (Try.prog.funcs[23]?).any (okF Try.prog fm c_laws_likeRows5) = true := by kernel_rfl
theorem k291 : (Try.prog.funcs[24]?).any (okF Try.prog fm c_impl_alikeClasses) = true := by kernel_rfl
theorem k275 : (Try.prog.funcs[25]?).any (okF Try.prog fm c_impl_cloneTable) = true := by kernel_rfl
theorem k267 : (Try.prog.funcs[26]?).any (okF Try.prog fm c_impl_transposed) = true := by kernel_rfl
theorem k59 : (Try.prog.funcs[27]?).any (okF Try.prog fm c_impl_IsPairMap) = true := by kernel_rfl
theorem k285 : (Try.prog.funcs[28]?).any (okF Try.prog fm c_impl_isNondegenerate) = true := by kernel_rfl
theorem k298 : (Try.prog.funcs[29]?).any (okF Try.prog fm c_impl_isInvolutive) = true := by kernel_rfl
theorem k60 : (Try.prog.funcs[30]?).any (okF Try.prog fm c_impl_collisionOf) = true := by kernel_rfl
theorem k61 : (Try.prog.funcs[31]?).any (okF Try.prog fm c_impl_equationFault) = true := by kernel_rfl
theorem k336 : (Try.prog.funcs[32]?).any (okF Try.prog fm c_spec_l01Next) = true := by kernel_rfl
theorem k366 : (Try.prog.funcs[33]?).any (okF Try.prog fm c_spec_l05Solution) = true := by kernel_rfl
theorem k378 : (Try.prog.funcs[34]?).any (okF Try.prog fm c_spec_l05Draw) = true := by kernel_rfl
theorem k379 : (Try.prog.funcs[35]?).any (okF Try.prog fm c_spec_l02Spoil) = true := by kernel_rfl
theorem k399 : (Try.prog.funcs[36]?).any (okF Try.prog fm c_impl_firstOf) = true := by kernel_rfl
theorem k308 : (Try.prog.funcs[37]?).any (okF Try.prog fm c_impl_solutionBy) = true := by kernel_rfl
theorem k400 : (Try.prog.funcs[38]?).any (okF Try.prog fm c_impl_retractOf_1) = true := by kernel_rfl
theorem k41 : (Try.prog.funcs[39]?).any (okF Try.prog fm c_spec_l02Is) = true := by kernel_rfl
theorem k350 : (Try.prog.funcs[40]?).any (okF Try.prog fm c_spec_l02Good) = true := by kernel_rfl
theorem k289 : (Try.prog.funcs[41]?).any (okF Try.prog fm c_spec_l08Classes) = true := by kernel_rfl
theorem k398 : (Try.prog.funcs[42]?).any (okF Try.prog fm c_spec_l02Empty) = true := by kernel_rfl
theorem k288 : (Try.prog.funcs[43]?).any (okF Try.prog fm c_spec_l01Greatest) = true := by kernel_rfl
theorem k335 : (Try.prog.funcs[44]?).any (okF Try.prog fm c_impl_identity) = true := by kernel_rfl
theorem k276 : (Try.prog.funcs[45]?).any (okF Try.prog fm c_slices_Equal___int64_int64_) = true := by kernel_rfl
theorem k386 : (Try.prog.funcs[46]?).any (okF Try.prog fm c_impl_numbered) = true := by kernel_rfl
theorem k36 : (Try.prog.funcs[47]?).any (okF Try.prog fm c_slices_Clone___int64_int64_) = true := by kernel_rfl
theorem k376 : (Try.prog.funcs[48]?).any (okF Try.prog fm c_impl_tableBy) = true := by kernel_rfl
theorem k377 : (Try.prog.funcs[49]?).any (okF Try.prog fm c_impl_transposed_1) = true := by kernel_rfl
theorem k50 : (Try.prog.funcs[50]?).any (okF Try.prog fm c_impl_IsTable) = true := by kernel_rfl
theorem k51 : (Try.prog.funcs[51]?).any (okF Try.prog fm c_impl_permutationRows) = true := by kernel_rfl
theorem k69 : (Try.prog.funcs[52]?).any (okF Try.prog fm c_spec_l01Index) = true := by kernel_rfl
theorem k427 : (Try.prog.funcs[53]?).any (okF Try.prog fm c_spec_l05Any) = true := by kernel_rfl
theorem k367 : (Try.prog.funcs[54]?).any (okF Try.prog fm c_spec_l01Rename) = true := by kernel_rfl
theorem k368 : (Try.prog.funcs[55]?).any (okF Try.prog fm c_spec_l01Draw) = true := by kernel_rfl
theorem k412 : (Try.prog.funcs[56]?).any (okF Try.prog fm c_spec_l02Draw) = true := by kernel_rfl
theorem k428 : (Try.prog.funcs[57]?).any (okF Try.prog fm c_spec_l01Tables) = true := by kernel_rfl
theorem k413 : (Try.prog.funcs[58]?).any (okF Try.prog fm c_spec_l01Bad) = true := by kernel_rfl
theorem k391 : (Try.prog.funcs[59]?).any (okF Try.prog fm c_impl_solutionBy_1) = true := by kernel_rfl
theorem k392 : (Try.prog.funcs[60]?).any (okF Try.prog fm c_impl_solutionBy_2) = true := by kernel_rfl
theorem k56 : (Try.prog.funcs[61]?).any (okF Try.prog fm c_spec_l02Map) = true := by kernel_rfl
theorem k57 : (Try.prog.funcs[62]?).any (okF Try.prog fm c_spec_l02Collision) = true := by kernel_rfl
theorem k58 : (Try.prog.funcs[63]?).any (okF Try.prog fm c_spec_l02Fault) = true := by kernel_rfl
theorem k410 : (Try.prog.funcs[64]?).any (okF Try.prog fm c_spec_l01Rows) = true := by kernel_rfl
theorem k265 : (Try.prog.funcs[65]?).any (okF Try.prog fm c_spec_l01Turn) = true := by kernel_rfl
theorem k67 : (Try.prog.funcs[66]?).any (okF Try.prog fm c_spec_l01Same) = true := by kernel_rfl
theorem k385 : (Try.prog.funcs[67]?).any (okF Try.prog fm c_spec_l07Renumber) = true := by kernel_rfl
theorem k384 : (Try.prog.funcs[68]?).any (okF Try.prog fm c_slices_Index___int64_int64_) = true := by kernel_rfl
theorem k35 : (Try.prog.funcs[69]?).any (okF Try.prog fm c_impl_within) = true := by kernel_rfl
theorem k63 : (Try.prog.funcs[70]?).any (okF Try.prog fm c_slices_ContainsFunc_____int64___int64_) = true := by kernel_rfl
theorem k64 : (Try.prog.funcs[71]?).any (okF Try.prog fm c_impl_IsTable_1) = true := by kernel_rfl
theorem k54 : (Try.prog.funcs[72]?).any (okF Try.prog fm c_impl_allWithin) = true := by kernel_rfl
theorem k65 : (Try.prog.funcs[73]?).any (okF Try.prog fm c_impl_permutationRows_1) = true := by kernel_rfl
theorem k66 : (Try.prog.funcs[74]?).any (okF Try.prog fm c_impl_isPermuted) = true := by kernel_rfl
theorem k424 : (Try.prog.funcs[75]?).any (okF Try.prog fm c_spec_l05Affine) = true := by kernel_rfl
theorem k363 : (Try.prog.funcs[76]?).any (okF Try.prog fm c_spec_l05Is) = true := by kernel_rfl
theorem k351 : (Try.prog.funcs[77]?).any (okF Try.prog fm c_spec_l02Twice) = true := by kernel_rfl
theorem k364 : (Try.prog.funcs[78]?).any (okF Try.prog fm c_spec_l05Cycle) = true := by kernel_rfl
theorem k449 : (Try.prog.funcs[79]?).any (okF Try.prog fm c_spec_l02Flip) = true := by kernel_rfl
theorem k334 : (Try.prog.funcs[80]?).any (okF Try.prog fm c_spec_l01Unit) = true := by kernel_rfl
theorem k445 : (Try.prog.funcs[81]?).any (okF Try.prog fm c_spec_l02Any) = true := by kernel_rfl
theorem k422 : (Try.prog.funcs[82]?).any (okF Try.prog fm c_spec_l02Rename) = true := by kernel_rfl
theorem k292 : (Try.prog.funcs[83]?).any (okF Try.prog fm c_spec_l01Pick) = true := by kernel_rfl
theorem k46 : (Try.prog.funcs[84]?).any (okF Try.prog fm c_spec_l01Table) = true := by kernel_rfl
theorem k68 : (Try.prog.funcs[85]?).any (okF Try.prog fm c_spec_l02Do) = true := by kernel_rfl
theorem k47 : (Try.prog.funcs[86]?).any (okF Try.prog fm c_spec_l01Perm) = true := by kernel_rfl
theorem k375 : (Try.prog.funcs[87]?).any (okF Try.prog fm c_spec_l01Column) = true := by kernel_rfl
theorem k62 : (Try.prog.funcs[88]?).any (okF Try.prog fm c_spec_l01Has) = true := by kernel_rfl
theorem k70 : (Try.prog.funcs[89]?).any (okF Try.prog fm c_slices_IndexFunc_____int64___int64_) = true := by kernel_rfl
theorem k417 : (Try.prog.funcs[90]?).any (okF Try.prog fm c_spec_l05Squares) = true := by kernel_rfl
theorem k418 : (Try.prog.funcs[91]?).any (okF Try.prog fm c_spec_l05Fault) = true := by kernel_rfl
theorem k304 : (Try.prog.funcs[92]?).any (okF Try.prog fm c_spec_l01Back) = true := by kernel_rfl
theorem k425 : (Try.prog.funcs[93]?).any (okF Try.prog fm c_spec_l02Twist) = true := by kernel_rfl
theorem k423 : (Try.prog.funcs[94]?).any (okF Try.prog fm c_spec_l02Polygon) = true := by kernel_rfl
theorem k458 : (Try.prog.funcs[95]?).any (okF Try.prog fm c_spec_l02Product) = true := by kernel_rfl
theorem k459 : (Try.prog.funcs[96]?).any (okF Try.prog fm c_spec_l02Twisted) = true := by kernel_rfl
theorem k460 : (Try.prog.funcs[97]?).any (okF Try.prog fm c_spec_l02Union) = true := by kernel_rfl
theorem k461 : (Try.prog.funcs[98]?).any (okF Try.prog fm c_spec_l02Involutive) = true := by kernel_rfl
theorem k406 : (Try.prog.funcs[99]?).any (okF Try.prog fm c_spec_l02Inverse) = true := by kernel_rfl
theorem k30 : (Try.prog.funcs[100]?).any (okF Try.prog fm c_spec_l01In) = true := by kernel_rfl
theorem k31 : (Try.prog.funcs[101]?).any (okF Try.prog fm c_spec_l01Own) = true := by kernel_rfl
theorem k279 : (Try.prog.funcs[102]?).any (okF Try.prog fm c_spec_l01Then) = true := by kernel_rfl
theorem k280 : (Try.prog.funcs[103]?).any (okF Try.prog fm c_spec_l01Own2) = true := by kernel_rfl
def tab : List (Nat × F) := [(107, c_laws_FnRetracts), (128, c_laws_big), (217, c_spec_DrawRetractOf), (187, c_impl_RetractOf), (186, c_spec_RetractOf), (218, c_laws_likeSolution5), (163, c_impl_AlikeClasses), (135, c_impl_LambdaMaps), (127, c_impl_RhoMaps), (159, c_impl_IsNondegenerate), (160, c_impl_IsInvolutive), (219, c_laws_top5), (42, c_impl_IsSolution), (141, c_laws_likeInts), (268, c_spec_l07Spoil), (269, c_spec_l01From), (266, c_impl_isRegular), (321, c_impl_retractOf), (264, c_spec_l07Is), (320, c_spec_l08Retract), (137, c_laws_likeRows5), (291, c_impl_alikeClasses), (275, c_impl_cloneTable), (267, c_impl_transposed), (59, c_impl_IsPairMap), (285, c_impl_isNondegenerate), (298, c_impl_isInvolutive), (60, c_impl_collisionOf), (61, c_impl_equationFault), (336, c_spec_l01Next), (366, c_spec_l05Solution), (378, c_spec_l05Draw), (379, c_spec_l02Spoil), (399, c_impl_firstOf), (308, c_impl_solutionBy), (400, c_impl_retractOf_1), (41, c_spec_l02Is), (350, c_spec_l02Good), (289, c_spec_l08Classes), (398, c_spec_l02Empty), (288, c_spec_l01Greatest), (335, c_impl_identity), (276, c_slices_Equal___int64_int64_), (386, c_impl_numbered), (36, c_slices_Clone___int64_int64_), (376, c_impl_tableBy), (377, c_impl_transposed_1), (50, c_impl_IsTable), (51, c_impl_permutationRows), (69, c_spec_l01Index), (427, c_spec_l05Any), (367, c_spec_l01Rename), (368, c_spec_l01Draw), (412, c_spec_l02Draw), (428, c_spec_l01Tables), (413, c_spec_l01Bad), (391, c_impl_solutionBy_1), (392, c_impl_solutionBy_2), (56, c_spec_l02Map), (57, c_spec_l02Collision), (58, c_spec_l02Fault), (410, c_spec_l01Rows), (265, c_spec_l01Turn), (67, c_spec_l01Same), (385, c_spec_l07Renumber), (384, c_slices_Index___int64_int64_), (35, c_impl_within), (63, c_slices_ContainsFunc_____int64___int64_), (64, c_impl_IsTable_1), (54, c_impl_allWithin), (65, c_impl_permutationRows_1), (66, c_impl_isPermuted), (424, c_spec_l05Affine), (363, c_spec_l05Is), (351, c_spec_l02Twice), (364, c_spec_l05Cycle), (449, c_spec_l02Flip), (334, c_spec_l01Unit), (445, c_spec_l02Any), (422, c_spec_l02Rename), (292, c_spec_l01Pick), (46, c_spec_l01Table), (68, c_spec_l02Do), (47, c_spec_l01Perm), (375, c_spec_l01Column), (62, c_spec_l01Has), (70, c_slices_IndexFunc_____int64___int64_), (417, c_spec_l05Squares), (418, c_spec_l05Fault), (304, c_spec_l01Back), (425, c_spec_l02Twist), (423, c_spec_l02Polygon), (458, c_spec_l02Product), (459, c_spec_l02Twisted), (460, c_spec_l02Union), (461, c_spec_l02Involutive), (406, c_spec_l02Inverse), (30, c_spec_l01In), (31, c_spec_l01Own), (279, c_spec_l01Then), (280, c_spec_l01Own2)]
def pg : Pg := { fn := fun f => (tab.find? fun x => x.1 == f).map (·.2) }
theorem all_ok : ∀ x, x ∈ tab → (Try.prog.funcs[fm x.1]?).any (okF Try.prog fm x.2) = true := by
  intro x hx
  unfold tab at hx
  simp only [List.mem_cons, List.not_mem_nil, or_false] at hx
  rcases hx with rfl | rfl | rfl | rfl | rfl | rfl | rfl | rfl | rfl | rfl | rfl | rfl | rfl | rfl | rfl | rfl | rfl | rfl | rfl | rfl | rfl | rfl | rfl | rfl | rfl | rfl | rfl | rfl | rfl | rfl | rfl | rfl | rfl | rfl | rfl | rfl | rfl | rfl | rfl | rfl | rfl | rfl | rfl | rfl | rfl | rfl | rfl | rfl | rfl | rfl | rfl | rfl | rfl | rfl | rfl | rfl | rfl | rfl | rfl | rfl | rfl | rfl | rfl | rfl | rfl | rfl | rfl | rfl | rfl | rfl | rfl | rfl | rfl | rfl | rfl | rfl | rfl | rfl | rfl | rfl | rfl | rfl | rfl | rfl | rfl | rfl | rfl | rfl | rfl | rfl | rfl | rfl | rfl | rfl | rfl | rfl | rfl | rfl | rfl | rfl | rfl
  · exact k107
  · exact k128
  · exact k217
  · exact k187
  · exact k186
  · exact k218
  · exact k163
  · exact k135
  · exact k127
  · exact k159
  · exact k160
  · exact k219
  · exact k42
  · exact k141
  · exact k268
  · exact k269
  · exact k266
  · exact k321
  · exact k264
  · exact k320
  · exact k137
  · exact k291
  · exact k275
  · exact k267
  · exact k59
  · exact k285
  · exact k298
  · exact k60
  · exact k61
  · exact k336
  · exact k366
  · exact k378
  · exact k379
  · exact k399
  · exact k308
  · exact k400
  · exact k41
  · exact k350
  · exact k289
  · exact k398
  · exact k288
  · exact k335
  · exact k276
  · exact k386
  · exact k36
  · exact k376
  · exact k377
  · exact k50
  · exact k51
  · exact k69
  · exact k427
  · exact k367
  · exact k368
  · exact k412
  · exact k428
  · exact k413
  · exact k391
  · exact k392
  · exact k56
  · exact k57
  · exact k58
  · exact k410
  · exact k265
  · exact k67
  · exact k385
  · exact k384
  · exact k35
  · exact k63
  · exact k64
  · exact k54
  · exact k65
  · exact k66
  · exact k424
  · exact k363
  · exact k351
  · exact k364
  · exact k449
  · exact k334
  · exact k445
  · exact k422
  · exact k292
  · exact k46
  · exact k68
  · exact k47
  · exact k375
  · exact k62
  · exact k70
  · exact k417
  · exact k418
  · exact k304
  · exact k425
  · exact k423
  · exact k458
  · exact k459
  · exact k460
  · exact k461
  · exact k406
  · exact k30
  · exact k31
  · exact k279
  · exact k280
theorem follows : Try.prog.follows .mixedOrders = true := by kernel_rfl
theorem prog_ok : ∀ f F, pg.fn f = some F → ∃ fn, Try.prog.funcs[fm f]? = some fn ∧ okF Try.prog fm F fn = true := by
  intro f F h
  simp only [pg, Option.map_eq_some_iff] at h
  obtain ⟨x, h1, rfl⟩ := h
  have hm := List.mem_of_find?_eq_some h1
  have he := List.find?_some h1
  simp only [beq_iff_eq] at he
  have := all_ok x hm
  rw [he] at this
  rw [Option.any_eq_true] at this
  exact this
theorem pact {f : Nat} {args args' : List T} {r : T} (h : Go.Mch.Call pg f args args' r) : Pact Try.prog fm f args args' r :=
  sound follows (fun _ _ _ _ h => False.elim h) prog_ok h
end Go.Proofs.Ytpaklggigidikaa.Tie
