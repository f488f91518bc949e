/- The compact code of the functions is this seat's program's: what the machine calls good, the program does. -/
import Derived.Test.YtkcgdmjdkbgmkaaGreatRows
import Derived.KernelRfl
import Derived.Test.YtkcgdmjdkbgmkaaGreatM4
import Derived.Test.YtkcgdmjdkbgmkaaGreatYeA
import Derived.Test.YtkcgdmjdkbgmkaaGreatYeB
import Derived.Test.YtkcgdmjdkbgmkaaGreatYeC
import Derived.Test.YtkcgdmjdkbgmkaaGreatYeD
import Derived.Test.YtkcgdmjdkbgmkaaGreatYeG
namespace Go.Proofs.YtkcgdmjdkbgmkaaGreat.Tie
open Go.Mch
def fmL : List Nat := [0, 0, 0, 0, 0, 0, 0, 0, 0, 0, 0, 0, 0, 0, 0, 0, 0, 0, 0, 0, 0, 0, 0, 0, 0, 0, 0, 0, 0, 0, 118, 190, 0, 0, 0, 96, 107, 0, 0, 0, 0, 112, 95, 0, 0, 0, 220, 209, 0, 0, 145, 146, 0, 0, 214, 0, 186, 187, 188, 102, 180, 181, 266, 176, 213, 215, 123, 192, 232, 211, 234, 0, 0, 0, 0, 0, 0, 0, 0, 0, 0, 0, 0, 0, 0, 0, 0, 0, 0, 0, 0, 0, 0, 0, 0, 0, 0, 0, 0, 0, 0, 0, 0, 0, 0, 0, 0, 0, 0, 0, 0, 0, 6, 0, 0, 0, 0, 0, 0, 0, 0, 0, 0, 0, 0, 0, 0, 0, 10, 0, 0, 0, 0, 0, 0, 0, 0, 0, 0, 0, 0, 0, 0, 0, 0, 0, 0, 0, 0, 0, 0, 0, 0, 50, 0, 0, 0, 0, 0, 0, 0, 0, 0, 0, 0, 0, 0, 0, 0, 0, 0, 0, 0, 0, 51, 0, 0, 0, 0, 0, 0, 0, 0, 0, 47, 46, 0, 52, 0, 48, 0, 0, 0, 0, 0, 0, 0, 0, 0, 0, 0, 0, 0, 0, 49, 0, 0, 0, 0, 0, 0, 0, 0, 0, 0, 0, 0, 0, 0, 0, 0, 0, 0, 0, 0, 0, 45, 53, 54, 0, 0, 0, 0, 0, 0, 0, 0, 0, 0, 0, 0, 0, 0, 0, 0, 0, 0, 0, 0, 0, 0, 0, 0, 0, 0, 0, 0, 0, 0, 0, 0, 0, 0, 0, 84, 174, 81, 88, 79, 80, 0, 0, 0, 0, 0, 89, 90, 91, 0, 240, 115, 0, 0, 0, 0, 103, 0, 0, 258, 257, 131, 132, 93, 0, 0, 0, 0, 0, 0, 0, 0, 0, 0, 0, 224, 0, 0, 0, 127, 0, 129, 0, 0, 0, 0, 0, 0, 0, 0, 130, 200, 133, 0, 0, 0, 0, 0, 0, 0, 0, 0, 0, 0, 0, 226, 175, 138, 0, 0, 0, 0, 0, 0, 0, 0, 0, 134, 135, 136, 0, 172, 271, 0, 0, 0, 0, 0, 0, 0, 0, 0, 0, 0, 152, 153, 0, 155, 156, 157, 0, 0, 0, 0, 0, 0, 210, 178, 179, 168, 169, 0, 0, 0, 0, 254, 278, 201, 0, 0, 0, 0, 197, 198, 0, 0, 0, 0, 199, 225, 202, 203, 0, 0, 0, 0, 0, 231, 0, 0, 204, 221, 0, 208, 216, 0, 0, 0, 222, 223, 0, 0, 0, 265, 283, 270, 291, 0, 237, 238, 0, 0, 0, 0, 0, 0, 0, 0, 0, 0, 0, 0, 0, 0, 0, 0, 264, 0, 0, 0, 272, 0, 0, 0, 0, 0, 0, 0, 0, 284, 285, 286, 287]
def fm (k : Nat) : Nat := fmL.getD k 0
theorem k112 : (Tryz.prog.funcs[6]?).any (okF Tryz.prog fm c_laws_FnLevels) = true := by kernel_rfl
theorem k128 : (Tryz.prog.funcs[10]?).any (okF Tryz.prog fm c_laws_big) = true := by kernel_rfl
theorem k226 : (Tryz.prog.funcs[45]?).any (okF Tryz.prog fm c_spec_DrawLevelOf) = true := by kernel_rfl
theorem k185 : (Tryz.prog.funcs[46]?).any (okF Tryz.prog fm c_impl_LevelOf) = true := by kernel_rfl
theorem k184 : (Tryz.prog.funcs[47]?).any (okF Tryz.prog fm c_spec_LevelOf) = true := by kernel_rfl
theorem k189 : (Tryz.prog.funcs[48]?).any (okF Tryz.prog fm c_impl_RetractSizes) = true := by kernel_rfl
theorem k204 : (Tryz.prog.funcs[49]?).any (okF Tryz.prog fm c_impl_LastRetract) = true := by kernel_rfl
theorem k153 : (Tryz.prog.funcs[50]?).any (okF Tryz.prog fm c_impl_IsTwist) = true := by kernel_rfl
theorem k174 : (Tryz.prog.funcs[51]?).any (okF Tryz.prog fm c_impl_IsIrretractable) = true := by kernel_rfl
theorem k187 : (Tryz.prog.funcs[52]?).any (okF Tryz.prog fm c_impl_RetractOf) = true := by kernel_rfl
theorem k227 : (Tryz.prog.funcs[53]?).any (okF Tryz.prog fm c_impl_TwistSolution) = true := by kernel_rfl
theorem k228 : (Tryz.prog.funcs[54]?).any (okF Tryz.prog fm c_impl_ProductSolution) = true := by kernel_rfl
theorem k268 : (Tryz.prog.funcs[79]?).any (okF Tryz.prog fm c_spec_l07Spoil) = true := by kernel_rfl
theorem k269 : (Tryz.prog.funcs[80]?).any (okF Tryz.prog fm c_spec_l01From) = true := by kernel_rfl
theorem k266 : (Tryz.prog.funcs[81]?).any (okF Tryz.prog fm c_impl_isRegular) = true := by kernel_rfl
theorem k264 : (Tryz.prog.funcs[84]?).any (okF Tryz.prog fm c_spec_l07Is) = true := by kernel_rfl
theorem k267 : (Tryz.prog.funcs[88]?).any (okF Tryz.prog fm c_impl_transposed) = true := by kernel_rfl
theorem k275 : (Tryz.prog.funcs[89]?).any (okF Tryz.prog fm c_impl_cloneTable) = true := by kernel_rfl
theorem k276 : (Tryz.prog.funcs[90]?).any (okF Tryz.prog fm c_slices_Equal___int64_int64_) = true := by kernel_rfl
theorem k277 : (Tryz.prog.funcs[91]?).any (okF Tryz.prog fm c_impl_then) = true := by kernel_rfl
theorem k292 : (Tryz.prog.funcs[93]?).any (okF Tryz.prog fm c_spec_l01Pick) = true := by kernel_rfl
theorem k42 : (Tryz.prog.funcs[95]?).any (okF Tryz.prog fm c_impl_IsSolution) = true := by kernel_rfl
theorem k35 : (Tryz.prog.funcs[96]?).any (okF Tryz.prog fm c_impl_within) = true := by kernel_rfl
theorem k59 : (Tryz.prog.funcs[102]?).any (okF Tryz.prog fm c_impl_IsPairMap) = true := by kernel_rfl
theorem k285 : (Tryz.prog.funcs[103]?).any (okF Tryz.prog fm c_impl_isNondegenerate) = true := by kernel_rfl
theorem k36 : (Tryz.prog.funcs[107]?).any (okF Tryz.prog fm c_slices_Clone___int64_int64_) = true := by kernel_rfl
theorem k41 : (Tryz.prog.funcs[112]?).any (okF Tryz.prog fm c_spec_l02Is) = true := by kernel_rfl
theorem k280 : (Tryz.prog.funcs[115]?).any (okF Tryz.prog fm c_spec_l01Own2) = true := by kernel_rfl
theorem k30 : (Tryz.prog.funcs[118]?).any (okF Tryz.prog fm c_spec_l01In) = true := by kernel_rfl
theorem k66 : (Tryz.prog.funcs[123]?).any (okF Tryz.prog fm c_impl_isPermuted) = true := by kernel_rfl
theorem k308 : (Tryz.prog.funcs[127]?).any (okF Tryz.prog fm c_impl_solutionBy) = true := by kernel_rfl
theorem k310 : (Tryz.prog.funcs[129]?).any (okF Tryz.prog fm c_impl_seriesOf) = true := by kernel_rfl
theorem k319 : (Tryz.prog.funcs[130]?).any (okF Tryz.prog fm c_spec_l08Series) = true := by kernel_rfl
theorem k290 : (Tryz.prog.funcs[131]?).any (okF Tryz.prog fm c_slices_Max___int64_int64_) = true := by kernel_rfl
theorem k291 : (Tryz.prog.funcs[132]?).any (okF Tryz.prog fm c_impl_alikeClasses) = true := by kernel_rfl
theorem k321 : (Tryz.prog.funcs[133]?).any (okF Tryz.prog fm c_impl_retractOf) = true := by kernel_rfl
theorem k346 : (Tryz.prog.funcs[134]?).any (okF Tryz.prog fm c_impl_IsPermutation) = true := by kernel_rfl
theorem k347 : (Tryz.prog.funcs[135]?).any (okF Tryz.prog fm c_impl_twist) = true := by kernel_rfl
theorem k348 : (Tryz.prog.funcs[136]?).any (okF Tryz.prog fm c_impl_ProductSolution_1) = true := by kernel_rfl
theorem k336 : (Tryz.prog.funcs[138]?).any (okF Tryz.prog fm c_spec_l01Next) = true := by kernel_rfl
theorem k50 : (Tryz.prog.funcs[145]?).any (okF Tryz.prog fm c_impl_IsTable) = true := by kernel_rfl
theorem k51 : (Tryz.prog.funcs[146]?).any (okF Tryz.prog fm c_impl_permutationRows) = true := by kernel_rfl
theorem k363 : (Tryz.prog.funcs[152]?).any (okF Tryz.prog fm c_spec_l05Is) = true := by kernel_rfl
theorem k364 : (Tryz.prog.funcs[153]?).any (okF Tryz.prog fm c_spec_l05Cycle) = true := by kernel_rfl
theorem k366 : (Tryz.prog.funcs[155]?).any (okF Tryz.prog fm c_spec_l05Solution) = true := by kernel_rfl
theorem k367 : (Tryz.prog.funcs[156]?).any (okF Tryz.prog fm c_spec_l01Rename) = true := by kernel_rfl
theorem k368 : (Tryz.prog.funcs[157]?).any (okF Tryz.prog fm c_spec_l01Draw) = true := by kernel_rfl
theorem k378 : (Tryz.prog.funcs[168]?).any (okF Tryz.prog fm c_spec_l05Draw) = true := by kernel_rfl
theorem k379 : (Tryz.prog.funcs[169]?).any (okF Tryz.prog fm c_spec_l02Spoil) = true := by kernel_rfl
theorem k350 : (Tryz.prog.funcs[172]?).any (okF Tryz.prog fm c_spec_l02Good) = true := by kernel_rfl
theorem k265 : (Tryz.prog.funcs[174]?).any (okF Tryz.prog fm c_spec_l01Turn) = true := by kernel_rfl
theorem k335 : (Tryz.prog.funcs[175]?).any (okF Tryz.prog fm c_impl_identity) = true := by kernel_rfl
theorem k63 : (Tryz.prog.funcs[176]?).any (okF Tryz.prog fm c_slices_ContainsFunc_____int64___int64_) = true := by kernel_rfl
theorem k376 : (Tryz.prog.funcs[178]?).any (okF Tryz.prog fm c_impl_tableBy) = true := by kernel_rfl
theorem k377 : (Tryz.prog.funcs[179]?).any (okF Tryz.prog fm c_impl_transposed_1) = true := by kernel_rfl
theorem k60 : (Tryz.prog.funcs[180]?).any (okF Tryz.prog fm c_impl_collisionOf) = true := by kernel_rfl
theorem k61 : (Tryz.prog.funcs[181]?).any (okF Tryz.prog fm c_impl_equationFault) = true := by kernel_rfl
theorem k56 : (Tryz.prog.funcs[186]?).any (okF Tryz.prog fm c_spec_l02Map) = true := by kernel_rfl
theorem k57 : (Tryz.prog.funcs[187]?).any (okF Tryz.prog fm c_spec_l02Collision) = true := by kernel_rfl
theorem k58 : (Tryz.prog.funcs[188]?).any (okF Tryz.prog fm c_spec_l02Fault) = true := by kernel_rfl
theorem k31 : (Tryz.prog.funcs[190]?).any (okF Tryz.prog fm c_spec_l01Own) = true := by kernel_rfl
theorem k67 : (Tryz.prog.funcs[192]?).any (okF Tryz.prog fm c_spec_l01Same) = true := by kernel_rfl
theorem k391 : (Tryz.prog.funcs[197]?).any (okF Tryz.prog fm c_impl_solutionBy_1) = true := by kernel_rfl
theorem k392 : (Tryz.prog.funcs[198]?).any (okF Tryz.prog fm c_impl_solutionBy_2) = true := by kernel_rfl
theorem k397 : (Tryz.prog.funcs[199]?).any (okF Tryz.prog fm c_spec_l02Own) = true := by kernel_rfl
theorem k320 : (Tryz.prog.funcs[200]?).any (okF Tryz.prog fm c_spec_l08Retract) = true := by kernel_rfl
theorem k386 : (Tryz.prog.funcs[201]?).any (okF Tryz.prog fm c_impl_numbered) = true := by kernel_rfl
theorem k399 : (Tryz.prog.funcs[202]?).any (okF Tryz.prog fm c_impl_firstOf) = true := by kernel_rfl
theorem k400 : (Tryz.prog.funcs[203]?).any (okF Tryz.prog fm c_impl_retractOf_1) = true := by kernel_rfl
theorem k409 : (Tryz.prog.funcs[204]?).any (okF Tryz.prog fm c_impl_twist_1) = true := by kernel_rfl
theorem k412 : (Tryz.prog.funcs[208]?).any (okF Tryz.prog fm c_spec_l02Draw) = true := by kernel_rfl
theorem k47 : (Tryz.prog.funcs[209]?).any (okF Tryz.prog fm c_spec_l01Perm) = true := by kernel_rfl
theorem k375 : (Tryz.prog.funcs[210]?).any (okF Tryz.prog fm c_spec_l01Column) = true := by kernel_rfl
theorem k69 : (Tryz.prog.funcs[211]?).any (okF Tryz.prog fm c_spec_l01Index) = true := by kernel_rfl
theorem k64 : (Tryz.prog.funcs[213]?).any (okF Tryz.prog fm c_impl_IsTable_1) = true := by kernel_rfl
theorem k54 : (Tryz.prog.funcs[214]?).any (okF Tryz.prog fm c_impl_allWithin) = true := by kernel_rfl
theorem k65 : (Tryz.prog.funcs[215]?).any (okF Tryz.prog fm c_impl_permutationRows_1) = true := by kernel_rfl
theorem k413 : (Tryz.prog.funcs[216]?).any (okF Tryz.prog fm c_spec_l01Bad) = true := by kernel_rfl
theorem k46 : (Tryz.prog.funcs[220]?).any (okF Tryz.prog fm c_spec_l01Table) = true := by kernel_rfl
theorem k410 : (Tryz.prog.funcs[221]?).any (okF Tryz.prog fm c_spec_l01Rows) = true := by kernel_rfl
theorem k417 : (Tryz.prog.funcs[222]?).any (okF Tryz.prog fm c_spec_l05Squares) = true := by kernel_rfl
theorem k418 : (Tryz.prog.funcs[223]?).any (okF Tryz.prog fm c_spec_l05Fault) = true := by kernel_rfl
theorem k304 : (Tryz.prog.funcs[224]?).any (okF Tryz.prog fm c_spec_l01Back) = true := by kernel_rfl
theorem k398 : (Tryz.prog.funcs[225]?).any (okF Tryz.prog fm c_spec_l02Empty) = true := by kernel_rfl
theorem k334 : (Tryz.prog.funcs[226]?).any (okF Tryz.prog fm c_spec_l01Unit) = true := by kernel_rfl
theorem k406 : (Tryz.prog.funcs[231]?).any (okF Tryz.prog fm c_spec_l02Inverse) = true := by kernel_rfl
theorem k68 : (Tryz.prog.funcs[232]?).any (okF Tryz.prog fm c_spec_l02Do) = true := by kernel_rfl
theorem k70 : (Tryz.prog.funcs[234]?).any (okF Tryz.prog fm c_slices_IndexFunc_____int64___int64_) = true := by kernel_rfl
theorem k427 : (Tryz.prog.funcs[237]?).any (okF Tryz.prog fm c_spec_l05Any) = true := by kernel_rfl
theorem k428 : (Tryz.prog.funcs[238]?).any (okF Tryz.prog fm c_spec_l01Tables) = true := by kernel_rfl
theorem k279 : (Tryz.prog.funcs[240]?).any (okF Tryz.prog fm c_spec_l01Then) = true := by kernel_rfl
theorem k384 : (Tryz.prog.funcs[254]?).any (okF Tryz.prog fm c_slices_Index___int64_int64_) = true := by kernel_rfl
theorem k289 : (Tryz.prog.funcs[257]?).any (okF Tryz.prog fm c_spec_l08Classes) = true := by kernel_rfl
theorem k288 : (Tryz.prog.funcs[258]?).any (okF Tryz.prog fm c_spec_l01Greatest) = true := by kernel_rfl
theorem k445 : (Tryz.prog.funcs[264]?).any (okF Tryz.prog fm c_spec_l02Any) = true := by kernel_rfl
theorem k422 : (Tryz.prog.funcs[265]?).any (okF Tryz.prog fm c_spec_l02Rename) = true := by kernel_rfl
theorem k62 : (Tryz.prog.funcs[266]?).any (okF Tryz.prog fm c_spec_l01Has) = true := by kernel_rfl
theorem k424 : (Tryz.prog.funcs[270]?).any (okF Tryz.prog fm c_spec_l05Affine) = true := by kernel_rfl
theorem k351 : (Tryz.prog.funcs[271]?).any (okF Tryz.prog fm c_spec_l02Twice) = true := by kernel_rfl
theorem k449 : (Tryz.prog.funcs[272]?).any (okF Tryz.prog fm c_spec_l02Flip) = true := by kernel_rfl
theorem k385 : (Tryz.prog.funcs[278]?).any (okF Tryz.prog fm c_spec_l07Renumber) = true := by kernel_rfl
theorem k423 : (Tryz.prog.funcs[283]?).any (okF Tryz.prog fm c_spec_l02Polygon) = true := by kernel_rfl
theorem k458 : (Tryz.prog.funcs[284]?).any (okF Tryz.prog fm c_spec_l02Product) = true := by kernel_rfl
theorem k459 : (Tryz.prog.funcs[285]?).any (okF Tryz.prog fm c_spec_l02Twisted) = true := by kernel_rfl
theorem k460 : (Tryz.prog.funcs[286]?).any (okF Tryz.prog fm c_spec_l02Union) = true := by kernel_rfl
theorem k461 : (Tryz.prog.funcs[287]?).any (okF Tryz.prog fm c_spec_l02Involutive) = true := by kernel_rfl
theorem k425 : (Tryz.prog.funcs[291]?).any (okF Tryz.prog fm c_spec_l02Twist) = true := by kernel_rfl
def tab : List (Nat × F) := [(112, c_laws_FnLevels), (128, c_laws_big), (226, c_spec_DrawLevelOf), (185, c_impl_LevelOf), (184, c_spec_LevelOf), (189, c_impl_RetractSizes), (204, c_impl_LastRetract), (153, c_impl_IsTwist), (174, c_impl_IsIrretractable), (187, c_impl_RetractOf), (227, c_impl_TwistSolution), (228, c_impl_ProductSolution), (268, c_spec_l07Spoil), (269, c_spec_l01From), (266, c_impl_isRegular), (264, c_spec_l07Is), (267, c_impl_transposed), (275, c_impl_cloneTable), (276, c_slices_Equal___int64_int64_), (277, c_impl_then), (292, c_spec_l01Pick), (42, c_impl_IsSolution), (35, c_impl_within), (59, c_impl_IsPairMap), (285, c_impl_isNondegenerate), (36, c_slices_Clone___int64_int64_), (41, c_spec_l02Is), (280, c_spec_l01Own2), (30, c_spec_l01In), (66, c_impl_isPermuted), (308, c_impl_solutionBy), (310, c_impl_seriesOf), (319, c_spec_l08Series), (290, c_slices_Max___int64_int64_), (291, c_impl_alikeClasses), (321, c_impl_retractOf), (346, c_impl_IsPermutation), (347, c_impl_twist), (348, c_impl_ProductSolution_1), (336, c_spec_l01Next), (50, c_impl_IsTable), (51, c_impl_permutationRows), (363, c_spec_l05Is), (364, c_spec_l05Cycle), (366, c_spec_l05Solution), (367, c_spec_l01Rename), (368, c_spec_l01Draw), (378, c_spec_l05Draw), (379, c_spec_l02Spoil), (350, c_spec_l02Good), (265, c_spec_l01Turn), (335, c_impl_identity), (63, c_slices_ContainsFunc_____int64___int64_), (376, c_impl_tableBy), (377, c_impl_transposed_1), (60, c_impl_collisionOf), (61, c_impl_equationFault), (56, c_spec_l02Map), (57, c_spec_l02Collision), (58, c_spec_l02Fault), (31, c_spec_l01Own), (67, c_spec_l01Same), (391, c_impl_solutionBy_1), (392, c_impl_solutionBy_2), (397, c_spec_l02Own), (320, c_spec_l08Retract), (386, c_impl_numbered), (399, c_impl_firstOf), (400, c_impl_retractOf_1), (409, c_impl_twist_1), (412, c_spec_l02Draw), (47, c_spec_l01Perm), (375, c_spec_l01Column), (69, c_spec_l01Index), (64, c_impl_IsTable_1), (54, c_impl_allWithin), (65, c_impl_permutationRows_1), (413, c_spec_l01Bad), (46, c_spec_l01Table), (410, c_spec_l01Rows), (417, c_spec_l05Squares), (418, c_spec_l05Fault), (304, c_spec_l01Back), (398, c_spec_l02Empty), (334, c_spec_l01Unit), (406, c_spec_l02Inverse), (68, c_spec_l02Do), (70, c_slices_IndexFunc_____int64___int64_), (427, c_spec_l05Any), (428, c_spec_l01Tables), (279, c_spec_l01Then), (384, c_slices_Index___int64_int64_), (289, c_spec_l08Classes), (288, c_spec_l01Greatest), (445, c_spec_l02Any), (422, c_spec_l02Rename), (62, c_spec_l01Has), (424, c_spec_l05Affine), (351, c_spec_l02Twice), (449, c_spec_l02Flip), (385, c_spec_l07Renumber), (423, c_spec_l02Polygon), (458, c_spec_l02Product), (459, c_spec_l02Twisted), (460, c_spec_l02Union), (461, c_spec_l02Involutive), (425, c_spec_l02Twist)]
def pg : Pg := { fn := fun f => (tab.find? fun x => x.1 == f).map (·.2) }
theorem all_ok : ∀ x, x ∈ tab → (Tryz.prog.funcs[fm x.1]?).any (okF Tryz.prog fm x.2) = true := by
 intro x hx
 unfold tab at hx
 simp only [List.mem_cons, List.not_mem_nil, or_false] at hx
 rcases hx with rfl | rfl | rfl | rfl | rfl | rfl | rfl | rfl | rfl | rfl | rfl | rfl | rfl | rfl | rfl | rfl | rfl | rfl | rfl | rfl | rfl | rfl | rfl | rfl | rfl | rfl | rfl | rfl | rfl | rfl | rfl | rfl | rfl | rfl | rfl | rfl | rfl | rfl | rfl | rfl | rfl | rfl | rfl | rfl | rfl | rfl | rfl | rfl | rfl | rfl | rfl | rfl | rfl | rfl | rfl | rfl | rfl | rfl | rfl | rfl | rfl | rfl | rfl | rfl | rfl | rfl | rfl | rfl | rfl | rfl | rfl | rfl | rfl | rfl | rfl | rfl | rfl | rfl | rfl | rfl | rfl | rfl | rfl | rfl | rfl | rfl | rfl | rfl | rfl | rfl | rfl | rfl | rfl | rfl | rfl | rfl | rfl | rfl | rfl | rfl | rfl | rfl | rfl | rfl | rfl | rfl | rfl
 · exact k112
 · exact k128
 · exact k226
 · exact k185
 · exact k184
 · exact k189
 · exact k204
 · exact k153
 · exact k174
 · exact k187
 · exact k227
 · exact k228
 · exact k268
 · exact k269
 · exact k266
 · exact k264
 · exact k267
 · exact k275
 · exact k276
 · exact k277
 · exact k292
 · exact k42
 · exact k35
 · exact k59
 · exact k285
 · exact k36
 · exact k41
 · exact k280
 · exact k30
 · exact k66
 · exact k308
 · exact k310
 · exact k319
 · exact k290
 · exact k291
 · exact k321
 · exact k346
 · exact k347
 · exact k348
 · exact k336
 · exact k50
 · exact k51
 · exact k363
 · exact k364
 · exact k366
 · exact k367
 · exact k368
 · exact k378
 · exact k379
 · exact k350
 · exact k265
 · exact k335
 · exact k63
 · exact k376
 · exact k377
 · exact k60
 · exact k61
 · exact k56
 · exact k57
 · exact k58
 · exact k31
 · exact k67
 · exact k391
 · exact k392
 · exact k397
 · exact k320
 · exact k386
 · exact k399
 · exact k400
 · exact k409
 · exact k412
 · exact k47
 · exact k375
 · exact k69
 · exact k64
 · exact k54
 · exact k65
 · exact k413
 · exact k46
 · exact k410
 · exact k417
 · exact k418
 · exact k304
 · exact k398
 · exact k334
 · exact k406
 · exact k68
 · exact k70
 · exact k427
 · exact k428
 · exact k279
 · exact k384
 · exact k289
 · exact k288
 · exact k445
 · exact k422
 · exact k62
 · exact k424
 · exact k351
 · exact k449
 · exact k385
 · exact k423
 · exact k458
 · exact k459
 · exact k460
 · exact k461
 · exact k425
theorem follows : Tryz.prog.follows .mixedOrders = true := by kernel_rfl
theorem prog_ok : ∀ f F, pg.fn f = some F → ∃ fn, Tryz.prog.funcs[fm f]? = some fn ∧ okF Tryz.prog fm F fn = true := by
 intro f F h
 simp only [pg, Option.map_eq_some_iff] at h
 obtain ⟨x, h1, rfl⟩ := h
 have hm := List.mem_of_find?_eq_some h1
 have he := List.find?_some h1
 simp only [beq_iff_eq] at he
 have := all_ok x hm
 rw [he] at this
 rw [Option.any_eq_true] at this
 exact this
theorem pact {f : Nat} {args args' : List T} {r : T} (h : Go.Mch.Call pg f args args' r) : Pact Tryz.prog fm f args args' r :=
 sound follows (fun _ _ _ _ h => False.elim h) prog_ok h
end Go.Proofs.YtkcgdmjdkbgmkaaGreat.Tie
