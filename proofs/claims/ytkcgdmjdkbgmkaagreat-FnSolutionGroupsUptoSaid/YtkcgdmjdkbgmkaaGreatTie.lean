/- The compact code of the functions is this seat's program's: what the machine calls good,the program does. -/
import Derived.Test.YtkcgdmjdkbgmkaaGreatRows
import Derived.KernelRfl
import Derived.Test.YtkcgdmjdkbgmkaaGreatM4
import Derived.Test.YtkcgdmjdkbgmkaaGreatYeA
import Derived.Test.YtkcgdmjdkbgmkaaGreatYeB
import Derived.Test.YtkcgdmjdkbgmkaaGreatYeC
import Derived.Test.YtkcgdmjdkbgmkaaGreatYeD
import Derived.Test.YtkcgdmjdkbgmkaaGreatYeE
import Derived.Test.YtkcgdmjdkbgmkaaGreatYeG
import Derived.Test.YtkcgdmjdkbgmkaaGreatYeH
namespace Go.Proofs.YtkcgdmjdkbgmkaaGreat.Tie
open Go.Mch
def fmL:List Nat:=[0,0,0,0,0,0,0,0,0,0,0,0,0,0,0,0,0,0,0,0,0,0,0,0,0,0,0,0,0,0,118,190,0,0,0,96,107,0,0,0,0,112,95,0,0,0,220,209,0,0,145,146,0,0,214,0,186,187,188,102,180,181,266,176,213,215,123,192,232,211,234,0,0,3,0,0,0,0,0,0,0,0,0,0,0,0,0,0,0,0,0,0,0,0,0,0,0,0,0,0,0,0,0,0,0,0,0,0,0,0,0,0,0,0,0,0,0,0,0,0,0,0,0,0,0,0,0,18,10,11,12,13,14,15,16,17,19,20,21,22,23,24,25,0,0,0,0,0,0,0,0,0,0,0,0,0,0,0,0,0,0,0,0,0,0,0,0,0,0,0,0,0,0,0,0,0,0,0,0,0,0,0,0,0,0,0,0,0,0,0,0,0,0,0,0,0,0,0,0,0,0,0,0,0,0,0,0,0,0,0,0,0,0,0,0,0,0,0,0,0,0,0,0,0,0,0,0,0,0,0,0,0,0,0,0,0,0,0,0,0,0,0,0,0,0,0,0,0,0,0,0,0,0,0,0,0,0,0,0,0,0,0,0,0,84,174,81,88,79,80,82,83,85,86,87,89,90,91,92,240,115,0,0,0,0,103,0,0,0,0,0,0,93,0,0,0,0,0,0,0,0,0,0,0,224,0,0,0,0,0,0,0,108,110,111,0,0,0,0,0,0,0,0,0,0,0,0,0,0,0,0,0,0,0,226,175,138,0,0,0,0,0,0,173,0,0,134,0,0,233,172,271,0,0,0,0,0,0,0,0,0,0,0,152,153,0,155,156,157,0,0,0,0,0,0,210,178,179,168,169,170,171,177,0,0,0,0,0,0,0,0,0,0,183,184,185,0,0,225,0,0,0,0,0,0,0,231,0,253,0,221,0,208,216,0,0,0,222,223,0,0,0,265,283,270,291,0,237,238,239,0,0,0,242,243,244,245,246,247,248,249,250,251,252,0,264,0,0,0,272,273,274,275,276,277,0,0,0,284,285,286,287,0,0,0,292]
def fm (k:Nat):Nat:=fmL.getD k 0
theorem k73:(Tryz.prog.funcs[3]?).any (okF Tryz.prog fm c_laws_FnSolutionGroups)=true:=by kernel_rfl
theorem k128:(Tryz.prog.funcs[10]?).any (okF Tryz.prog fm c_laws_big)=true:=by kernel_rfl
theorem k129:(Tryz.prog.funcs[11]?).any (okF Tryz.prog fm c_spec_DrawWholeGroupOrder)=true:=by kernel_rfl
theorem k130:(Tryz.prog.funcs[12]?).any (okF Tryz.prog fm c_impl_WholeGroupOrder)=true:=by kernel_rfl
theorem k131:(Tryz.prog.funcs[13]?).any (okF Tryz.prog fm c_spec_WholeGroupOrder)=true:=by kernel_rfl
theorem k132:(Tryz.prog.funcs[14]?).any (okF Tryz.prog fm c_impl_LeftGroup)=true:=by kernel_rfl
theorem k133:(Tryz.prog.funcs[15]?).any (okF Tryz.prog fm c_impl_LeftGroupOrder)=true:=by kernel_rfl
theorem k134:(Tryz.prog.funcs[16]?).any (okF Tryz.prog fm c_impl_RightGroupOrder)=true:=by kernel_rfl
theorem k135:(Tryz.prog.funcs[17]?).any (okF Tryz.prog fm c_impl_LambdaMaps)=true:=by kernel_rfl
theorem k127:(Tryz.prog.funcs[18]?).any (okF Tryz.prog fm c_impl_RhoMaps)=true:=by kernel_rfl
theorem k136:(Tryz.prog.funcs[19]?).any (okF Tryz.prog fm c_impl_IsAbelianLeft)=true:=by kernel_rfl
theorem k137:(Tryz.prog.funcs[20]?).any (okF Tryz.prog fm c_laws_likeRows5)=true:=by kernel_rfl
theorem k138:(Tryz.prog.funcs[21]?).any (okF Tryz.prog fm c_laws_hasRow5)=true:=by kernel_rfl
theorem k139:(Tryz.prog.funcs[22]?).any (okF Tryz.prog fm c_laws_roll)=true:=by kernel_rfl
theorem k140:(Tryz.prog.funcs[23]?).any (okF Tryz.prog fm c___laws_dice__below)=true:=by kernel_rfl
theorem k141:(Tryz.prog.funcs[24]?).any (okF Tryz.prog fm c_laws_likeInts)=true:=by kernel_rfl
theorem k142:(Tryz.prog.funcs[25]?).any (okF Tryz.prog fm c_laws_then5)=true:=by kernel_rfl
theorem k268:(Tryz.prog.funcs[79]?).any (okF Tryz.prog fm c_spec_l07Spoil)=true:=by kernel_rfl
theorem k269:(Tryz.prog.funcs[80]?).any (okF Tryz.prog fm c_spec_l01From)=true:=by kernel_rfl
theorem k266:(Tryz.prog.funcs[81]?).any (okF Tryz.prog fm c_impl_isRegular)=true:=by kernel_rfl
theorem k270:(Tryz.prog.funcs[82]?).any (okF Tryz.prog fm c_impl_limitedOrder)=true:=by kernel_rfl
theorem k271:(Tryz.prog.funcs[83]?).any (okF Tryz.prog fm c_impl_wholeSystem)=true:=by kernel_rfl
theorem k264:(Tryz.prog.funcs[84]?).any (okF Tryz.prog fm c_spec_l07Is)=true:=by kernel_rfl
theorem k272:(Tryz.prog.funcs[85]?).any (okF Tryz.prog fm c_spec_l07Order)=true:=by kernel_rfl
theorem k273:(Tryz.prog.funcs[86]?).any (okF Tryz.prog fm c_spec_l07Both)=true:=by kernel_rfl
theorem k274:(Tryz.prog.funcs[87]?).any (okF Tryz.prog fm c_impl_groupElements)=true:=by kernel_rfl
theorem k267:(Tryz.prog.funcs[88]?).any (okF Tryz.prog fm c_impl_transposed)=true:=by kernel_rfl
theorem k275:(Tryz.prog.funcs[89]?).any (okF Tryz.prog fm c_impl_cloneTable)=true:=by kernel_rfl
theorem k276:(Tryz.prog.funcs[90]?).any (okF Tryz.prog fm c_slices_Equal___int64_int64_)=true:=by kernel_rfl
theorem k277:(Tryz.prog.funcs[91]?).any (okF Tryz.prog fm c_impl_then)=true:=by kernel_rfl
theorem k278:(Tryz.prog.funcs[92]?).any (okF Tryz.prog fm c_impl_ThenPermutation)=true:=by kernel_rfl
theorem k292:(Tryz.prog.funcs[93]?).any (okF Tryz.prog fm c_spec_l01Pick)=true:=by kernel_rfl
theorem k42:(Tryz.prog.funcs[95]?).any (okF Tryz.prog fm c_impl_IsSolution)=true:=by kernel_rfl
theorem k35:(Tryz.prog.funcs[96]?).any (okF Tryz.prog fm c_impl_within)=true:=by kernel_rfl
theorem k59:(Tryz.prog.funcs[102]?).any (okF Tryz.prog fm c_impl_IsPairMap)=true:=by kernel_rfl
theorem k285:(Tryz.prog.funcs[103]?).any (okF Tryz.prog fm c_impl_isNondegenerate)=true:=by kernel_rfl
theorem k36:(Tryz.prog.funcs[107]?).any (okF Tryz.prog fm c_slices_Clone___int64_int64_)=true:=by kernel_rfl
theorem k312:(Tryz.prog.funcs[108]?).any (okF Tryz.prog fm c_impl_digitsText)=true:=by kernel_rfl
theorem k313:(Tryz.prog.funcs[110]?).any (okF Tryz.prog fm c_slices_SortFunc_____int64___int64_)=true:=by kernel_rfl
theorem k314:(Tryz.prog.funcs[111]?).any (okF Tryz.prog fm c_slices_Compare___int64_int64_)=true:=by kernel_rfl
theorem k41:(Tryz.prog.funcs[112]?).any (okF Tryz.prog fm c_spec_l02Is)=true:=by kernel_rfl
theorem k280:(Tryz.prog.funcs[115]?).any (okF Tryz.prog fm c_spec_l01Own2)=true:=by kernel_rfl
theorem k30:(Tryz.prog.funcs[118]?).any (okF Tryz.prog fm c_spec_l01In)=true:=by kernel_rfl
theorem k66:(Tryz.prog.funcs[123]?).any (okF Tryz.prog fm c_impl_isPermuted)=true:=by kernel_rfl
theorem k346:(Tryz.prog.funcs[134]?).any (okF Tryz.prog fm c_impl_IsPermutation)=true:=by kernel_rfl
theorem k336:(Tryz.prog.funcs[138]?).any (okF Tryz.prog fm c_spec_l01Next)=true:=by kernel_rfl
theorem k50:(Tryz.prog.funcs[145]?).any (okF Tryz.prog fm c_impl_IsTable)=true:=by kernel_rfl
theorem k51:(Tryz.prog.funcs[146]?).any (okF Tryz.prog fm c_impl_permutationRows)=true:=by kernel_rfl
theorem k363:(Tryz.prog.funcs[152]?).any (okF Tryz.prog fm c_spec_l05Is)=true:=by kernel_rfl
theorem k364:(Tryz.prog.funcs[153]?).any (okF Tryz.prog fm c_spec_l05Cycle)=true:=by kernel_rfl
theorem k366:(Tryz.prog.funcs[155]?).any (okF Tryz.prog fm c_spec_l05Solution)=true:=by kernel_rfl
theorem k367:(Tryz.prog.funcs[156]?).any (okF Tryz.prog fm c_spec_l01Rename)=true:=by kernel_rfl
theorem k368:(Tryz.prog.funcs[157]?).any (okF Tryz.prog fm c_spec_l01Draw)=true:=by kernel_rfl
theorem k378:(Tryz.prog.funcs[168]?).any (okF Tryz.prog fm c_spec_l05Draw)=true:=by kernel_rfl
theorem k379:(Tryz.prog.funcs[169]?).any (okF Tryz.prog fm c_spec_l02Spoil)=true:=by kernel_rfl
theorem k380:(Tryz.prog.funcs[170]?).any (okF Tryz.prog fm c_impl_groupOrder)=true:=by kernel_rfl
theorem k381:(Tryz.prog.funcs[171]?).any (okF Tryz.prog fm c_slices_Concat_____int64___int64_)=true:=by kernel_rfl
theorem k350:(Tryz.prog.funcs[172]?).any (okF Tryz.prog fm c_spec_l02Good)=true:=by kernel_rfl
theorem k343:(Tryz.prog.funcs[173]?).any (okF Tryz.prog fm c_spec_l01Group)=true:=by kernel_rfl
theorem k265:(Tryz.prog.funcs[174]?).any (okF Tryz.prog fm c_spec_l01Turn)=true:=by kernel_rfl
theorem k335:(Tryz.prog.funcs[175]?).any (okF Tryz.prog fm c_impl_identity)=true:=by kernel_rfl
theorem k63:(Tryz.prog.funcs[176]?).any (okF Tryz.prog fm c_slices_ContainsFunc_____int64___int64_)=true:=by kernel_rfl
theorem k382:(Tryz.prog.funcs[177]?).any (okF Tryz.prog fm c_impl_groupElements_1)=true:=by kernel_rfl
theorem k376:(Tryz.prog.funcs[178]?).any (okF Tryz.prog fm c_impl_tableBy)=true:=by kernel_rfl
theorem k377:(Tryz.prog.funcs[179]?).any (okF Tryz.prog fm c_impl_transposed_1)=true:=by kernel_rfl
theorem k60:(Tryz.prog.funcs[180]?).any (okF Tryz.prog fm c_impl_collisionOf)=true:=by kernel_rfl
theorem k61:(Tryz.prog.funcs[181]?).any (okF Tryz.prog fm c_impl_equationFault)=true:=by kernel_rfl
theorem k393:(Tryz.prog.funcs[183]?).any (okF Tryz.prog fm c_slices_pdqsortCmpFunc___int64_)=true:=by kernel_rfl
theorem k394:(Tryz.prog.funcs[184]?).any (okF Tryz.prog fm c_math_bits_Len)=true:=by kernel_rfl
theorem k395:(Tryz.prog.funcs[185]?).any (okF Tryz.prog fm c_cmp_Compare_int64_)=true:=by kernel_rfl
theorem k56:(Tryz.prog.funcs[186]?).any (okF Tryz.prog fm c_spec_l02Map)=true:=by kernel_rfl
theorem k57:(Tryz.prog.funcs[187]?).any (okF Tryz.prog fm c_spec_l02Collision)=true:=by kernel_rfl
theorem k58:(Tryz.prog.funcs[188]?).any (okF Tryz.prog fm c_spec_l02Fault)=true:=by kernel_rfl
theorem k31:(Tryz.prog.funcs[190]?).any (okF Tryz.prog fm c_spec_l01Own)=true:=by kernel_rfl
theorem k67:(Tryz.prog.funcs[192]?).any (okF Tryz.prog fm c_spec_l01Same)=true:=by kernel_rfl
theorem k412:(Tryz.prog.funcs[208]?).any (okF Tryz.prog fm c_spec_l02Draw)=true:=by kernel_rfl
theorem k47:(Tryz.prog.funcs[209]?).any (okF Tryz.prog fm c_spec_l01Perm)=true:=by kernel_rfl
theorem k375:(Tryz.prog.funcs[210]?).any (okF Tryz.prog fm c_spec_l01Column)=true:=by kernel_rfl
theorem k69:(Tryz.prog.funcs[211]?).any (okF Tryz.prog fm c_spec_l01Index)=true:=by kernel_rfl
theorem k64:(Tryz.prog.funcs[213]?).any (okF Tryz.prog fm c_impl_IsTable_1)=true:=by kernel_rfl
theorem k54:(Tryz.prog.funcs[214]?).any (okF Tryz.prog fm c_impl_allWithin)=true:=by kernel_rfl
theorem k65:(Tryz.prog.funcs[215]?).any (okF Tryz.prog fm c_impl_permutationRows_1)=true:=by kernel_rfl
theorem k413:(Tryz.prog.funcs[216]?).any (okF Tryz.prog fm c_spec_l01Bad)=true:=by kernel_rfl
theorem k46:(Tryz.prog.funcs[220]?).any (okF Tryz.prog fm c_spec_l01Table)=true:=by kernel_rfl
theorem k410:(Tryz.prog.funcs[221]?).any (okF Tryz.prog fm c_spec_l01Rows)=true:=by kernel_rfl
theorem k417:(Tryz.prog.funcs[222]?).any (okF Tryz.prog fm c_spec_l05Squares)=true:=by kernel_rfl
theorem k418:(Tryz.prog.funcs[223]?).any (okF Tryz.prog fm c_spec_l05Fault)=true:=by kernel_rfl
theorem k304:(Tryz.prog.funcs[224]?).any (okF Tryz.prog fm c_spec_l01Back)=true:=by kernel_rfl
theorem k398:(Tryz.prog.funcs[225]?).any (okF Tryz.prog fm c_spec_l02Empty)=true:=by kernel_rfl
theorem k334:(Tryz.prog.funcs[226]?).any (okF Tryz.prog fm c_spec_l01Unit)=true:=by kernel_rfl
theorem k406:(Tryz.prog.funcs[231]?).any (okF Tryz.prog fm c_spec_l02Inverse)=true:=by kernel_rfl
theorem k68:(Tryz.prog.funcs[232]?).any (okF Tryz.prog fm c_spec_l02Do)=true:=by kernel_rfl
theorem k349:(Tryz.prog.funcs[233]?).any (okF Tryz.prog fm c_spec_l01Put)=true:=by kernel_rfl
theorem k70:(Tryz.prog.funcs[234]?).any (okF Tryz.prog fm c_slices_IndexFunc_____int64___int64_)=true:=by kernel_rfl
theorem k427:(Tryz.prog.funcs[237]?).any (okF Tryz.prog fm c_spec_l05Any)=true:=by kernel_rfl
theorem k428:(Tryz.prog.funcs[238]?).any (okF Tryz.prog fm c_spec_l01Tables)=true:=by kernel_rfl
theorem k429:(Tryz.prog.funcs[239]?).any (okF Tryz.prog fm c_slices_Grow_____int64___int64_)=true:=by kernel_rfl
theorem k279:(Tryz.prog.funcs[240]?).any (okF Tryz.prog fm c_spec_l01Then)=true:=by kernel_rfl
theorem k433:(Tryz.prog.funcs[242]?).any (okF Tryz.prog fm c_slices_insertionSortCmpFunc___int64_)=true:=by kernel_rfl
theorem k434:(Tryz.prog.funcs[243]?).any (okF Tryz.prog fm c_slices_heapSortCmpFunc___int64_)=true:=by kernel_rfl
theorem k435:(Tryz.prog.funcs[244]?).any (okF Tryz.prog fm c_slices_breakPatternsCmpFunc___int64_)=true:=by kernel_rfl
theorem k436:(Tryz.prog.funcs[245]?).any (okF Tryz.prog fm c_slices_choosePivotCmpFunc___int64_)=true:=by kernel_rfl
theorem k437:(Tryz.prog.funcs[246]?).any (okF Tryz.prog fm c_slices_reverseRangeCmpFunc___int64_)=true:=by kernel_rfl
theorem k438:(Tryz.prog.funcs[247]?).any (okF Tryz.prog fm c_slices_partialInsertionSortCmpFunc___int64_)=true:=by kernel_rfl
theorem k439:(Tryz.prog.funcs[248]?).any (okF Tryz.prog fm c_slices_partitionEqualCmpFunc___int64_)=true:=by kernel_rfl
theorem k440:(Tryz.prog.funcs[249]?).any (okF Tryz.prog fm c_slices_partitionCmpFunc___int64_)=true:=by kernel_rfl
theorem k441:(Tryz.prog.funcs[250]?).any (okF Tryz.prog fm c_math_bits_Len32)=true:=by kernel_rfl
theorem k442:(Tryz.prog.funcs[251]?).any (okF Tryz.prog fm c_math_bits_Len64)=true:=by kernel_rfl
theorem k443:(Tryz.prog.funcs[252]?).any (okF Tryz.prog fm c_cmp_isNaN_int64_)=true:=by kernel_rfl
theorem k408:(Tryz.prog.funcs[253]?).any (okF Tryz.prog fm c_spec_l01Less)=true:=by kernel_rfl
theorem k445:(Tryz.prog.funcs[264]?).any (okF Tryz.prog fm c_spec_l02Any)=true:=by kernel_rfl
theorem k422:(Tryz.prog.funcs[265]?).any (okF Tryz.prog fm c_spec_l02Rename)=true:=by kernel_rfl
theorem k62:(Tryz.prog.funcs[266]?).any (okF Tryz.prog fm c_spec_l01Has)=true:=by kernel_rfl
theorem k424:(Tryz.prog.funcs[270]?).any (okF Tryz.prog fm c_spec_l05Affine)=true:=by kernel_rfl
theorem k351:(Tryz.prog.funcs[271]?).any (okF Tryz.prog fm c_spec_l02Twice)=true:=by kernel_rfl
theorem k449:(Tryz.prog.funcs[272]?).any (okF Tryz.prog fm c_spec_l02Flip)=true:=by kernel_rfl
theorem k450:(Tryz.prog.funcs[273]?).any (okF Tryz.prog fm c_slices_siftDownCmpFunc___int64_)=true:=by kernel_rfl
theorem k451:(Tryz.prog.funcs[274]?).any (okF Tryz.prog fm c_slices_nextPowerOfTwo)=true:=by kernel_rfl
theorem k452:(Tryz.prog.funcs[275]?).any (okF Tryz.prog fm c___slices_xorshift__Next)=true:=by kernel_rfl
theorem k453:(Tryz.prog.funcs[276]?).any (okF Tryz.prog fm c_slices_medianAdjacentCmpFunc___int64_)=true:=by kernel_rfl
theorem k454:(Tryz.prog.funcs[277]?).any (okF Tryz.prog fm c_slices_medianCmpFunc___int64_)=true:=by kernel_rfl
theorem k423:(Tryz.prog.funcs[283]?).any (okF Tryz.prog fm c_spec_l02Polygon)=true:=by kernel_rfl
theorem k458:(Tryz.prog.funcs[284]?).any (okF Tryz.prog fm c_spec_l02Product)=true:=by kernel_rfl
theorem k459:(Tryz.prog.funcs[285]?).any (okF Tryz.prog fm c_spec_l02Twisted)=true:=by kernel_rfl
theorem k460:(Tryz.prog.funcs[286]?).any (okF Tryz.prog fm c_spec_l02Union)=true:=by kernel_rfl
theorem k461:(Tryz.prog.funcs[287]?).any (okF Tryz.prog fm c_spec_l02Involutive)=true:=by kernel_rfl
theorem k425:(Tryz.prog.funcs[291]?).any (okF Tryz.prog fm c_spec_l02Twist)=true:=by kernel_rfl
theorem k465:(Tryz.prog.funcs[292]?).any (okF Tryz.prog fm c_slices_order2CmpFunc___int64_)=true:=by kernel_rfl
def tab:List (Nat×F):=[(73,c_laws_FnSolutionGroups),(128,c_laws_big),(129,c_spec_DrawWholeGroupOrder),(130,c_impl_WholeGroupOrder),(131,c_spec_WholeGroupOrder),(132,c_impl_LeftGroup),(133,c_impl_LeftGroupOrder),(134,c_impl_RightGroupOrder),(135,c_impl_LambdaMaps),(127,c_impl_RhoMaps),(136,c_impl_IsAbelianLeft),(137,c_laws_likeRows5),(138,c_laws_hasRow5),(139,c_laws_roll),(140,c___laws_dice__below),(141,c_laws_likeInts),(142,c_laws_then5),(268,c_spec_l07Spoil),(269,c_spec_l01From),(266,c_impl_isRegular),(270,c_impl_limitedOrder),(271,c_impl_wholeSystem),(264,c_spec_l07Is),(272,c_spec_l07Order),(273,c_spec_l07Both),(274,c_impl_groupElements),(267,c_impl_transposed),(275,c_impl_cloneTable),(276,c_slices_Equal___int64_int64_),(277,c_impl_then),(278,c_impl_ThenPermutation),(292,c_spec_l01Pick),(42,c_impl_IsSolution),(35,c_impl_within),(59,c_impl_IsPairMap),(285,c_impl_isNondegenerate),(36,c_slices_Clone___int64_int64_),(312,c_impl_digitsText),(313,c_slices_SortFunc_____int64___int64_),(314,c_slices_Compare___int64_int64_),(41,c_spec_l02Is),(280,c_spec_l01Own2),(30,c_spec_l01In),(66,c_impl_isPermuted),(346,c_impl_IsPermutation),(336,c_spec_l01Next),(50,c_impl_IsTable),(51,c_impl_permutationRows),(363,c_spec_l05Is),(364,c_spec_l05Cycle),(366,c_spec_l05Solution),(367,c_spec_l01Rename),(368,c_spec_l01Draw),(378,c_spec_l05Draw),(379,c_spec_l02Spoil),(380,c_impl_groupOrder),(381,c_slices_Concat_____int64___int64_),(350,c_spec_l02Good),(343,c_spec_l01Group),(265,c_spec_l01Turn),(335,c_impl_identity),(63,c_slices_ContainsFunc_____int64___int64_),(382,c_impl_groupElements_1),(376,c_impl_tableBy),(377,c_impl_transposed_1),(60,c_impl_collisionOf),(61,c_impl_equationFault),(393,c_slices_pdqsortCmpFunc___int64_),(394,c_math_bits_Len),(395,c_cmp_Compare_int64_),(56,c_spec_l02Map),(57,c_spec_l02Collision),(58,c_spec_l02Fault),(31,c_spec_l01Own),(67,c_spec_l01Same),(412,c_spec_l02Draw),(47,c_spec_l01Perm),(375,c_spec_l01Column),(69,c_spec_l01Index),(64,c_impl_IsTable_1),(54,c_impl_allWithin),(65,c_impl_permutationRows_1),(413,c_spec_l01Bad),(46,c_spec_l01Table),(410,c_spec_l01Rows),(417,c_spec_l05Squares),(418,c_spec_l05Fault),(304,c_spec_l01Back),(398,c_spec_l02Empty),(334,c_spec_l01Unit),(406,c_spec_l02Inverse),(68,c_spec_l02Do),(349,c_spec_l01Put),(70,c_slices_IndexFunc_____int64___int64_),(427,c_spec_l05Any),(428,c_spec_l01Tables),(429,c_slices_Grow_____int64___int64_),(279,c_spec_l01Then),(433,c_slices_insertionSortCmpFunc___int64_),(434,c_slices_heapSortCmpFunc___int64_),(435,c_slices_breakPatternsCmpFunc___int64_),(436,c_slices_choosePivotCmpFunc___int64_),(437,c_slices_reverseRangeCmpFunc___int64_),(438,c_slices_partialInsertionSortCmpFunc___int64_),(439,c_slices_partitionEqualCmpFunc___int64_),(440,c_slices_partitionCmpFunc___int64_),(441,c_math_bits_Len32),(442,c_math_bits_Len64),(443,c_cmp_isNaN_int64_),(408,c_spec_l01Less),(445,c_spec_l02Any),(422,c_spec_l02Rename),(62,c_spec_l01Has),(424,c_spec_l05Affine),(351,c_spec_l02Twice),(449,c_spec_l02Flip),(450,c_slices_siftDownCmpFunc___int64_),(451,c_slices_nextPowerOfTwo),(452,c___slices_xorshift__Next),(453,c_slices_medianAdjacentCmpFunc___int64_),(454,c_slices_medianCmpFunc___int64_),(423,c_spec_l02Polygon),(458,c_spec_l02Product),(459,c_spec_l02Twisted),(460,c_spec_l02Union),(461,c_spec_l02Involutive),(425,c_spec_l02Twist),(465,c_slices_order2CmpFunc___int64_)]
def pg:Pg:={ fn:=fun f=>(tab.find? fun x=>x.1 == f).map (·.2) }
theorem all_ok:∀ x,x∈tab→(Tryz.prog.funcs[fm x.1]?).any (okF Tryz.prog fm x.2)=true:=by
 intro x hx
 unfold tab at hx
 simp only [List.mem_cons,List.not_mem_nil,or_false] at hx
 rcases hx with rfl | rfl | rfl | rfl | rfl | rfl | rfl | rfl | rfl | rfl | rfl | rfl | rfl | rfl | rfl | rfl | rfl | rfl | rfl | rfl | rfl | rfl | rfl | rfl | rfl | rfl | rfl | rfl | rfl | rfl | rfl | rfl | rfl | rfl | rfl | rfl | rfl | rfl | rfl | rfl | rfl | rfl | rfl | rfl | rfl | rfl | rfl | rfl | rfl | rfl | rfl | rfl | rfl | rfl | rfl | rfl | rfl | rfl | rfl | rfl | rfl | rfl | rfl | rfl | rfl | rfl | rfl | rfl | rfl | rfl | rfl | rfl | rfl | rfl | rfl | rfl | rfl | rfl | rfl | rfl | rfl | rfl | rfl | rfl | rfl | rfl | rfl | rfl | rfl | rfl | rfl | rfl | rfl | rfl | rfl | rfl | rfl | rfl | rfl | rfl | rfl | rfl | rfl | rfl | rfl | rfl | rfl | rfl | rfl | rfl | rfl | rfl | rfl | rfl | rfl | rfl | rfl | rfl | rfl | rfl | rfl | rfl | rfl | rfl | rfl | rfl | rfl | rfl
 · exact k73
 · exact k128
 · exact k129
 · exact k130
 · exact k131
 · exact k132
 · exact k133
 · exact k134
 · exact k135
 · exact k127
 · exact k136
 · exact k137
 · exact k138
 · exact k139
 · exact k140
 · exact k141
 · exact k142
 · exact k268
 · exact k269
 · exact k266
 · exact k270
 · exact k271
 · exact k264
 · exact k272
 · exact k273
 · exact k274
 · exact k267
 · exact k275
 · exact k276
 · exact k277
 · exact k278
 · exact k292
 · exact k42
 · exact k35
 · exact k59
 · exact k285
 · exact k36
 · exact k312
 · exact k313
 · exact k314
 · exact k41
 · exact k280
 · exact k30
 · exact k66
 · exact k346
 · exact k336
 · exact k50
 · exact k51
 · exact k363
 · exact k364
 · exact k366
 · exact k367
 · exact k368
 · exact k378
 · exact k379
 · exact k380
 · exact k381
 · exact k350
 · exact k343
 · exact k265
 · exact k335
 · exact k63
 · exact k382
 · exact k376
 · exact k377
 · exact k60
 · exact k61
 · exact k393
 · exact k394
 · exact k395
 · exact k56
 · exact k57
 · exact k58
 · exact k31
 · exact k67
 · exact k412
 · exact k47
 · exact k375
 · exact k69
 · exact k64
 · exact k54
 · exact k65
 · exact k413
 · exact k46
 · exact k410
 · exact k417
 · exact k418
 · exact k304
 · exact k398
 · exact k334
 · exact k406
 · exact k68
 · exact k349
 · exact k70
 · exact k427
 · exact k428
 · exact k429
 · exact k279
 · exact k433
 · exact k434
 · exact k435
 · exact k436
 · exact k437
 · exact k438
 · exact k439
 · exact k440
 · exact k441
 · exact k442
 · exact k443
 · exact k408
 · exact k445
 · exact k422
 · exact k62
 · exact k424
 · exact k351
 · exact k449
 · exact k450
 · exact k451
 · exact k452
 · exact k453
 · exact k454
 · exact k423
 · exact k458
 · exact k459
 · exact k460
 · exact k461
 · exact k425
 · exact k465
theorem follows:Tryz.prog.follows .mixedOrders=true:=by kernel_rfl
theorem prog_ok:∀ f F,pg.fn f=some F→∃ fn,Tryz.prog.funcs[fm f]?=some fn∧okF Tryz.prog fm F fn=true:=by
 intro f F h
 simp only [pg,Option.map_eq_some_iff] at h
 obtain ⟨x,h1,rfl⟩:=h
 have hm:=List.mem_of_find?_eq_some h1
 have he:=List.find?_some h1
 simp only [beq_iff_eq] at he
 have:=all_ok x hm
 rw [he] at this
 rw [Option.any_eq_true] at this
 exact this
theorem pact {f:Nat} {args args':List T} {r:T} (h:Go.Mch.Call pg f args args' r):Pact Tryz.prog fm f args args' r :=
 sound follows (fun _ _ _ _ h=>False.elim h) prog_ok h
end Go.Proofs.YtkcgdmjdkbgmkaaGreat.Tie
