/- The compact code of the functions is this seat's program's: what the machine calls good,the program does. -/
import Derived.Test.YtkcgdmjdkbgmkaaGreatRows
import Derived.KernelRfl
import Derived.RangeFuncBox
import Derived.RangeFuncCalls
import Derived.RangeFuncLeaves
import Derived.RangeFuncFrom
import Derived.RangeFuncWrites
import Derived.Shelf.Abstract
import Derived.Shelf.RegionOpen
import Derived.WalkKit
import Derived.OwnWalkIn
import Derived.TacticsInMore
import Derived.LoopNIn
import Derived.LoopIn
import Derived.Test.YtkcgdmjdkbgmkaaGreatM4
import Derived.Test.YtkcgdmjdkbgmkaaGreatYeA
import Derived.Test.YtkcgdmjdkbgmkaaGreatYeB
import Derived.Test.YtkcgdmjdkbgmkaaGreatYeC
import Derived.Test.YtkcgdmjdkbgmkaaGreatYeD
import Derived.Test.YtkcgdmjdkbgmkaaGreatYeE
import Derived.Test.YtkcgdmjdkbgmkaaGreatYeG
import Derived.Test.YtkcgdmjdkbgmkaaGreatYeH
namespace Go.Proofs.YtkcgdmjdkbgmkaaGreat.Tie
open Go.Mch
def fmL:List Nat:=[0,0,0,0,0,0,0,0,0,0,0,0,0,0,0,0,0,77,0,0,0,0,0,0,0,0,0,0,0,0,118,190,0,0,0,96,107,162,100,164,167,112,95,0,109,0,220,209,0,0,145,0,0,230,214,236,186,187,188,102,180,181,266,176,213,0,0,192,232,211,234,0,0,0,0,0,0,0,0,0,0,0,0,0,0,0,0,0,0,0,0,0,0,0,0,0,0,0,0,0,0,0,0,0,0,0,0,0,0,0,0,0,0,0,0,0,0,0,0,0,0,0,0,9,0,0,0,0,10,0,0,0,0,0,0,0,0,20,21,22,23,24,0,0,0,0,0,0,0,0,0,0,0,0,0,0,0,0,30,0,0,0,0,0,0,0,0,0,0,0,0,0,0,0,0,0,0,0,0,0,0,0,0,0,0,0,0,0,0,0,0,0,0,0,0,0,0,0,0,0,0,0,0,0,0,0,0,0,0,0,0,0,0,0,76,73,0,0,0,0,0,75,0,0,0,0,0,0,0,0,0,0,0,0,0,0,0,0,0,0,0,0,0,0,0,0,0,0,0,0,0,0,0,0,0,0,0,72,74,78,0,0,0,0,0,174,0,0,79,80,0,0,0,0,0,89,90,0,0,240,115,0,0,0,0,0,0,0,0,0,0,0,93,0,0,0,0,101,0,0,0,0,0,0,224,0,0,0,0,0,0,0,108,110,111,0,0,0,0,0,0,0,0,0,0,0,0,0,0,0,0,0,0,0,226,0,138,0,0,163,0,166,165,0,0,0,0,0,0,233,172,271,182,0,0,0,0,0,0,0,0,0,0,152,153,0,155,156,157,0,0,0,0,160,161,210,0,0,168,169,0,0,0,0,0,0,0,0,0,0,0,0,0,183,184,185,0,0,225,0,0,0,0,0,0,0,231,235,253,0,221,241,208,216,0,0,0,222,223,0,0,0,265,283,270,291,0,237,238,0,0,0,0,242,243,244,245,246,247,248,249,250,251,252,0,264,0,0,0,272,273,274,275,276,277,0,0,0,284,285,286,287,0,0,0,292]
def fm (k:Nat):Nat:=fmL.getD k 0
theorem k123:(Tryz.prog.funcs[9]?).any (okF Tryz.prog fm c_laws_FnClasses)=true:=by kernel_rfl
theorem k128:(Tryz.prog.funcs[10]?).any (okF Tryz.prog fm c_laws_big)=true:=by kernel_rfl
theorem k137:(Tryz.prog.funcs[20]?).any (okF Tryz.prog fm c_laws_likeRows5)=true:=by kernel_rfl
theorem k138:(Tryz.prog.funcs[21]?).any (okF Tryz.prog fm c_laws_hasRow5)=true:=by kernel_rfl
theorem k139:(Tryz.prog.funcs[22]?).any (okF Tryz.prog fm c_laws_roll)=true:=by kernel_rfl
theorem k140:(Tryz.prog.funcs[23]?).any (okF Tryz.prog fm c___laws_dice__below)=true:=by kernel_rfl
theorem k141:(Tryz.prog.funcs[24]?).any (okF Tryz.prog fm c_laws_likeInts)=true:=by kernel_rfl
theorem k158:(Tryz.prog.funcs[30]?).any (okF Tryz.prog fm c_impl_ClassOfWord)=true:=by kernel_rfl
theorem k257:(Tryz.prog.funcs[72]?).any (okF Tryz.prog fm c_spec_DrawClassOfWord)=true:=by kernel_rfl
theorem k215:(Tryz.prog.funcs[73]?).any (okF Tryz.prog fm c_spec_ClassOfWord)=true:=by kernel_rfl
theorem k258:(Tryz.prog.funcs[74]?).any (okF Tryz.prog fm c_impl_ApplyPair)=true:=by kernel_rfl
theorem k221:(Tryz.prog.funcs[75]?).any (okF Tryz.prog fm c_impl_NormalWord)=true:=by kernel_rfl
theorem k214:(Tryz.prog.funcs[76]?).any (okF Tryz.prog fm c_impl_AreEqualWords)=true:=by kernel_rfl
theorem k259:(Tryz.prog.funcs[78]?).any (okF Tryz.prog fm c_laws_list5)=true:=by kernel_rfl
theorem k268:(Tryz.prog.funcs[79]?).any (okF Tryz.prog fm c_spec_l07Spoil)=true:=by kernel_rfl
theorem k269:(Tryz.prog.funcs[80]?).any (okF Tryz.prog fm c_spec_l01From)=true:=by kernel_rfl
theorem k275:(Tryz.prog.funcs[89]?).any (okF Tryz.prog fm c_impl_cloneTable)=true:=by kernel_rfl
theorem k276:(Tryz.prog.funcs[90]?).any (okF Tryz.prog fm c_slices_Equal___int64_int64_)=true:=by kernel_rfl
theorem k292:(Tryz.prog.funcs[93]?).any (okF Tryz.prog fm c_spec_l01Pick)=true:=by kernel_rfl
theorem k42:(Tryz.prog.funcs[95]?).any (okF Tryz.prog fm c_impl_IsSolution)=true:=by kernel_rfl
theorem k35:(Tryz.prog.funcs[96]?).any (okF Tryz.prog fm c_impl_within)=true:=by kernel_rfl
theorem k38:(Tryz.prog.funcs[100]?).any (okF Tryz.prog fm c_impl_checkWords)=true:=by kernel_rfl
theorem k297:(Tryz.prog.funcs[101]?).any (okF Tryz.prog fm c_impl_limitedClass)=true:=by kernel_rfl
theorem k59:(Tryz.prog.funcs[102]?).any (okF Tryz.prog fm c_impl_IsPairMap)=true:=by kernel_rfl
theorem k36:(Tryz.prog.funcs[107]?).any (okF Tryz.prog fm c_slices_Clone___int64_int64_)=true:=by kernel_rfl
theorem k312:(Tryz.prog.funcs[108]?).any (okF Tryz.prog fm c_impl_digitsText)=true:=by kernel_rfl
theorem k44:(Tryz.prog.funcs[109]?).any (okF Tryz.prog fm c_impl_moved)=true:=by kernel_rfl
theorem k313:(Tryz.prog.funcs[110]?).any (okF Tryz.prog fm c_slices_SortFunc_____int64___int64_)=true:=by kernel_rfl
theorem k314:(Tryz.prog.funcs[111]?).any (okF Tryz.prog fm c_slices_Compare___int64_int64_)=true:=by kernel_rfl
theorem k41:(Tryz.prog.funcs[112]?).any (okF Tryz.prog fm c_spec_l02Is)=true:=by kernel_rfl
theorem k280:(Tryz.prog.funcs[115]?).any (okF Tryz.prog fm c_spec_l01Own2)=true:=by kernel_rfl
theorem k30:(Tryz.prog.funcs[118]?).any (okF Tryz.prog fm c_spec_l01In)=true:=by kernel_rfl
theorem k336:(Tryz.prog.funcs[138]?).any (okF Tryz.prog fm c_spec_l01Next)=true:=by kernel_rfl
theorem k50:(Tryz.prog.funcs[145]?).any (okF Tryz.prog fm c_impl_IsTable)=true:=by kernel_rfl
theorem k363:(Tryz.prog.funcs[152]?).any (okF Tryz.prog fm c_spec_l05Is)=true:=by kernel_rfl
theorem k364:(Tryz.prog.funcs[153]?).any (okF Tryz.prog fm c_spec_l05Cycle)=true:=by kernel_rfl
theorem k366:(Tryz.prog.funcs[155]?).any (okF Tryz.prog fm c_spec_l05Solution)=true:=by kernel_rfl
theorem k367:(Tryz.prog.funcs[156]?).any (okF Tryz.prog fm c_spec_l01Rename)=true:=by kernel_rfl
theorem k368:(Tryz.prog.funcs[157]?).any (okF Tryz.prog fm c_spec_l01Draw)=true:=by kernel_rfl
theorem k373:(Tryz.prog.funcs[160]?).any (okF Tryz.prog fm c_spec_l09DrawWord)=true:=by kernel_rfl
theorem k374:(Tryz.prog.funcs[161]?).any (okF Tryz.prog fm c_spec_l09Size)=true:=by kernel_rfl
theorem k37:(Tryz.prog.funcs[162]?).any (okF Tryz.prog fm c_spec_l09Code)=true:=by kernel_rfl
theorem k339:(Tryz.prog.funcs[163]?).any (okF Tryz.prog fm c_spec_l09Class)=true:=by kernel_rfl
theorem k39:(Tryz.prog.funcs[164]?).any (okF Tryz.prog fm c_impl_areElements)=true:=by kernel_rfl
theorem k342:(Tryz.prog.funcs[165]?).any (okF Tryz.prog fm c_impl_normalWord)=true:=by kernel_rfl
theorem k341:(Tryz.prog.funcs[166]?).any (okF Tryz.prog fm c_impl_listIndex)=true:=by kernel_rfl
theorem k40:(Tryz.prog.funcs[167]?).any (okF Tryz.prog fm c_slices_Backward___int64_int64_)=true:=by kernel_rfl
theorem k378:(Tryz.prog.funcs[168]?).any (okF Tryz.prog fm c_spec_l05Draw)=true:=by kernel_rfl
theorem k379:(Tryz.prog.funcs[169]?).any (okF Tryz.prog fm c_spec_l02Spoil)=true:=by kernel_rfl
theorem k350:(Tryz.prog.funcs[172]?).any (okF Tryz.prog fm c_spec_l02Good)=true:=by kernel_rfl
theorem k265:(Tryz.prog.funcs[174]?).any (okF Tryz.prog fm c_spec_l01Turn)=true:=by kernel_rfl
theorem k63:(Tryz.prog.funcs[176]?).any (okF Tryz.prog fm c_slices_ContainsFunc_____int64___int64_)=true:=by kernel_rfl
theorem k60:(Tryz.prog.funcs[180]?).any (okF Tryz.prog fm c_impl_collisionOf)=true:=by kernel_rfl
theorem k61:(Tryz.prog.funcs[181]?).any (okF Tryz.prog fm c_impl_equationFault)=true:=by kernel_rfl
theorem k352:(Tryz.prog.funcs[182]?).any (okF Tryz.prog fm c_impl_wordClass)=true:=by kernel_rfl
theorem k393:(Tryz.prog.funcs[183]?).any (okF Tryz.prog fm c_slices_pdqsortCmpFunc___int64_)=true:=by kernel_rfl
theorem k394:(Tryz.prog.funcs[184]?).any (okF Tryz.prog fm c_math_bits_Len)=true:=by kernel_rfl
theorem k395:(Tryz.prog.funcs[185]?).any (okF Tryz.prog fm c_cmp_Compare_int64_)=true:=by kernel_rfl
theorem k56:(Tryz.prog.funcs[186]?).any (okF Tryz.prog fm c_spec_l02Map)=true:=by kernel_rfl
theorem k57:(Tryz.prog.funcs[187]?).any (okF Tryz.prog fm c_spec_l02Collision)=true:=by kernel_rfl
theorem k58:(Tryz.prog.funcs[188]?).any (okF Tryz.prog fm c_spec_l02Fault)=true:=by kernel_rfl
theorem k31:(Tryz.prog.funcs[190]?).any (okF Tryz.prog fm c_spec_l01Own)=true:=by kernel_rfl
theorem k67:(Tryz.prog.funcs[192]?).any (okF Tryz.prog fm c_spec_l01Same)=true:=by kernel_rfl
theorem k412:(Tryz.prog.funcs[208]?).any (okF Tryz.prog fm c_spec_l02Draw)=true:=by kernel_rfl
theorem k47:(Tryz.prog.funcs[209]?).any (okF Tryz.prog fm c_spec_l01Perm)=true:=by kernel_rfl
theorem k375:(Tryz.prog.funcs[210]?).any (okF Tryz.prog fm c_spec_l01Column)=true:=by kernel_rfl
theorem k69:(Tryz.prog.funcs[211]?).any (okF Tryz.prog fm c_spec_l01Index)=true:=by kernel_rfl
theorem k64:(Tryz.prog.funcs[213]?).any (okF Tryz.prog fm c_impl_IsTable_1)=true:=by kernel_rfl
theorem k54:(Tryz.prog.funcs[214]?).any (okF Tryz.prog fm c_impl_allWithin)=true:=by kernel_rfl
theorem k413:(Tryz.prog.funcs[216]?).any (okF Tryz.prog fm c_spec_l01Bad)=true:=by kernel_rfl
theorem k46:(Tryz.prog.funcs[220]?).any (okF Tryz.prog fm c_spec_l01Table)=true:=by kernel_rfl
theorem k410:(Tryz.prog.funcs[221]?).any (okF Tryz.prog fm c_spec_l01Rows)=true:=by kernel_rfl
theorem k417:(Tryz.prog.funcs[222]?).any (okF Tryz.prog fm c_spec_l05Squares)=true:=by kernel_rfl
theorem k418:(Tryz.prog.funcs[223]?).any (okF Tryz.prog fm c_spec_l05Fault)=true:=by kernel_rfl
theorem k304:(Tryz.prog.funcs[224]?).any (okF Tryz.prog fm c_spec_l01Back)=true:=by kernel_rfl
theorem k398:(Tryz.prog.funcs[225]?).any (okF Tryz.prog fm c_spec_l02Empty)=true:=by kernel_rfl
theorem k334:(Tryz.prog.funcs[226]?).any (okF Tryz.prog fm c_spec_l01Unit)=true:=by kernel_rfl
theorem k53:(Tryz.prog.funcs[230]?).any (okF Tryz.prog fm c_spec_l09Word)=true:=by kernel_rfl
theorem k406:(Tryz.prog.funcs[231]?).any (okF Tryz.prog fm c_spec_l02Inverse)=true:=by kernel_rfl
theorem k68:(Tryz.prog.funcs[232]?).any (okF Tryz.prog fm c_spec_l02Do)=true:=by kernel_rfl
theorem k349:(Tryz.prog.funcs[233]?).any (okF Tryz.prog fm c_spec_l01Put)=true:=by kernel_rfl
theorem k70:(Tryz.prog.funcs[234]?).any (okF Tryz.prog fm c_slices_IndexFunc_____int64___int64_)=true:=by kernel_rfl
theorem k407:(Tryz.prog.funcs[235]?).any (okF Tryz.prog fm c_impl_listIndex_1)=true:=by kernel_rfl
theorem k427:(Tryz.prog.funcs[237]?).any (okF Tryz.prog fm c_spec_l05Any)=true:=by kernel_rfl
theorem k428:(Tryz.prog.funcs[238]?).any (okF Tryz.prog fm c_spec_l01Tables)=true:=by kernel_rfl
theorem k279:(Tryz.prog.funcs[240]?).any (okF Tryz.prog fm c_spec_l01Then)=true:=by kernel_rfl
theorem k411:(Tryz.prog.funcs[241]?).any (okF Tryz.prog fm c_impl_InverseSolution)=true:=by kernel_rfl
theorem k433:(Tryz.prog.funcs[242]?).any (okF Tryz.prog fm c_slices_insertionSortCmpFunc___int64_)=true:=by kernel_rfl
theorem k434:(Tryz.prog.funcs[243]?).any (okF Tryz.prog fm c_slices_heapSortCmpFunc___int64_)=true:=by kernel_rfl
theorem k435:(Tryz.prog.funcs[244]?).any (okF Tryz.prog fm c_slices_breakPatternsCmpFunc___int64_)=true:=by kernel_rfl
theorem k436:(Tryz.prog.funcs[245]?).any (okF Tryz.prog fm c_slices_choosePivotCmpFunc___int64_)=true:=by kernel_rfl
theorem k437:(Tryz.prog.funcs[246]?).any (okF Tryz.prog fm c_slices_reverseRangeCmpFunc___int64_)=true:=by kernel_rfl
theorem k438:(Tryz.prog.funcs[247]?).any (okF Tryz.prog fm c_slices_partialInsertionSortCmpFunc___int64_)=true:=by kernel_rfl
theorem k439:(Tryz.prog.funcs[248]?).any (okF Tryz.prog fm c_slices_partitionEqualCmpFunc___int64_)=true:=by kernel_rfl
theorem k440:(Tryz.prog.funcs[249]?).any (okF Tryz.prog fm c_slices_partitionCmpFunc___int64_)=true:=by kernel_rfl
theorem k441:(Tryz.prog.funcs[250]?).any (okF Tryz.prog fm c_math_bits_Len32)=true:=by kernel_rfl
theorem k442:(Tryz.prog.funcs[251]?).any (okF Tryz.prog fm c_math_bits_Len64)=true:=by kernel_rfl
theorem k443:(Tryz.prog.funcs[252]?).any (okF Tryz.prog fm c_cmp_isNaN_int64_)=true:=by kernel_rfl
theorem k408:(Tryz.prog.funcs[253]?).any (okF Tryz.prog fm c_spec_l01Less)=true:=by kernel_rfl
theorem k445:(Tryz.prog.funcs[264]?).any (okF Tryz.prog fm c_spec_l02Any)=true:=by kernel_rfl
theorem k422:(Tryz.prog.funcs[265]?).any (okF Tryz.prog fm c_spec_l02Rename)=true:=by kernel_rfl
theorem k62:(Tryz.prog.funcs[266]?).any (okF Tryz.prog fm c_spec_l01Has)=true:=by kernel_rfl
theorem k424:(Tryz.prog.funcs[270]?).any (okF Tryz.prog fm c_spec_l05Affine)=true:=by kernel_rfl
theorem k351:(Tryz.prog.funcs[271]?).any (okF Tryz.prog fm c_spec_l02Twice)=true:=by kernel_rfl
theorem k449:(Tryz.prog.funcs[272]?).any (okF Tryz.prog fm c_spec_l02Flip)=true:=by kernel_rfl
theorem k450:(Tryz.prog.funcs[273]?).any (okF Tryz.prog fm c_slices_siftDownCmpFunc___int64_)=true:=by kernel_rfl
theorem k451:(Tryz.prog.funcs[274]?).any (okF Tryz.prog fm c_slices_nextPowerOfTwo)=true:=by kernel_rfl
theorem k452:(Tryz.prog.funcs[275]?).any (okF Tryz.prog fm c___slices_xorshift__Next)=true:=by kernel_rfl
theorem k453:(Tryz.prog.funcs[276]?).any (okF Tryz.prog fm c_slices_medianAdjacentCmpFunc___int64_)=true:=by kernel_rfl
theorem k454:(Tryz.prog.funcs[277]?).any (okF Tryz.prog fm c_slices_medianCmpFunc___int64_)=true:=by kernel_rfl
theorem k423:(Tryz.prog.funcs[283]?).any (okF Tryz.prog fm c_spec_l02Polygon)=true:=by kernel_rfl
theorem k458:(Tryz.prog.funcs[284]?).any (okF Tryz.prog fm c_spec_l02Product)=true:=by kernel_rfl
theorem k459:(Tryz.prog.funcs[285]?).any (okF Tryz.prog fm c_spec_l02Twisted)=true:=by kernel_rfl
theorem k460:(Tryz.prog.funcs[286]?).any (okF Tryz.prog fm c_spec_l02Union)=true:=by kernel_rfl
theorem k461:(Tryz.prog.funcs[287]?).any (okF Tryz.prog fm c_spec_l02Involutive)=true:=by kernel_rfl
theorem k425:(Tryz.prog.funcs[291]?).any (okF Tryz.prog fm c_spec_l02Twist)=true:=by kernel_rfl
theorem k465:(Tryz.prog.funcs[292]?).any (okF Tryz.prog fm c_slices_order2CmpFunc___int64_)=true:=by kernel_rfl
def tab:List (Nat×F):=[(123,c_laws_FnClasses),(128,c_laws_big),(137,c_laws_likeRows5),(138,c_laws_hasRow5),(139,c_laws_roll),(140,c___laws_dice__below),(141,c_laws_likeInts),(158,c_impl_ClassOfWord),(257,c_spec_DrawClassOfWord),(215,c_spec_ClassOfWord),(258,c_impl_ApplyPair),(221,c_impl_NormalWord),(214,c_impl_AreEqualWords),(259,c_laws_list5),(268,c_spec_l07Spoil),(269,c_spec_l01From),(275,c_impl_cloneTable),(276,c_slices_Equal___int64_int64_),(292,c_spec_l01Pick),(42,c_impl_IsSolution),(35,c_impl_within),(38,c_impl_checkWords),(297,c_impl_limitedClass),(59,c_impl_IsPairMap),(36,c_slices_Clone___int64_int64_),(312,c_impl_digitsText),(44,c_impl_moved),(313,c_slices_SortFunc_____int64___int64_),(314,c_slices_Compare___int64_int64_),(41,c_spec_l02Is),(280,c_spec_l01Own2),(30,c_spec_l01In),(336,c_spec_l01Next),(50,c_impl_IsTable),(363,c_spec_l05Is),(364,c_spec_l05Cycle),(366,c_spec_l05Solution),(367,c_spec_l01Rename),(368,c_spec_l01Draw),(373,c_spec_l09DrawWord),(374,c_spec_l09Size),(37,c_spec_l09Code),(339,c_spec_l09Class),(39,c_impl_areElements),(342,c_impl_normalWord),(341,c_impl_listIndex),(40,c_slices_Backward___int64_int64_),(378,c_spec_l05Draw),(379,c_spec_l02Spoil),(350,c_spec_l02Good),(265,c_spec_l01Turn),(63,c_slices_ContainsFunc_____int64___int64_),(60,c_impl_collisionOf),(61,c_impl_equationFault),(352,c_impl_wordClass),(393,c_slices_pdqsortCmpFunc___int64_),(394,c_math_bits_Len),(395,c_cmp_Compare_int64_),(56,c_spec_l02Map),(57,c_spec_l02Collision),(58,c_spec_l02Fault),(31,c_spec_l01Own),(67,c_spec_l01Same),(412,c_spec_l02Draw),(47,c_spec_l01Perm),(375,c_spec_l01Column),(69,c_spec_l01Index),(64,c_impl_IsTable_1),(54,c_impl_allWithin),(413,c_spec_l01Bad),(46,c_spec_l01Table),(410,c_spec_l01Rows),(417,c_spec_l05Squares),(418,c_spec_l05Fault),(304,c_spec_l01Back),(398,c_spec_l02Empty),(334,c_spec_l01Unit),(53,c_spec_l09Word),(406,c_spec_l02Inverse),(68,c_spec_l02Do),(349,c_spec_l01Put),(70,c_slices_IndexFunc_____int64___int64_),(407,c_impl_listIndex_1),(427,c_spec_l05Any),(428,c_spec_l01Tables),(279,c_spec_l01Then),(411,c_impl_InverseSolution),(433,c_slices_insertionSortCmpFunc___int64_),(434,c_slices_heapSortCmpFunc___int64_),(435,c_slices_breakPatternsCmpFunc___int64_),(436,c_slices_choosePivotCmpFunc___int64_),(437,c_slices_reverseRangeCmpFunc___int64_),(438,c_slices_partialInsertionSortCmpFunc___int64_),(439,c_slices_partitionEqualCmpFunc___int64_),(440,c_slices_partitionCmpFunc___int64_),(441,c_math_bits_Len32),(442,c_math_bits_Len64),(443,c_cmp_isNaN_int64_),(408,c_spec_l01Less),(445,c_spec_l02Any),(422,c_spec_l02Rename),(62,c_spec_l01Has),(424,c_spec_l05Affine),(351,c_spec_l02Twice),(449,c_spec_l02Flip),(450,c_slices_siftDownCmpFunc___int64_),(451,c_slices_nextPowerOfTwo),(452,c___slices_xorshift__Next),(453,c_slices_medianAdjacentCmpFunc___int64_),(454,c_slices_medianCmpFunc___int64_),(423,c_spec_l02Polygon),(458,c_spec_l02Product),(459,c_spec_l02Twisted),(460,c_spec_l02Union),(461,c_spec_l02Involutive),(425,c_spec_l02Twist),(465,c_slices_order2CmpFunc___int64_)]
def pg0:Pg:={ fn:=fun f=>(tab.find? fun x=>x.1 == f).map (·.2) }
theorem all_ok:∀ x,x∈tab→(Tryz.prog.funcs[fm x.1]?).any (okF Tryz.prog fm x.2)=true:=by
 intro x hx
 unfold tab at hx
 simp only [List.mem_cons,List.not_mem_nil,or_false] at hx
 rcases hx with rfl | rfl | rfl | rfl | rfl | rfl | rfl | rfl | rfl | rfl | rfl | rfl | rfl | rfl | rfl | rfl | rfl | rfl | rfl | rfl | rfl | rfl | rfl | rfl | rfl | rfl | rfl | rfl | rfl | rfl | rfl | rfl | rfl | rfl | rfl | rfl | rfl | rfl | rfl | rfl | rfl | rfl | rfl | rfl | rfl | rfl | rfl | rfl | rfl | rfl | rfl | rfl | rfl | rfl | rfl | rfl | rfl | rfl | rfl | rfl | rfl | rfl | rfl | rfl | rfl | rfl | rfl | rfl | rfl | rfl | rfl | rfl | rfl | rfl | rfl | rfl | rfl | rfl | rfl | rfl | rfl | rfl | rfl | rfl | rfl | rfl | rfl | rfl | rfl | rfl | rfl | rfl | rfl | rfl | rfl | rfl | rfl | rfl | rfl | rfl | rfl | rfl | rfl | rfl | rfl | rfl | rfl | rfl | rfl | rfl | rfl | rfl | rfl | rfl | rfl | rfl | rfl
 · exact k123
 · exact k128
 · exact k137
 · exact k138
 · exact k139
 · exact k140
 · exact k141
 · exact k158
 · exact k257
 · exact k215
 · exact k258
 · exact k221
 · exact k214
 · exact k259
 · exact k268
 · exact k269
 · exact k275
 · exact k276
 · exact k292
 · exact k42
 · exact k35
 · exact k38
 · exact k297
 · exact k59
 · exact k36
 · exact k312
 · exact k44
 · exact k313
 · exact k314
 · exact k41
 · exact k280
 · exact k30
 · exact k336
 · exact k50
 · exact k363
 · exact k364
 · exact k366
 · exact k367
 · exact k368
 · exact k373
 · exact k374
 · exact k37
 · exact k339
 · exact k39
 · exact k342
 · exact k341
 · exact k40
 · exact k378
 · exact k379
 · exact k350
 · exact k265
 · exact k63
 · exact k60
 · exact k61
 · exact k352
 · exact k393
 · exact k394
 · exact k395
 · exact k56
 · exact k57
 · exact k58
 · exact k31
 · exact k67
 · exact k412
 · exact k47
 · exact k375
 · exact k69
 · exact k64
 · exact k54
 · exact k413
 · exact k46
 · exact k410
 · exact k417
 · exact k418
 · exact k304
 · exact k398
 · exact k334
 · exact k53
 · exact k406
 · exact k68
 · exact k349
 · exact k70
 · exact k407
 · exact k427
 · exact k428
 · exact k279
 · exact k411
 · exact k433
 · exact k434
 · exact k435
 · exact k436
 · exact k437
 · exact k438
 · exact k439
 · exact k440
 · exact k441
 · exact k442
 · exact k443
 · exact k408
 · exact k445
 · exact k422
 · exact k62
 · exact k424
 · exact k351
 · exact k449
 · exact k450
 · exact k451
 · exact k452
 · exact k453
 · exact k454
 · exact k423
 · exact k458
 · exact k459
 · exact k460
 · exact k461
 · exact k425
 · exact k465
theorem follows:Tryz.prog.follows .mixedOrders=true:=by kernel_rfl
theorem prog_ok0:∀ f F,pg0.fn f=some F→∃ fn,Tryz.prog.funcs[fm f]?=some fn∧okF Tryz.prog fm F fn=true:=by
 intro f F h
 simp only [pg0,Option.map_eq_some_iff] at h
 obtain ⟨x,h1,rfl⟩:=h
 have hm:=List.mem_of_find?_eq_some h1
 have he:=List.find?_some h1
 simp only [beq_iff_eq] at he
 have:=all_ok x hm
 rw [he] at this
 rw [Option.any_eq_true] at this
 exact this
theorem pact0 {f:Nat} {args args':List T} {r:T} (h:Go.Mch.Call pg0 f args args' r):Pact Tryz.prog fm f args args' r :=
 sound follows (fun _ _ _ _ h=>False.elim h) prog_ok0 h
def pg:Pg:={ fn:=pg0.fn,prim:=fun f args args' r=>f=17∧actP (Go.Mch.Call pg0) args args' r }
theorem act_call:∀ args args' r,actP (Go.Mch.Call pg0) args args' r→Go.Mch.Call pg 17 args args' r:=fun _ _ _ h _ hp _=>hp 17 _ _ _ ⟨rfl,h⟩
section
open Go.RowKit Go.Shelf
attribute [local go_sem] Oper.semAt_some
theorem lit38 (t:Array Value) (h:t.size=38):t=#[t.getD 0 undef,t.getD 1 undef,t.getD 2 undef,t.getD 3 undef,t.getD 4 undef,t.getD 5 undef,t.getD 6 undef,t.getD 7 undef,t.getD 8 undef,t.getD 9 undef,t.getD 10 undef,t.getD 11 undef,t.getD 12 undef,t.getD 13 undef,t.getD 14 undef,t.getD 15 undef,t.getD 16 undef,t.getD 17 undef,t.getD 18 undef,t.getD 19 undef,t.getD 20 undef,t.getD 21 undef,t.getD 22 undef,t.getD 23 undef,t.getD 24 undef,t.getD 25 undef,t.getD 26 undef,t.getD 27 undef,t.getD 28 undef,t.getD 29 undef,t.getD 30 undef,t.getD 31 undef,t.getD 32 undef,t.getD 33 undef,t.getD 34 undef,t.getD 35 undef,t.getD 36 undef,t.getD 37 undef]:=by
 have h2:t=((List.range 38).map fun i=>t.getD i undef).toArray:=by
  refine Array.ext (by simp [h]) fun i hi _=>?_
  simp [Array.getD_eq_getD_getElem?,hi]
 exact h2

/-- What has come when k rounds are over. -/
def bkTo {α:Type} (nth:Nat→α) (k:Nat):List α:=(List.range k).map nth
theorem bkTo_succ {α:Type} (nth:Nat→α) (k:Nat):bkTo nth (k+1)=bkTo nth k++[nth k]:=by simp [bkTo,List.range_succ]
theorem bkTo_length {α:Type} (nth:Nat→α) (k:Nat):(bkTo nth k).length=k:=by simp [bkTo]

set_option maxRecDepth 100000 in
set_option maxHeartbeats 2000000 in
theorem back_in {α:Type} (F:Fence) (n:Nat) (h8:F.fn 236) (hro:F.round=none) (hn:1≤n) (l Bs ob b off cap:Nat) (zs:List Nat) (enc:α→Int×Int) (nth:Nat→α)
 (hnth:∀ j,j<zs.length→enc (nth j)=((zs.length:Int)-1-j,((zs[zs.length-1-j]?.getD 0:Nat):Int))) (hreach:zs.length≤1073741824) (Kp:World→World→Prop) (J Jx:List α→World→Prop)
 (hY:∀ pre x W,J pre W→pre.length<zs.length→YieldAt F (n-1) Tryz.prog l #[.int .i64 (enc x).1,.int .i64 (enc x).2] W fun e W' =>
  (e=.returned (.bool true)∧J (pre++[x]) W'∧Kp W W')∨(e=.returned (.bool false)∧Jx (pre++[x]) W'))
 (W:World) (hrefl:Kp W W) (htr:∀ A B,Kp W A→Kp A B→Kp W B)
 (hBs:∀ A,Kp W A→A.cell? ⟨Bs,ob,none⟩=some (.slice (some ⟨b,off,none⟩) zs.length cap)) (hc:∀ A,Kp W A→∀ j,j<zs.length→A.cell? ⟨b,off+j,none⟩=some (.int .i64 ((zs[j]?.getD 0:Nat):Int))) (h0:J [] W) :
 CallsIn F n Tryz.prog 236 #[.func (.yield l) #[] #[],.pointer (some ⟨Bs,ob,none⟩)] W fun e W'=>(∃ v,e=.returned v) ∧
  ((∃ ys,ys=bkTo nth zs.length∧J ys W')∨(∃ pre,True∧Jx pre W')):=by
 refine callsIn_of_wp Tryz.func236 rfl h8 ?_ hro
 simp only [Tryz.ntmps236,List.size_toArray,List.length_cons,List.length_nil,Nat.reduceAdd,Nat.reduceSub,Array.replicate_succ,Array.replicate_zero,List.push_toArray,List.append_toArray,List.nil_append,List.cons_append]
 have hBs0:=hBs W hrefl
 gi_wp2
 gi_loopw [3] (fun i wr=>∃ k:Nat,k≤zs.length∧i=.int .i64 ((zs.length:Int)-1-k)∧J (bkTo nth k) wr∧Kp W wr)
  (fun i _=>(intOf i+1).toNat)
 case atStart=>exact ⟨0,Nat.zero_le _,by simp,h0,hrefl⟩
 case round =>
  obtain ⟨k,hk,rfl,hJs,hnx⟩:=hrel
  have hBsr:=hBs wr hnx
  by_cases hlt:k<zs.length
  · have hcx:=hc wr hnx (zs.length-1-k) (by omega)
    obtain ⟨fn,tmps,assign,body,hy,hR⟩:=hY _ (nth k) wr hJs (by rw [bkTo_length];exact hlt)
    rw [hnth k hlt] at hy
    dsimp only at hy
    gi_wp2
    refine hR.mono ?_
    rintro e W3 (⟨rfl,hJ3,hk3⟩ | ⟨rfl,hJx3⟩)
    · gi_wp2
      go_roundw
      case rel=>exact ⟨k+1,by omega,by simp;omega,by rw [bkTo_succ];exact hJ3,htr _ _ hnx hk3⟩
      case measure=>simp [intOf];omega
    · gi_wp2
      refine bodyPost_ret (results_none rfl _ _ _) rfl ?_
      exact ⟨⟨_,rfl⟩,.inr ⟨_,trivial,hJx3⟩⟩
  · obtain rfl:k=zs.length:=by omega
    gi_wp2
    go_end0
    exact ⟨⟨_,rfl⟩,.inl ⟨_,rfl,hJs⟩⟩

set_option maxRecDepth 100000 in
set_option maxHeartbeats 1000000 in
theorem back_nil_in {α:Type} (F:Fence) (n:Nat) (h8:F.fn 236) (hro:F.round=none) (l Bs ob cap:Nat) (ad:Option Addr) (J:List α→World→Prop) (W:World) (hBs:W.cell? ⟨Bs,ob,none⟩=some (.slice ad 0 cap)) (h0:J [] W) :
 CallsIn F n Tryz.prog 236 #[.func (.yield l) #[] #[],.pointer (some ⟨Bs,ob,none⟩)] W fun e W'=>(∃ v,e=.returned v)∧J [] W':=by
 refine callsIn_of_wp Tryz.func236 rfl h8 ?_ hro
 simp only [Tryz.ntmps236,List.size_toArray,List.length_cons,List.length_nil,Nat.reduceAdd,Nat.reduceSub,Array.replicate_succ,Array.replicate_zero,List.push_toArray,List.append_toArray,List.nil_append,List.cons_append]
 gi_wp2
 gi_loopw [3] (fun i wr=>i=.int .i64 (-1)∧J [] wr) (fun _ _=>0)
 case atStart=>exact ⟨rfl,h0⟩
 case round =>
  obtain ⟨rfl,hJs⟩:=hrel
  gi_wp2
  go_end0
  exact ⟨⟨_,rfl⟩,hJs⟩

/-- What a round keeps: all blocks that lay but one. -/
def keepBut (N B:Nat) (W W':World):Prop:=∀ b,b<N→b≠B→W'.heap[b]?=W.heap[b]?

theorem back_stops {w1 w0:World} {M:Nat→Prop} {v3 v5 v26:Value} {g B5 o5 Bs os x0 n:Nat} {sv:Value} {tab:Nat→Nat→Nat} {zs:List Nat} (h:ActAt w1 w0 M v3 v5 v26 g B5 o5 Bs os x0 n sv tab zs) {α:Type} {m:Nat} (hm:1≤m) (enc:α→Int×Int) (nth:Nat→α)
 (hnth:∀ j,j<zs.length→enc (nth j)=((zs.length:Int)-1-j,((zs[zs.length-1-j]?.getD 0:Nat):Int))) (hreach:zs.length≤1073741824) :
 SeqStopsK Fence.wide m Tryz.prog 236 #[.pointer (some ⟨Bs,os,none⟩)] (fun x=>#[.int .i64 (enc x).1,.int .i64 (enc x).2]) (keepBut w1.heap.size B5) (fun ys=>ys=bkTo nth zs.length) (fun _=>True) zs.length w1:=by
 intro l J Jx W hW _ _ hY h0
 have hcell:∀ A,keepBut w1.heap.size B5 W A→∀ (b o:Nat) (v:Value),b≠B5→w1.cell? ⟨b,o,none⟩=some v→A.cell? ⟨b,o,none⟩=some v:=fun A hA b o v hb hc=>by
  have hlt:b<w1.heap.size:=blk_lt hc
  rw [World.cell?_of_block (a:=⟨b,o,none⟩) ((hA b hlt hb).trans (hW.block b hlt))]
  exact hc
 have hrefl:keepBut w1.heap.size B5 W W:=fun _ _ _=>rfl
 have hcS:=h.cS
 rcases h.sl with ⟨hz,ad,cap,rfl⟩ | ⟨b,off,cap,hb,rfl,hc⟩
 · refine (back_nil_in (α:=α) Fence.wide m trivial rfl l Bs os cap ad J W (hcell W hrefl _ _ _ h.neS hcS) h0).mono ?_
   rintro e W' ⟨he,hj⟩
   exact ⟨he,.inl ⟨_,by rw [hz];rfl,hj⟩⟩
 · refine (back_in Fence.wide m trivial rfl hm l Bs os b off cap zs enc nth hnth hreach (keepBut w1.heap.size B5) J Jx hY W hrefl (fun A B h1 h2 b hb hb5=>(h2 b hb hb5).trans (h1 b hb hb5))
    (fun A hA=>hcell A hA _ _ _ h.neS hcS) (fun A hA j hj=>hcell A hA _ _ _ hb (hc j hj)) h0).mono ?_
   rintro e W' ⟨he,hj⟩
   exact ⟨he,hj⟩

theorem bk_fold (tab:Nat→Nat→Nat) {x0 n:Nat} (hx0:x0<n) {zs:List Nat} (hzn:∀ z∈zs,z<n) :
 (bkTo (fun j=>(((zs.length:Int)-1-j,if h:zs[zs.length-1-j]?.getD 0<n then ⟨_,h⟩ else ⟨x0,hx0⟩):Int×Fin n)) zs.length).foldl (fun x p=>tab p.2.val x) x0=zs.foldr (fun l x=>tab l x) x0:=by
 have h1:(bkTo (fun j=>(((zs.length:Int)-1-j,if h:zs[zs.length-1-j]?.getD 0<n then ⟨_,h⟩ else ⟨x0,hx0⟩):Int×Fin n)) zs.length).map (fun p=>p.2.val)=zs.reverse:=by
  refine List.ext_getElem (by simp [bkTo]) fun i hi hi2=>?_
  simp only [List.length_reverse] at hi2
  have hlt:zs.length-1-i<zs.length:=by omega
  have hm:zs[zs.length-1-i]<n:=hzn _ (List.getElem_mem hlt)
  simp [bkTo,hlt,hm]
 rw [← List.foldl_reverse,← h1,List.foldl_map]

theorem act_step {N B5 o5:Nat} {W:World} {u v:Value} (hc:W.cell? ⟨B5,o5,none⟩=some u) (hf:W.frozen? ⟨B5,o5,none⟩=false) :
 KeepsOthers W (W.setCell ⟨B5,o5,none⟩ v).drew∧keepBut N B5 W (W.setCell ⟨B5,o5,none⟩ v).drew∧(W.setCell ⟨B5,o5,none⟩ v).drew.cell? ⟨B5,o5,none⟩=some v∧(W.setCell ⟨B5,o5,none⟩ v).drew.frozen? ⟨B5,o5,none⟩=false ∧
  (W.setCell ⟨B5,o5,none⟩ v).drew.heap.size=W.heap.size :=
 ⟨(KeepsOthers.setCell _ _ _).trans (KeepsOthers.drew _),fun b _ hb=>Below.heap_setCell _ _ _ _ (fun e=>hb e),World.cell?_setCell_same' _ _ _ (by rw [hc];rfl),by rw [frozen_drew_own,World.frozen?_setCell];exact hf,by simp [World.drew,World.setCell]⟩

def seqL:Code→Code
 | .seq a _=>a
 | c=>c
def seqR:Code→Code
 | .seq _ b=>b
 | c=>c

set_option maxRecDepth 100000 in
set_option maxHeartbeats 4000000 in
theorem act_pact {fm:Nat→Nat} {G:Rl} (hP:Tryz.prog.follows .mixedOrders=true) (hG:∀ f args args' r,G f args args' r→Pact Tryz.prog fm f args args' r) (h17:fm 17=77) (h55:fm 55=236)
 (okA:okC Tryz.prog fm 38 actA (seqL (Tryz.f77.body.getD .skip))=true) (okB:okC Tryz.prog fm 38 actB (seqL (seqR (Tryz.f77.body.getD .skip)))=true) (okC':okC Tryz.prog fm 38 actC (seqL (seqR (seqR (Tryz.f77.body.getD .skip))))=true) (okD:okC Tryz.prog fm 38 actD (seqL (seqL (seqR (seqR (seqR (Tryz.f77.body.getD .skip))))))=true)
 {args args':List T} {r:T} (h:actP G args args' r):Pact Tryz.prog fm 17 args args' r:=by
 obtain ⟨h3,hno,hargs,hw⟩:=h
 have hargs:=hargs.symm
 subst hargs
 refine ⟨⟨Tryz.f77,by rw [h17];exact Tryz.func77,rfl,by kernel_rfl⟩,fun w vs A M hA hsz hM hR=>?_⟩
 rw [h17]
 have hsz3:vs.size=3:=hsz.trans h3
 refine (callsIn_wide (n:=9)).1 ?_
 refine callsIn_of_wp_marks Tryz.func77 rfl trivial ?_ rfl
 have hnt:Tryz.f77.ntmps=38:=by kernel_rfl
 rw [hnt]
 have hrel:Rel (cx0 fm w A M hA) 38 (init args) { tmps:=vs++Array.replicate (38-vs.size) undef,defers:=[] } w:=by
  refine ⟨hR.congr fun s x hx=>?_,fun j hj=>?_,by simp;omega,rfl⟩
  · obtain ⟨t,ht,_⟩:=init_some hx
    have hs:s<vs.size:=by
     rw [hsz]
     rcases Nat.lt_or_ge s args.length with h' | h'
     · exact h'
     · rw [List.getElem?_eq_none h'] at ht;cases ht
    simp only [vlA,Array.getD_eq_getD_getElem?]
    rw [Array.getElem?_append_left hs]
  · unfold init
    rw [List.getElem?_eq_none (by omega)]
    rfl
 have hm2:K.fresh=K.fresh→∀ b,¬(cx0 fm w A M hA).M b:=fun _=>hM (by unfold kindOf;rw [if_pos hno])
 have hrs:okRs Tryz.prog [.t 6,.t 7] Tryz.f77.results.toList=true:=by kernel_rfl
 have hret:∀ (e:Env) (a:Act) (w':World),actR args r .ret e→Rel (cx0 fm w A M hA) 38 e a w'→bodyPostM Fence.wide 9 Tryz.prog Tryz.f77 (Back fm args args r w vs A M hA) .ret a w':=fun e a w' hp hr =>
  leave_ok hrs (by omega) hno hr (x:=.ret) (fun _=>rfl) hp
 simp only [wp] at hw
 refine pre_in (cx:=cx0 fm w A M hA) (n:=9) (A:=actA) hP hG (fun _ h=>h) (by decide) hm2 okA hw hrel (fun e1 a1 w1 hw1 hr1=>?_) hret (fun _ _ h=>h)
 refine pre_in (cx:=cx0 fm w A M hA) (n:=9) (A:=actB) hP hG (fun _ h=>h) (by decide) hm2 okB hw1 hr1 (fun e2 a2 w2 hw2 hr2=>?_) hret (fun _ _ h=>h)
 refine pre_in (cx:=cx0 fm w A M hA) (n:=9) (A:=actC) hP hG (fun _ h=>h) (by decide) hm2 okC' hw2 hr2 (fun e3 a3 w3 hw3 hr3=>?_) hret (fun _ _ h=>h)
 refine wpIn_seq ?_
 refine pre_in (cx:=cx0 fm w A M hA) (n:=9) (A:=actD) hP hG (fun _ h=>h) (by decide) hm2 okD hw3 hr3 (fun e4 a4 w4 hw4 hr4=>?_) (fun e a w' h1 h2=>hret e a w' h1 h2) (fun _ _ h=>h)
 obtain ⟨B5,o5,Bs,os,x0,n,sv,tab,zs,hat,hx0,hz,hzn,rfl⟩:=act_at hr4 hw4
 obtain ⟨B3,o3,bF,oF,capF,hv3,hB3,hbF,hc3,hrows⟩:=hat.box
 have hsz4:=hr4.size
 have hdf4:=hr4.defers
 have hv5:=hat.e5
 have hv26:=hat.e26
 rw [h55] at hv26
 obtain ⟨tm,df⟩:=a4
 have hv3':tm.getD 3 undef=.pointer (some ⟨B3,o3,none⟩):=hv3
 have hv5':tm.getD 5 undef=.pointer (some ⟨B5,o5,none⟩):=hv5
 have hv26':tm.getD 26 undef=.func (.func 236) #[] #[.pointer (some ⟨Bs,os,none⟩)]:=hv26
 have ht:=lit38 tm hsz4
 rw [hv3',hv5',hv26'] at ht
 generalize tm.getD 0 undef=v0 at ht
 generalize tm.getD 1 undef=v1 at ht
 generalize tm.getD 2 undef=v2 at ht
 generalize tm.getD 4 undef=v4 at ht
 generalize tm.getD 6 undef=v6 at ht
 generalize tm.getD 7 undef=v7 at ht
 generalize tm.getD 8 undef=v8 at ht
 generalize tm.getD 9 undef=v9 at ht
 generalize tm.getD 10 undef=v10 at ht
 generalize tm.getD 11 undef=v11 at ht
 generalize tm.getD 12 undef=v12 at ht
 generalize tm.getD 13 undef=v13 at ht
 generalize tm.getD 14 undef=v14 at ht
 generalize tm.getD 15 undef=v15 at ht
 generalize tm.getD 16 undef=v16 at ht
 generalize tm.getD 17 undef=v17 at ht
 generalize tm.getD 18 undef=v18 at ht
 generalize tm.getD 19 undef=v19 at ht
 generalize tm.getD 20 undef=v20 at ht
 generalize tm.getD 21 undef=v21 at ht
 generalize tm.getD 22 undef=v22 at ht
 generalize tm.getD 23 undef=v23 at ht
 generalize tm.getD 24 undef=v24 at ht
 generalize tm.getD 25 undef=v25 at ht
 generalize tm.getD 27 undef=v27 at ht
 generalize tm.getD 28 undef=v28 at ht
 generalize tm.getD 29 undef=v29 at ht
 generalize tm.getD 30 undef=v30 at ht
 generalize tm.getD 31 undef=v31 at ht
 generalize tm.getD 32 undef=v32 at ht
 generalize tm.getD 33 undef=v33 at ht
 generalize tm.getD 34 undef=v34 at ht
 generalize tm.getD 35 undef=v35 at ht
 generalize tm.getD 36 undef=v36 at ht
 generalize tm.getD 37 undef=v37 at ht
 replace hat:ActAt w4 w M (.pointer (some ⟨B3,o3,none⟩)) (.pointer (some ⟨B5,o5,none⟩)) (.func (.func 236) #[] #[.pointer (some ⟨Bs,os,none⟩)]) 236 B5 o5 Bs os x0 n sv tab zs:=by
  have:=hat
  rw [hv3,hv5,hv26,h55] at this
  exact this
 clear hv3 hv5 hv26 hv3' hv5' hv26' hr4 hw4 hsz4
 subst ht
 replace hdf4:df=[]:=hdf4
 subst hdf4
 refine wpIn_block ?_
 refine wpIn_rangeFunc_ownF rfl (by omega) (gf:=236) (lb:=#[.pointer (some ⟨Bs,os,none⟩)]) rfl trivial (enters_of Tryz.func236 (by kernel_rfl) rfl)
  (back_stops hat (m:=8) (by omega) (α:=Int×Fin n) (fun x=>(x.1,((x.2.val:Nat):Int))) (fun j=>((zs.length:Int)-1-j,if h:zs[zs.length-1-j]?.getD 0<n then ⟨_,h⟩ else ⟨x0,hx0⟩)) ?nth hz)
  (fun h k b hb hb5=>(k b hb hb5).trans (h b hb hb5)) (fun W l o o' hl _ _ _ b hb _=>World.putObj_heap_other (by omega)) (Below.refl _ _) (fun _=>rfl)
  (fun pre W=>∃ y,y<n∧y=pre.foldl (fun x p=>tab p.2.val x) x0∧W.cell? ⟨B5,o5,none⟩=some (.int .i64 ((y:Nat):Int))∧W.frozen? ⟨B5,o5,none⟩=false∧W.os=w4.os∧W.tape=w4.tape∧W.output=w4.output∧w4.heap.size≤W.heap.size∧keepBut w4.heap.size B5 w4 W)
  (fun _ _ _=>False)
  (fun s A B row hs hg hr=>?own) (fun _ _ _ _ _ hs _ _=>hs) ⟨x0,hx0,rfl,hat.c5,hat.fz,rfl,rfl,rfl,Nat.le_refl _,fun _ _ _=>rfl⟩
  (fun x=>{ tmps:=#[v0,v1,v2,.pointer (some ⟨B3,o3,none⟩),v4,.pointer (some ⟨B5,o5,none⟩),v6,v7,v8,v9,.int .i64 ((x.2.val:Nat):Int),v11,v12,v13,v14,v15,v16,v17,v18,v19,v20,v21,v22,v23,v24,v25,.func (.func 236) #[] #[.pointer (some ⟨Bs,os,none⟩)],.int .i64 x.1,.int .i64 ((x.2.val:Nat):Int),v29,v30,v31,v32,v33,v34,v35,v36,v37],defers:=[] }) ?assign ?body ?done ?stop
 case nth =>
  intro j hj
  have hlt:zs.length-1-j<zs.length:=by omega
  have hm:zs[zs.length-1-j]<n:=hzn _ (List.getElem_mem hlt)
  simp [hlt,hm]
 case own =>
  obtain ⟨y,h1,h2,h3,h4,h5,h6,h7,h8,h9⟩:=hs
  refine ⟨y,h1,h2,cell_kept h3 hg (fun r e=>(hr r e).2),(frozen_kept h3 hg (fun r e=>(hr r e).2)).trans h4,hg.os.trans h5,hg.tape.trans h6,hg.output.trans h7,Nat.le_trans h8 hg.size,fun b hb hb5=>?_⟩
  rw [← h9 b hb hb5]
  exact hg.block b (by omega) (fun e=>by have:=(hr b e.symm).1;omega)
 case assign =>
  intro l x W K hK
  gi_wp2
  exact hK
 case body =>
  rintro l pre x W ⟨_,hy,rfl,hc5,hfz,hos,htape,hout,hsz,hkb⟩ _
  have hcell:∀ (b o:Nat) (v:Value),b≠B5→w4.cell? ⟨b,o,none⟩=some v→W.cell? ⟨b,o,none⟩=some v:=fun b o v hb hc=>by
   rw [World.cell?_of_block (a:=⟨b,o,none⟩) (hkb b (blk_lt hc) hb)]
   exact hc
  obtain ⟨bR,oR,capR,hbR,hcR,hrow⟩:=hrows x.2.val x.2.isLt
  obtain ⟨hty,hcy⟩:=hrow _ hy
  have g3:=hcell _ _ _ hB3 hc3
  have gR:=hcell _ _ _ hbF hcR
  have gy:=hcell _ _ _ hbR hcy
  have hxl:x.2.val<n:=x.2.isLt
  gi_wp2
  gi_region
  all_goals gi_wp2
  all_goals
   obtain ⟨q1,q2,q3,q4,q5⟩:=act_step (N:=w4.heap.size) (v:=.int .i64 ((tab x.2.val (pre.foldl (fun x p=>tab p.2.val x) x0):Nat):Int)) hc5 hfz
   exact ⟨q1,q2,_,hty,by rw [List.foldl_append];rfl,q3,q4,hos,htape,hout,by rw [q5];exact hsz,fun b hb hb5=>(q2 b hb hb5).trans (hkb b hb hb5)⟩
 case done =>
  rintro D xs W hD rfl ⟨_,hy,rfl,hc5,hfz,hos,htape,hout,hsz,hkb⟩ hK
  rw [bk_fold tab hx0 hzn] at hc5
  gi_wp2
  refine ⟨by simp,.inl ⟨_,_,rfl,run_takeDeferred hK,?_⟩⟩
  refine ⟨.tuple #[.int .i64 ((zs.foldr (fun l x=>tab l x) x0:Nat):Int),.int .i64 0],by simp [results,Tryz.f77,go_sem],leave_act (w':=W.putObj D (.deferred none)) hno ⟨hos.trans hat.keeps.os,htape.trans hat.keeps.tape,hout.trans hat.keeps.output,?_,fun b hb hM'=>?_⟩⟩
  · have:=hat.keeps.size
    simp
    omega
  · have hs:=hat.keeps.size
    have hb5:b≠B5:=fun e=>by
     rcases hat.free with h | h
     · omega
     · exact hM' (by rw [e];exact h)
    rw [World.putObj_heap_other (by omega),hkb b (by omega) hb5]
    exact hat.keeps.block b hb hM'
 case stop =>
  rintro D c pre W _ _ h _
  exact h.elim
end
theorem okA:okC Tryz.prog fm 38 actA (seqL (Tryz.f77.body.getD .skip))=true:=by kernel_rfl
theorem okB:okC Tryz.prog fm 38 actB (seqL (seqR (Tryz.f77.body.getD .skip)))=true:=by kernel_rfl
theorem okC':okC Tryz.prog fm 38 actC (seqL (seqR (seqR (Tryz.f77.body.getD .skip))))=true:=by kernel_rfl
theorem okD:okC Tryz.prog fm 38 actD (seqL (seqL (seqR (seqR (seqR (Tryz.f77.body.getD .skip))))))=true:=by kernel_rfl
theorem pact {f:Nat} {args args':List T} {r:T} (h:Go.Mch.Call pg f args args' r):Pact Tryz.prog fm f args args' r :=
 sound (pg:=pg) follows (fun _ _ _ _ h=>by obtain ⟨rfl,h⟩:=h;exact act_pact follows (fun _ _ _ _=>pact0) (by kernel_rfl) (by kernel_rfl) okA okB okC' okD h) prog_ok0 h
end Go.Proofs.YtkcgdmjdkbgmkaaGreat.Tie
