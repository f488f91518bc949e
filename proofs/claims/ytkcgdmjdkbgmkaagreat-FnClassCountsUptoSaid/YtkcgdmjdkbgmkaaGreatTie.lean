/- The compact code of the functions is this seat's program's: what the machine calls good,the program does. -/
import Derived.Test.YtkcgdmjdkbgmkaaGreatRows
import Derived.KernelRfl
import Derived.Test.YtkcgdmjdkbgmkaaGreatM4
import Derived.Test.YtkcgdmjdkbgmkaaGreatYeA
import Derived.Test.YtkcgdmjdkbgmkaaGreatYeB
import Derived.Test.YtkcgdmjdkbgmkaaGreatYeC
import Derived.Test.YtkcgdmjdkbgmkaaGreatYeD
import Derived.Test.YtkcgdmjdkbgmkaaGreatYeE
import Derived.Test.YtkcgdmjdkbgmkaaGreatYeG
namespace Go.Proofs.YtkcgdmjdkbgmkaaGreat.Tie
open Go.Mch
def fmL:List Nat:=[0,0,0,0,0,0,0,0,0,0,0,0,0,0,0,0,0,0,0,0,33,0,0,0,0,0,0,0,0,0,118,190,0,0,0,96,107,0,100,164,0,112,95,0,109,0,220,209,0,0,145,146,0,0,214,0,186,187,188,102,180,181,266,176,213,215,123,192,232,211,234,0,0,0,0,0,0,0,0,0,4,0,0,0,0,0,0,0,0,0,0,0,0,0,0,0,0,0,0,0,0,0,0,0,0,0,0,0,0,0,0,0,0,0,0,0,0,0,0,0,0,0,0,0,0,0,0,0,10,0,0,0,0,0,0,0,0,20,0,0,0,24,0,0,0,0,0,0,0,0,0,0,0,0,26,27,28,29,30,31,32,34,0,0,0,0,0,0,0,0,0,0,0,0,0,0,0,0,0,0,0,0,0,0,0,0,0,0,0,0,0,0,0,0,0,0,0,0,0,0,0,0,0,0,0,0,0,0,0,0,0,0,0,0,0,0,0,0,0,0,0,0,0,0,0,0,0,0,0,0,0,0,0,0,0,0,0,0,0,0,0,0,0,0,0,0,0,0,0,0,0,0,0,0,0,0,0,0,0,0,0,0,116,117,0,174,0,88,79,80,0,0,0,0,0,89,0,0,0,240,115,0,0,0,0,103,0,0,0,0,0,0,93,94,97,98,99,101,104,0,0,0,0,0,224,0,0,0,0,0,0,0,108,110,111,0,0,0,0,0,0,0,0,0,0,0,0,0,0,0,0,0,0,0,226,0,138,0,0,163,0,0,0,0,0,0,0,0,0,233,172,271,182,0,0,0,0,0,0,0,0,0,0,152,153,0,155,156,157,0,0,0,0,0,0,210,178,179,168,169,0,0,0,0,0,0,0,0,0,0,0,0,0,183,184,185,0,0,225,0,0,0,0,0,0,0,231,0,253,0,221,241,208,216,0,0,0,222,223,0,0,0,265,283,270,291,0,237,238,0,0,0,0,242,243,244,245,246,247,248,249,250,251,252,0,264,0,0,0,272,273,274,275,276,277,0,0,0,284,285,286,287,0,0,0,292]
def fm (k:Nat):Nat:=fmL.getD k 0
theorem k80:(Tryz.prog.funcs[4]?).any (okF Tryz.prog fm c_laws_FnClassCounts)=true:=by kernel_rfl
theorem k128:(Tryz.prog.funcs[10]?).any (okF Tryz.prog fm c_laws_big)=true:=by kernel_rfl
theorem k137:(Tryz.prog.funcs[20]?).any (okF Tryz.prog fm c_laws_likeRows5)=true:=by kernel_rfl
theorem k141:(Tryz.prog.funcs[24]?).any (okF Tryz.prog fm c_laws_likeInts)=true:=by kernel_rfl
theorem k154:(Tryz.prog.funcs[26]?).any (okF Tryz.prog fm c_spec_DrawNormalWords)=true:=by kernel_rfl
theorem k155:(Tryz.prog.funcs[27]?).any (okF Tryz.prog fm c_impl_NormalWords)=true:=by kernel_rfl
theorem k156:(Tryz.prog.funcs[28]?).any (okF Tryz.prog fm c_spec_NormalWords)=true:=by kernel_rfl
theorem k157:(Tryz.prog.funcs[29]?).any (okF Tryz.prog fm c_impl_CountClasses)=true:=by kernel_rfl
theorem k158:(Tryz.prog.funcs[30]?).any (okF Tryz.prog fm c_impl_ClassOfWord)=true:=by kernel_rfl
theorem k159:(Tryz.prog.funcs[31]?).any (okF Tryz.prog fm c_impl_IsNondegenerate)=true:=by kernel_rfl
theorem k160:(Tryz.prog.funcs[32]?).any (okF Tryz.prog fm c_impl_IsInvolutive)=true:=by kernel_rfl
theorem k20:(Tryz.prog.funcs[33]?).any (okF Tryz.prog fm c_impl_FixedPairs)=true:=by kernel_rfl
theorem k161:(Tryz.prog.funcs[34]?).any (okF Tryz.prog fm c_laws_choose5)=true:=by kernel_rfl
theorem k268:(Tryz.prog.funcs[79]?).any (okF Tryz.prog fm c_spec_l07Spoil)=true:=by kernel_rfl
theorem k269:(Tryz.prog.funcs[80]?).any (okF Tryz.prog fm c_spec_l01From)=true:=by kernel_rfl
theorem k267:(Tryz.prog.funcs[88]?).any (okF Tryz.prog fm c_impl_transposed)=true:=by kernel_rfl
theorem k275:(Tryz.prog.funcs[89]?).any (okF Tryz.prog fm c_impl_cloneTable)=true:=by kernel_rfl
theorem k292:(Tryz.prog.funcs[93]?).any (okF Tryz.prog fm c_spec_l01Pick)=true:=by kernel_rfl
theorem k293:(Tryz.prog.funcs[94]?).any (okF Tryz.prog fm c_spec_l01Count)=true:=by kernel_rfl
theorem k42:(Tryz.prog.funcs[95]?).any (okF Tryz.prog fm c_impl_IsSolution)=true:=by kernel_rfl
theorem k35:(Tryz.prog.funcs[96]?).any (okF Tryz.prog fm c_impl_within)=true:=by kernel_rfl
theorem k294:(Tryz.prog.funcs[97]?).any (okF Tryz.prog fm c_impl_normalWords)=true:=by kernel_rfl
theorem k295:(Tryz.prog.funcs[98]?).any (okF Tryz.prog fm c_spec_l09Many)=true:=by kernel_rfl
theorem k296:(Tryz.prog.funcs[99]?).any (okF Tryz.prog fm c_spec_l09Normals)=true:=by kernel_rfl
theorem k38:(Tryz.prog.funcs[100]?).any (okF Tryz.prog fm c_impl_checkWords)=true:=by kernel_rfl
theorem k297:(Tryz.prog.funcs[101]?).any (okF Tryz.prog fm c_impl_limitedClass)=true:=by kernel_rfl
theorem k59:(Tryz.prog.funcs[102]?).any (okF Tryz.prog fm c_impl_IsPairMap)=true:=by kernel_rfl
theorem k285:(Tryz.prog.funcs[103]?).any (okF Tryz.prog fm c_impl_isNondegenerate)=true:=by kernel_rfl
theorem k298:(Tryz.prog.funcs[104]?).any (okF Tryz.prog fm c_impl_isInvolutive)=true:=by kernel_rfl
theorem k36:(Tryz.prog.funcs[107]?).any (okF Tryz.prog fm j1i)=true:=by kernel_rfl
theorem k312:(Tryz.prog.funcs[108]?).any (okF Tryz.prog fm c_impl_digitsText)=true:=by kernel_rfl
theorem k44:(Tryz.prog.funcs[109]?).any (okF Tryz.prog fm c_impl_moved)=true:=by kernel_rfl
theorem k313:(Tryz.prog.funcs[110]?).any (okF Tryz.prog fm j01)=true:=by kernel_rfl
theorem k314:(Tryz.prog.funcs[111]?).any (okF Tryz.prog fm j1c)=true:=by kernel_rfl
theorem k41:(Tryz.prog.funcs[112]?).any (okF Tryz.prog fm c_spec_l02Is)=true:=by kernel_rfl
theorem k280:(Tryz.prog.funcs[115]?).any (okF Tryz.prog fm c_spec_l01Own2)=true:=by kernel_rfl
theorem k262:(Tryz.prog.funcs[116]?).any (okF Tryz.prog fm c_impl_tupleOf)=true:=by kernel_rfl
theorem k263:(Tryz.prog.funcs[117]?).any (okF Tryz.prog fm c_impl_numberOf)=true:=by kernel_rfl
theorem k30:(Tryz.prog.funcs[118]?).any (okF Tryz.prog fm c_spec_l01In)=true:=by kernel_rfl
theorem k66:(Tryz.prog.funcs[123]?).any (okF Tryz.prog fm c_impl_isPermuted)=true:=by kernel_rfl
theorem k336:(Tryz.prog.funcs[138]?).any (okF Tryz.prog fm c_spec_l01Next)=true:=by kernel_rfl
theorem k50:(Tryz.prog.funcs[145]?).any (okF Tryz.prog fm c_impl_IsTable)=true:=by kernel_rfl
theorem k51:(Tryz.prog.funcs[146]?).any (okF Tryz.prog fm c_impl_permutationRows)=true:=by kernel_rfl
theorem k363:(Tryz.prog.funcs[152]?).any (okF Tryz.prog fm c_spec_l05Is)=true:=by kernel_rfl
theorem k364:(Tryz.prog.funcs[153]?).any (okF Tryz.prog fm c_spec_l05Cycle)=true:=by kernel_rfl
theorem k366:(Tryz.prog.funcs[155]?).any (okF Tryz.prog fm c_spec_l05Solution)=true:=by kernel_rfl
theorem k367:(Tryz.prog.funcs[156]?).any (okF Tryz.prog fm c_spec_l01Rename)=true:=by kernel_rfl
theorem k368:(Tryz.prog.funcs[157]?).any (okF Tryz.prog fm c_spec_l01Draw)=true:=by kernel_rfl
theorem k339:(Tryz.prog.funcs[163]?).any (okF Tryz.prog fm c_spec_l09Class)=true:=by kernel_rfl
theorem k39:(Tryz.prog.funcs[164]?).any (okF Tryz.prog fm c_impl_areElements)=true:=by kernel_rfl
theorem k378:(Tryz.prog.funcs[168]?).any (okF Tryz.prog fm c_spec_l05Draw)=true:=by kernel_rfl
theorem k379:(Tryz.prog.funcs[169]?).any (okF Tryz.prog fm c_spec_l02Spoil)=true:=by kernel_rfl
theorem k350:(Tryz.prog.funcs[172]?).any (okF Tryz.prog fm c_spec_l02Good)=true:=by kernel_rfl
theorem k265:(Tryz.prog.funcs[174]?).any (okF Tryz.prog fm c_spec_l01Turn)=true:=by kernel_rfl
theorem k63:(Tryz.prog.funcs[176]?).any (okF Tryz.prog fm j03)=true:=by kernel_rfl
theorem k376:(Tryz.prog.funcs[178]?).any (okF Tryz.prog fm c_impl_tableBy)=true:=by kernel_rfl
theorem k377:(Tryz.prog.funcs[179]?).any (okF Tryz.prog fm c_impl_transposed_1)=true:=by kernel_rfl
theorem k60:(Tryz.prog.funcs[180]?).any (okF Tryz.prog fm c_impl_collisionOf)=true:=by kernel_rfl
theorem k61:(Tryz.prog.funcs[181]?).any (okF Tryz.prog fm c_impl_equationFault)=true:=by kernel_rfl
theorem k352:(Tryz.prog.funcs[182]?).any (okF Tryz.prog fm c_impl_wordClass)=true:=by kernel_rfl
theorem k393:(Tryz.prog.funcs[183]?).any (okF Tryz.prog fm j08)=true:=by kernel_rfl
theorem k394:(Tryz.prog.funcs[184]?).any (okF Tryz.prog fm c_math_bits_Len)=true:=by kernel_rfl
theorem k395:(Tryz.prog.funcs[185]?).any (okF Tryz.prog fm c_cmp_Compare_int64_)=true:=by kernel_rfl
theorem k56:(Tryz.prog.funcs[186]?).any (okF Tryz.prog fm c_spec_l02Map)=true:=by kernel_rfl
theorem k57:(Tryz.prog.funcs[187]?).any (okF Tryz.prog fm j1u)=true:=by kernel_rfl
theorem k58:(Tryz.prog.funcs[188]?).any (okF Tryz.prog fm c_spec_l02Fault)=true:=by kernel_rfl
theorem k31:(Tryz.prog.funcs[190]?).any (okF Tryz.prog fm c_spec_l01Own)=true:=by kernel_rfl
theorem k67:(Tryz.prog.funcs[192]?).any (okF Tryz.prog fm c_spec_l01Same)=true:=by kernel_rfl
theorem k412:(Tryz.prog.funcs[208]?).any (okF Tryz.prog fm c_spec_l02Draw)=true:=by kernel_rfl
theorem k47:(Tryz.prog.funcs[209]?).any (okF Tryz.prog fm c_spec_l01Perm)=true:=by kernel_rfl
theorem k375:(Tryz.prog.funcs[210]?).any (okF Tryz.prog fm c_spec_l01Column)=true:=by kernel_rfl
theorem k69:(Tryz.prog.funcs[211]?).any (okF Tryz.prog fm c_spec_l01Index)=true:=by kernel_rfl
theorem k64:(Tryz.prog.funcs[213]?).any (okF Tryz.prog fm c_impl_IsTable_1)=true:=by kernel_rfl
theorem k54:(Tryz.prog.funcs[214]?).any (okF Tryz.prog fm c_impl_allWithin)=true:=by kernel_rfl
theorem k65:(Tryz.prog.funcs[215]?).any (okF Tryz.prog fm j1w)=true:=by kernel_rfl
theorem k413:(Tryz.prog.funcs[216]?).any (okF Tryz.prog fm c_spec_l01Bad)=true:=by kernel_rfl
theorem k46:(Tryz.prog.funcs[220]?).any (okF Tryz.prog fm c_spec_l01Table)=true:=by kernel_rfl
theorem k410:(Tryz.prog.funcs[221]?).any (okF Tryz.prog fm c_spec_l01Rows)=true:=by kernel_rfl
theorem k417:(Tryz.prog.funcs[222]?).any (okF Tryz.prog fm c_spec_l05Squares)=true:=by kernel_rfl
theorem k418:(Tryz.prog.funcs[223]?).any (okF Tryz.prog fm c_spec_l05Fault)=true:=by kernel_rfl
theorem k304:(Tryz.prog.funcs[224]?).any (okF Tryz.prog fm c_spec_l01Back)=true:=by kernel_rfl
theorem k398:(Tryz.prog.funcs[225]?).any (okF Tryz.prog fm c_spec_l02Empty)=true:=by kernel_rfl
theorem k334:(Tryz.prog.funcs[226]?).any (okF Tryz.prog fm c_spec_l01Unit)=true:=by kernel_rfl
theorem k406:(Tryz.prog.funcs[231]?).any (okF Tryz.prog fm j1k)=true:=by kernel_rfl
theorem k68:(Tryz.prog.funcs[232]?).any (okF Tryz.prog fm c_spec_l02Do)=true:=by kernel_rfl
theorem k349:(Tryz.prog.funcs[233]?).any (okF Tryz.prog fm c_spec_l01Put)=true:=by kernel_rfl
theorem k70:(Tryz.prog.funcs[234]?).any (okF Tryz.prog fm j0s)=true:=by kernel_rfl
theorem k427:(Tryz.prog.funcs[237]?).any (okF Tryz.prog fm c_spec_l05Any)=true:=by kernel_rfl
theorem k428:(Tryz.prog.funcs[238]?).any (okF Tryz.prog fm c_spec_l01Tables)=true:=by kernel_rfl
theorem k279:(Tryz.prog.funcs[240]?).any (okF Tryz.prog fm c_spec_l01Then)=true:=by kernel_rfl
theorem k411:(Tryz.prog.funcs[241]?).any (okF Tryz.prog fm c_impl_InverseSolution)=true:=by kernel_rfl
theorem k433:(Tryz.prog.funcs[242]?).any (okF Tryz.prog fm j0y)=true:=by kernel_rfl
theorem k434:(Tryz.prog.funcs[243]?).any (okF Tryz.prog fm j07)=true:=by kernel_rfl
theorem k435:(Tryz.prog.funcs[244]?).any (okF Tryz.prog fm j0q)=true:=by kernel_rfl
theorem k436:(Tryz.prog.funcs[245]?).any (okF Tryz.prog fm j0u)=true:=by kernel_rfl
theorem k437:(Tryz.prog.funcs[246]?).any (okF Tryz.prog fm j0z)=true:=by kernel_rfl
theorem k438:(Tryz.prog.funcs[247]?).any (okF Tryz.prog fm j0m)=true:=by kernel_rfl
theorem k439:(Tryz.prog.funcs[248]?).any (okF Tryz.prog fm c_slices_partitionEqualCmpFunc___int64_)=true:=by kernel_rfl
theorem k440:(Tryz.prog.funcs[249]?).any (okF Tryz.prog fm j05)=true:=by kernel_rfl
theorem k441:(Tryz.prog.funcs[250]?).any (okF Tryz.prog fm c_math_bits_Len32)=true:=by kernel_rfl
theorem k442:(Tryz.prog.funcs[251]?).any (okF Tryz.prog fm j1p)=true:=by kernel_rfl
theorem k443:(Tryz.prog.funcs[252]?).any (okF Tryz.prog fm c_cmp_isNaN_int64_)=true:=by kernel_rfl
theorem k408:(Tryz.prog.funcs[253]?).any (okF Tryz.prog fm c_spec_l01Less)=true:=by kernel_rfl
theorem k445:(Tryz.prog.funcs[264]?).any (okF Tryz.prog fm c_spec_l02Any)=true:=by kernel_rfl
theorem k422:(Tryz.prog.funcs[265]?).any (okF Tryz.prog fm c_spec_l02Rename)=true:=by kernel_rfl
theorem k62:(Tryz.prog.funcs[266]?).any (okF Tryz.prog fm c_spec_l01Has)=true:=by kernel_rfl
theorem k424:(Tryz.prog.funcs[270]?).any (okF Tryz.prog fm c_spec_l05Affine)=true:=by kernel_rfl
theorem k351:(Tryz.prog.funcs[271]?).any (okF Tryz.prog fm c_spec_l02Twice)=true:=by kernel_rfl
theorem k449:(Tryz.prog.funcs[272]?).any (okF Tryz.prog fm c_spec_l02Flip)=true:=by kernel_rfl
theorem k450:(Tryz.prog.funcs[273]?).any (okF Tryz.prog fm j06)=true:=by kernel_rfl
theorem k451:(Tryz.prog.funcs[274]?).any (okF Tryz.prog fm c_slices_nextPowerOfTwo)=true:=by kernel_rfl
theorem k452:(Tryz.prog.funcs[275]?).any (okF Tryz.prog fm j1l)=true:=by kernel_rfl
theorem k453:(Tryz.prog.funcs[276]?).any (okF Tryz.prog fm j0w)=true:=by kernel_rfl
theorem k454:(Tryz.prog.funcs[277]?).any (okF Tryz.prog fm j09)=true:=by kernel_rfl
theorem k423:(Tryz.prog.funcs[283]?).any (okF Tryz.prog fm c_spec_l02Polygon)=true:=by kernel_rfl
theorem k458:(Tryz.prog.funcs[284]?).any (okF Tryz.prog fm c_spec_l02Product)=true:=by kernel_rfl
theorem k459:(Tryz.prog.funcs[285]?).any (okF Tryz.prog fm j1o)=true:=by kernel_rfl
theorem k460:(Tryz.prog.funcs[286]?).any (okF Tryz.prog fm c_spec_l02Union)=true:=by kernel_rfl
theorem k461:(Tryz.prog.funcs[287]?).any (okF Tryz.prog fm j1r)=true:=by kernel_rfl
theorem k425:(Tryz.prog.funcs[291]?).any (okF Tryz.prog fm c_spec_l02Twist)=true:=by kernel_rfl
theorem k465:(Tryz.prog.funcs[292]?).any (okF Tryz.prog fm j0p)=true:=by kernel_rfl
def tab:List (Nat×F):=[(80,c_laws_FnClassCounts),(128,c_laws_big),(137,c_laws_likeRows5),(141,c_laws_likeInts),(154,c_spec_DrawNormalWords),(155,c_impl_NormalWords),(156,c_spec_NormalWords),(157,c_impl_CountClasses),(158,c_impl_ClassOfWord),(159,c_impl_IsNondegenerate),(160,c_impl_IsInvolutive),(20,c_impl_FixedPairs),(161,c_laws_choose5),(268,c_spec_l07Spoil),(269,c_spec_l01From),(267,c_impl_transposed),(275,c_impl_cloneTable),(292,c_spec_l01Pick),(293,c_spec_l01Count),(42,c_impl_IsSolution),(35,c_impl_within),(294,c_impl_normalWords),(295,c_spec_l09Many),(296,c_spec_l09Normals),(38,c_impl_checkWords),(297,c_impl_limitedClass),(59,c_impl_IsPairMap),(285,c_impl_isNondegenerate),(298,c_impl_isInvolutive),(36,j1i),(312,c_impl_digitsText),(44,c_impl_moved),(313,j01),(314,j1c),(41,c_spec_l02Is),(280,c_spec_l01Own2),(262,c_impl_tupleOf),(263,c_impl_numberOf),(30,c_spec_l01In),(66,c_impl_isPermuted),(336,c_spec_l01Next),(50,c_impl_IsTable),(51,c_impl_permutationRows),(363,c_spec_l05Is),(364,c_spec_l05Cycle),(366,c_spec_l05Solution),(367,c_spec_l01Rename),(368,c_spec_l01Draw),(339,c_spec_l09Class),(39,c_impl_areElements),(378,c_spec_l05Draw),(379,c_spec_l02Spoil),(350,c_spec_l02Good),(265,c_spec_l01Turn),(63,j03),(376,c_impl_tableBy),(377,c_impl_transposed_1),(60,c_impl_collisionOf),(61,c_impl_equationFault),(352,c_impl_wordClass),(393,j08),(394,c_math_bits_Len),(395,c_cmp_Compare_int64_),(56,c_spec_l02Map),(57,j1u),(58,c_spec_l02Fault),(31,c_spec_l01Own),(67,c_spec_l01Same),(412,c_spec_l02Draw),(47,c_spec_l01Perm),(375,c_spec_l01Column),(69,c_spec_l01Index),(64,c_impl_IsTable_1),(54,c_impl_allWithin),(65,j1w),(413,c_spec_l01Bad),(46,c_spec_l01Table),(410,c_spec_l01Rows),(417,c_spec_l05Squares),(418,c_spec_l05Fault),(304,c_spec_l01Back),(398,c_spec_l02Empty),(334,c_spec_l01Unit),(406,j1k),(68,c_spec_l02Do),(349,c_spec_l01Put),(70,j0s),(427,c_spec_l05Any),(428,c_spec_l01Tables),(279,c_spec_l01Then),(411,c_impl_InverseSolution),(433,j0y),(434,j07),(435,j0q),(436,j0u),(437,j0z),(438,j0m),(439,c_slices_partitionEqualCmpFunc___int64_),(440,j05),(441,c_math_bits_Len32),(442,j1p),(443,c_cmp_isNaN_int64_),(408,c_spec_l01Less),(445,c_spec_l02Any),(422,c_spec_l02Rename),(62,c_spec_l01Has),(424,c_spec_l05Affine),(351,c_spec_l02Twice),(449,c_spec_l02Flip),(450,j06),(451,c_slices_nextPowerOfTwo),(452,j1l),(453,j0w),(454,j09),(423,c_spec_l02Polygon),(458,c_spec_l02Product),(459,j1o),(460,c_spec_l02Union),(461,j1r),(425,c_spec_l02Twist),(465,j0p)]
def pg:Pg:={ fn:=fun f=>(tab.find? fun x=>x.1 == f).map (·.2) }
theorem all_ok:∀ x,x∈tab→(Tryz.prog.funcs[fm x.1]?).any (okF Tryz.prog fm x.2)=true:=by
 intro x hx
 unfold tab at hx
 simp only [List.mem_cons,List.not_mem_nil,or_false] at hx
 rcases hx with rfl | rfl | rfl | rfl | rfl | rfl | rfl | rfl | rfl | rfl | rfl | rfl | rfl | rfl | rfl | rfl | rfl | rfl | rfl | rfl | rfl | rfl | rfl | rfl | rfl | rfl | rfl | rfl | rfl | rfl | rfl | rfl | rfl | rfl | rfl | rfl | rfl | rfl | rfl | rfl | rfl | rfl | rfl | rfl | rfl | rfl | rfl | rfl | rfl | rfl | rfl | rfl | rfl | rfl | rfl | rfl | rfl | rfl | rfl | rfl | rfl | rfl | rfl | rfl | rfl | rfl | rfl | rfl | rfl | rfl | rfl | rfl | rfl | rfl | rfl | rfl | rfl | rfl | rfl | rfl | rfl | rfl | rfl | rfl | rfl | rfl | rfl | rfl | rfl | rfl | rfl | rfl | rfl | rfl | rfl | rfl | rfl | rfl | rfl | rfl | rfl | rfl | rfl | rfl | rfl | rfl | rfl | rfl | rfl | rfl | rfl | rfl | rfl | rfl | rfl | rfl | rfl | rfl | rfl | rfl | rfl
 · exact k80
 · exact k128
 · exact k137
 · exact k141
 · exact k154
 · exact k155
 · exact k156
 · exact k157
 · exact k158
 · exact k159
 · exact k160
 · exact k20
 · exact k161
 · exact k268
 · exact k269
 · exact k267
 · exact k275
 · exact k292
 · exact k293
 · exact k42
 · exact k35
 · exact k294
 · exact k295
 · exact k296
 · exact k38
 · exact k297
 · exact k59
 · exact k285
 · exact k298
 · exact k36
 · exact k312
 · exact k44
 · exact k313
 · exact k314
 · exact k41
 · exact k280
 · exact k262
 · exact k263
 · exact k30
 · exact k66
 · exact k336
 · exact k50
 · exact k51
 · exact k363
 · exact k364
 · exact k366
 · exact k367
 · exact k368
 · exact k339
 · exact k39
 · exact k378
 · exact k379
 · exact k350
 · exact k265
 · exact k63
 · exact k376
 · exact k377
 · exact k60
 · exact k61
 · exact k352
 · exact k393
 · exact k394
 · exact k395
 · exact k56
 · exact k57
 · exact k58
 · exact k31
 · exact k67
 · exact k412
 · exact k47
 · exact k375
 · exact k69
 · exact k64
 · exact k54
 · exact k65
 · exact k413
 · exact k46
 · exact k410
 · exact k417
 · exact k418
 · exact k304
 · exact k398
 · exact k334
 · exact k406
 · exact k68
 · exact k349
 · exact k70
 · exact k427
 · exact k428
 · exact k279
 · exact k411
 · exact k433
 · exact k434
 · exact k435
 · exact k436
 · exact k437
 · exact k438
 · exact k439
 · exact k440
 · exact k441
 · exact k442
 · exact k443
 · exact k408
 · exact k445
 · exact k422
 · exact k62
 · exact k424
 · exact k351
 · exact k449
 · exact k450
 · exact k451
 · exact k452
 · exact k453
 · exact k454
 · exact k423
 · exact k458
 · exact k459
 · exact k460
 · exact k461
 · exact k425
 · exact k465
theorem follows:Tryz.prog.follows .mixedOrders=true:=by kernel_rfl
theorem prog_ok:∀ f F,pg.fn f=some F→∃ fn,Tryz.prog.funcs[fm f]?=some fn∧okF Tryz.prog fm F fn=true:=by
 intro f F h
 simp only [pg,Option.map_eq_some_iff] at h
 obtain ⟨x,h1,rfl⟩:=h
 have hm:=List.mem_of_find?_eq_some h1
 have he:=List.find?_some h1
 simp only [beq_iff_eq] at he
 have:=all_ok x hm
 rw [he] at this
 rw [Option.any_eq_true] at this
 exact this
theorem pact {f:Nat} {args args':List T} {r:T} (h:Go.Mch.Call pg f args args' r):Pact Tryz.prog fm f args args' r :=
 sound follows (fun _ _ _ _ h=>False.elim h) prog_ok h
end Go.Proofs.YtkcgdmjdkbgmkaaGreat.Tie
