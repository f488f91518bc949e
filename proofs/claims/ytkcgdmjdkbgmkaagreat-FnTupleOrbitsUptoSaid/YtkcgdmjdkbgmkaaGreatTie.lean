/- The compact code of the functions is this seat's program's: what the machine calls good,the program does. -/
import Derived.Test.YtkcgdmjdkbgmkaaGreatRows
import Derived.KernelRfl
import Derived.Test.YtkcgdmjdkbgmkaaGreatM4
import Derived.Test.YtkcgdmjdkbgmkaaGreatYeA
import Derived.Test.YtkcgdmjdkbgmkaaGreatYeB
import Derived.Test.YtkcgdmjdkbgmkaaGreatYeC
import Derived.Test.YtkcgdmjdkbgmkaaGreatYeD
import Derived.Test.YtkcgdmjdkbgmkaaGreatYeE
import Derived.Test.YtkcgdmjdkbgmkaaGreatYeG
import Derived.Test.YtkcgdmjdkbgmkaaGreatYeH
namespace Go.Proofs.YtkcgdmjdkbgmkaaGreat.Tie
open Go.Mch
def fmL:List Nat:=[0,0,0,0,0,0,0,0,0,0,0,0,0,0,0,0,0,0,0,0,0,0,0,0,0,0,39,0,262,113,118,190,0,60,106,96,107,0,0,164,0,112,95,121,109,0,220,209,282,189,145,146,147,0,214,0,186,187,188,102,180,181,266,176,213,215,123,192,232,211,234,0,0,0,0,0,0,0,0,0,0,0,0,0,0,0,0,0,5,0,0,0,0,0,0,0,0,0,0,0,0,0,0,0,0,0,0,0,0,0,0,0,0,0,0,0,0,0,0,0,0,0,0,0,42,41,0,0,10,0,0,0,0,0,0,0,0,0,0,22,23,24,0,0,0,0,0,0,43,0,0,0,0,0,0,0,0,0,0,0,0,0,0,0,0,0,0,0,0,0,207,44,0,0,0,35,36,37,38,40,0,0,0,0,0,0,0,0,0,0,0,0,0,0,0,0,0,0,0,0,0,0,0,0,0,0,0,0,0,0,0,0,0,0,0,0,0,0,0,0,0,0,0,0,0,0,0,0,0,0,0,0,0,55,0,0,0,0,0,0,0,0,0,0,0,0,0,0,0,0,0,0,0,0,0,0,0,0,0,0,119,120,116,117,0,0,0,88,0,80,0,0,0,0,0,0,0,0,0,240,115,0,0,0,0,103,122,194,0,0,0,0,93,0,0,0,0,0,0,0,0,0,263,260,224,124,125,126,127,128,0,105,108,110,111,114,0,0,0,0,0,0,0,0,205,0,0,0,0,0,0,0,0,0,226,0,138,0,261,0,0,0,0,0,0,0,0,0,0,0,0,0,0,0,137,0,0,0,0,0,0,0,0,0,0,0,0,156,157,0,0,0,0,0,0,0,178,179,0,0,0,0,0,193,254,0,0,0,0,195,196,197,198,183,184,185,191,0,225,0,0,206,0,0,0,0,231,0,253,0,0,0,208,0,0,0,0,0,0,0,0,0,265,283,0,291,0,0,0,0,0,255,256,242,243,244,245,246,247,248,249,250,251,252,259,264,0,0,0,272,273,274,275,276,277,279,280,281,284,285,286,287,0,0,0,292,293]
def fm (k:Nat):Nat:=fmL.getD k 0
theorem k88:(Tryz.prog.funcs[5]?).any (okF Tryz.prog fm c_laws_FnTupleOrbits)=true:=by kernel_rfl
theorem k128:(Tryz.prog.funcs[10]?).any (okF Tryz.prog fm c_laws_big)=true:=by kernel_rfl
theorem k139:(Tryz.prog.funcs[22]?).any (okF Tryz.prog fm c_laws_roll)=true:=by kernel_rfl
theorem k140:(Tryz.prog.funcs[23]?).any (okF Tryz.prog fm c___laws_dice__below)=true:=by kernel_rfl
theorem k141:(Tryz.prog.funcs[24]?).any (okF Tryz.prog fm c_laws_likeInts)=true:=by kernel_rfl
theorem k175:(Tryz.prog.funcs[35]?).any (okF Tryz.prog fm c_spec_DrawTupleOrbit)=true:=by kernel_rfl
theorem k176:(Tryz.prog.funcs[36]?).any (okF Tryz.prog fm j1y)=true:=by kernel_rfl
theorem k177:(Tryz.prog.funcs[37]?).any (okF Tryz.prog fm j1g)=true:=by kernel_rfl
theorem k178:(Tryz.prog.funcs[38]?).any (okF Tryz.prog fm c_laws_same9)=true:=by kernel_rfl
theorem k26:(Tryz.prog.funcs[39]?).any (okF Tryz.prog fm c_impl_TupleMove)=true:=by kernel_rfl
theorem k179:(Tryz.prog.funcs[40]?).any (okF Tryz.prog fm j1c)=true:=by kernel_rfl
theorem k125:(Tryz.prog.funcs[41]?).any (okF Tryz.prog fm c_impl_CountTupleOrbits)=true:=by kernel_rfl
theorem k124:(Tryz.prog.funcs[42]?).any (okF Tryz.prog fm c_spec_CountTupleOrbits)=true:=by kernel_rfl
theorem k148:(Tryz.prog.funcs[43]?).any (okF Tryz.prog fm j1s)=true:=by kernel_rfl
theorem k171:(Tryz.prog.funcs[44]?).any (okF Tryz.prog fm c_impl_TwistedSolution)=true:=by kernel_rfl
theorem k233:(Tryz.prog.funcs[55]?).any (okF Tryz.prog fm j1r)=true:=by kernel_rfl
theorem k33:(Tryz.prog.funcs[60]?).any (okF Tryz.prog fm c_impl_IsRack)=true:=by kernel_rfl
theorem k269:(Tryz.prog.funcs[80]?).any (okF Tryz.prog fm c_spec_l01From)=true:=by kernel_rfl
theorem k267:(Tryz.prog.funcs[88]?).any (okF Tryz.prog fm c_impl_transposed)=true:=by kernel_rfl
theorem k292:(Tryz.prog.funcs[93]?).any (okF Tryz.prog fm c_spec_l01Pick)=true:=by kernel_rfl
theorem k42:(Tryz.prog.funcs[95]?).any (okF Tryz.prog fm c_impl_IsSolution)=true:=by kernel_rfl
theorem k35:(Tryz.prog.funcs[96]?).any (okF Tryz.prog fm c_impl_within)=true:=by kernel_rfl
theorem k59:(Tryz.prog.funcs[102]?).any (okF Tryz.prog fm c_impl_IsPairMap)=true:=by kernel_rfl
theorem k285:(Tryz.prog.funcs[103]?).any (okF Tryz.prog fm c_impl_isNondegenerate)=true:=by kernel_rfl
theorem k311:(Tryz.prog.funcs[105]?).any (okF Tryz.prog fm j1t)=true:=by kernel_rfl
theorem k34:(Tryz.prog.funcs[106]?).any (okF Tryz.prog fm c_impl_isTuple)=true:=by kernel_rfl
theorem k36:(Tryz.prog.funcs[107]?).any (okF Tryz.prog fm j1n)=true:=by kernel_rfl
theorem k312:(Tryz.prog.funcs[108]?).any (okF Tryz.prog fm c_impl_digitsText)=true:=by kernel_rfl
theorem k44:(Tryz.prog.funcs[109]?).any (okF Tryz.prog fm c_impl_moved)=true:=by kernel_rfl
theorem k313:(Tryz.prog.funcs[110]?).any (okF Tryz.prog fm j02)=true:=by kernel_rfl
theorem k314:(Tryz.prog.funcs[111]?).any (okF Tryz.prog fm j1h)=true:=by kernel_rfl
theorem k41:(Tryz.prog.funcs[112]?).any (okF Tryz.prog fm c_spec_l02Is)=true:=by kernel_rfl
theorem k29:(Tryz.prog.funcs[113]?).any (okF Tryz.prog fm c_spec_l06Tuple)=true:=by kernel_rfl
theorem k315:(Tryz.prog.funcs[114]?).any (okF Tryz.prog fm c_spec_l06Reach)=true:=by kernel_rfl
theorem k280:(Tryz.prog.funcs[115]?).any (okF Tryz.prog fm c_spec_l01Own2)=true:=by kernel_rfl
theorem k262:(Tryz.prog.funcs[116]?).any (okF Tryz.prog fm c_impl_tupleOf)=true:=by kernel_rfl
theorem k263:(Tryz.prog.funcs[117]?).any (okF Tryz.prog fm c_impl_numberOf)=true:=by kernel_rfl
theorem k30:(Tryz.prog.funcs[118]?).any (okF Tryz.prog fm c_spec_l01In)=true:=by kernel_rfl
theorem k260:(Tryz.prog.funcs[119]?).any (okF Tryz.prog fm c_spec_l06Digits)=true:=by kernel_rfl
theorem k261:(Tryz.prog.funcs[120]?).any (okF Tryz.prog fm c_spec_l06Number)=true:=by kernel_rfl
theorem k43:(Tryz.prog.funcs[121]?).any (okF Tryz.prog fm c_spec_l06Move)=true:=by kernel_rfl
theorem k286:(Tryz.prog.funcs[122]?).any (okF Tryz.prog fm c_impl_derivedRack)=true:=by kernel_rfl
theorem k66:(Tryz.prog.funcs[123]?).any (okF Tryz.prog fm c_impl_isPermuted)=true:=by kernel_rfl
theorem k305:(Tryz.prog.funcs[124]?).any (okF Tryz.prog fm c_impl_equalTables)=true:=by kernel_rfl
theorem k306:(Tryz.prog.funcs[125]?).any (okF Tryz.prog fm c_impl_renamed)=true:=by kernel_rfl
theorem k307:(Tryz.prog.funcs[126]?).any (okF Tryz.prog fm c_impl_inverse)=true:=by kernel_rfl
theorem k308:(Tryz.prog.funcs[127]?).any (okF Tryz.prog fm c_impl_solutionBy)=true:=by kernel_rfl
theorem k309:(Tryz.prog.funcs[128]?).any (okF Tryz.prog fm c_impl_TwistedSolution_1)=true:=by kernel_rfl
theorem k354:(Tryz.prog.funcs[137]?).any (okF Tryz.prog fm c_spec_l06Draw)=true:=by kernel_rfl
theorem k336:(Tryz.prog.funcs[138]?).any (okF Tryz.prog fm c_spec_l01Next)=true:=by kernel_rfl
theorem k50:(Tryz.prog.funcs[145]?).any (okF Tryz.prog fm c_impl_IsTable)=true:=by kernel_rfl
theorem k51:(Tryz.prog.funcs[146]?).any (okF Tryz.prog fm c_impl_permutationRows)=true:=by kernel_rfl
theorem k52:(Tryz.prog.funcs[147]?).any (okF Tryz.prog fm c_impl_rackFault)=true:=by kernel_rfl
theorem k367:(Tryz.prog.funcs[156]?).any (okF Tryz.prog fm c_spec_l01Rename)=true:=by kernel_rfl
theorem k368:(Tryz.prog.funcs[157]?).any (okF Tryz.prog fm c_spec_l01Draw)=true:=by kernel_rfl
theorem k39:(Tryz.prog.funcs[164]?).any (okF Tryz.prog fm c_impl_areElements)=true:=by kernel_rfl
theorem k63:(Tryz.prog.funcs[176]?).any (okF Tryz.prog fm j03)=true:=by kernel_rfl
theorem k376:(Tryz.prog.funcs[178]?).any (okF Tryz.prog fm c_impl_tableBy)=true:=by kernel_rfl
theorem k377:(Tryz.prog.funcs[179]?).any (okF Tryz.prog fm c_impl_transposed_1)=true:=by kernel_rfl
theorem k60:(Tryz.prog.funcs[180]?).any (okF Tryz.prog fm c_impl_collisionOf)=true:=by kernel_rfl
theorem k61:(Tryz.prog.funcs[181]?).any (okF Tryz.prog fm c_impl_equationFault)=true:=by kernel_rfl
theorem k393:(Tryz.prog.funcs[183]?).any (okF Tryz.prog fm j1a)=true:=by kernel_rfl
theorem k394:(Tryz.prog.funcs[184]?).any (okF Tryz.prog fm c_math_bits_Len)=true:=by kernel_rfl
theorem k395:(Tryz.prog.funcs[185]?).any (okF Tryz.prog fm c_cmp_Compare_int64_)=true:=by kernel_rfl
theorem k56:(Tryz.prog.funcs[186]?).any (okF Tryz.prog fm c_spec_l02Map)=true:=by kernel_rfl
theorem k57:(Tryz.prog.funcs[187]?).any (okF Tryz.prog fm c_spec_l02Collision)=true:=by kernel_rfl
theorem k58:(Tryz.prog.funcs[188]?).any (okF Tryz.prog fm c_spec_l02Fault)=true:=by kernel_rfl
theorem k49:(Tryz.prog.funcs[189]?).any (okF Tryz.prog fm c_spec_l04Elements)=true:=by kernel_rfl
theorem k31:(Tryz.prog.funcs[190]?).any (okF Tryz.prog fm c_spec_l01Own)=true:=by kernel_rfl
theorem k396:(Tryz.prog.funcs[191]?).any (okF Tryz.prog fm c_spec_l03Search)=true:=by kernel_rfl
theorem k67:(Tryz.prog.funcs[192]?).any (okF Tryz.prog fm c_spec_l01Same)=true:=by kernel_rfl
theorem k383:(Tryz.prog.funcs[193]?).any (okF Tryz.prog fm c_impl_derivedRack_1)=true:=by kernel_rfl
theorem k287:(Tryz.prog.funcs[194]?).any (okF Tryz.prog fm c_impl_indexIn)=true:=by kernel_rfl
theorem k389:(Tryz.prog.funcs[195]?).any (okF Tryz.prog fm c_impl_compareTables)=true:=by kernel_rfl
theorem k390:(Tryz.prog.funcs[196]?).any (okF Tryz.prog fm c_impl_renamed_1)=true:=by kernel_rfl
theorem k391:(Tryz.prog.funcs[197]?).any (okF Tryz.prog fm c_impl_solutionBy_1)=true:=by kernel_rfl
theorem k392:(Tryz.prog.funcs[198]?).any (okF Tryz.prog fm c_impl_solutionBy_2)=true:=by kernel_rfl
theorem k324:(Tryz.prog.funcs[205]?).any (okF Tryz.prog fm c_spec_l03Solution)=true:=by kernel_rfl
theorem k401:(Tryz.prog.funcs[206]?).any (okF Tryz.prog fm c_spec_l03Draw)=true:=by kernel_rfl
theorem k170:(Tryz.prog.funcs[207]?).any (okF Tryz.prog fm c_spec_TwistedSolution)=true:=by kernel_rfl
theorem k412:(Tryz.prog.funcs[208]?).any (okF Tryz.prog fm c_spec_l02Draw)=true:=by kernel_rfl
theorem k47:(Tryz.prog.funcs[209]?).any (okF Tryz.prog fm c_spec_l01Perm)=true:=by kernel_rfl
theorem k69:(Tryz.prog.funcs[211]?).any (okF Tryz.prog fm c_spec_l01Index)=true:=by kernel_rfl
theorem k64:(Tryz.prog.funcs[213]?).any (okF Tryz.prog fm c_impl_IsTable_1)=true:=by kernel_rfl
theorem k54:(Tryz.prog.funcs[214]?).any (okF Tryz.prog fm c_impl_allWithin)=true:=by kernel_rfl
theorem k65:(Tryz.prog.funcs[215]?).any (okF Tryz.prog fm c_impl_permutationRows_1)=true:=by kernel_rfl
theorem k46:(Tryz.prog.funcs[220]?).any (okF Tryz.prog fm c_spec_l01Table)=true:=by kernel_rfl
theorem k304:(Tryz.prog.funcs[224]?).any (okF Tryz.prog fm c_spec_l01Back)=true:=by kernel_rfl
theorem k398:(Tryz.prog.funcs[225]?).any (okF Tryz.prog fm c_spec_l02Empty)=true:=by kernel_rfl
theorem k334:(Tryz.prog.funcs[226]?).any (okF Tryz.prog fm c_spec_l01Unit)=true:=by kernel_rfl
theorem k406:(Tryz.prog.funcs[231]?).any (okF Tryz.prog fm c_spec_l02Inverse)=true:=by kernel_rfl
theorem k68:(Tryz.prog.funcs[232]?).any (okF Tryz.prog fm c_spec_l02Do)=true:=by kernel_rfl
theorem k70:(Tryz.prog.funcs[234]?).any (okF Tryz.prog fm j0u)=true:=by kernel_rfl
theorem k279:(Tryz.prog.funcs[240]?).any (okF Tryz.prog fm c_spec_l01Then)=true:=by kernel_rfl
theorem k433:(Tryz.prog.funcs[242]?).any (okF Tryz.prog fm j0z)=true:=by kernel_rfl
theorem k434:(Tryz.prog.funcs[243]?).any (okF Tryz.prog fm j08)=true:=by kernel_rfl
theorem k435:(Tryz.prog.funcs[244]?).any (okF Tryz.prog fm j0s)=true:=by kernel_rfl
theorem k436:(Tryz.prog.funcs[245]?).any (okF Tryz.prog fm j0v)=true:=by kernel_rfl
theorem k437:(Tryz.prog.funcs[246]?).any (okF Tryz.prog fm j00)=true:=by kernel_rfl
theorem k438:(Tryz.prog.funcs[247]?).any (okF Tryz.prog fm j0o)=true:=by kernel_rfl
theorem k439:(Tryz.prog.funcs[248]?).any (okF Tryz.prog fm c_slices_partitionEqualCmpFunc___int64_)=true:=by kernel_rfl
theorem k440:(Tryz.prog.funcs[249]?).any (okF Tryz.prog fm j06)=true:=by kernel_rfl
theorem k441:(Tryz.prog.funcs[250]?).any (okF Tryz.prog fm c_math_bits_Len32)=true:=by kernel_rfl
theorem k442:(Tryz.prog.funcs[251]?).any (okF Tryz.prog fm j1x)=true:=by kernel_rfl
theorem k443:(Tryz.prog.funcs[252]?).any (okF Tryz.prog fm c_cmp_isNaN_int64_)=true:=by kernel_rfl
theorem k408:(Tryz.prog.funcs[253]?).any (okF Tryz.prog fm c_spec_l01Less)=true:=by kernel_rfl
theorem k384:(Tryz.prog.funcs[254]?).any (okF Tryz.prog fm j1m)=true:=by kernel_rfl
theorem k431:(Tryz.prog.funcs[255]?).any (okF Tryz.prog fm j0l)=true:=by kernel_rfl
theorem k432:(Tryz.prog.funcs[256]?).any (okF Tryz.prog fm c_impl_compareTables_1)=true:=by kernel_rfl
theorem k444:(Tryz.prog.funcs[259]?).any (okF Tryz.prog fm j1u)=true:=by kernel_rfl
theorem k303:(Tryz.prog.funcs[260]?).any (okF Tryz.prog fm c_spec_l03Image)=true:=by kernel_rfl
theorem k338:(Tryz.prog.funcs[261]?).any (okF Tryz.prog fm c_spec_l03DrawPerm)=true:=by kernel_rfl
theorem k28:(Tryz.prog.funcs[262]?).any (okF Tryz.prog fm c_spec_l03Is)=true:=by kernel_rfl
theorem k302:(Tryz.prog.funcs[263]?).any (okF Tryz.prog fm c_spec_l01Same2)=true:=by kernel_rfl
theorem k445:(Tryz.prog.funcs[264]?).any (okF Tryz.prog fm c_spec_l02Any)=true:=by kernel_rfl
theorem k422:(Tryz.prog.funcs[265]?).any (okF Tryz.prog fm c_spec_l02Rename)=true:=by kernel_rfl
theorem k62:(Tryz.prog.funcs[266]?).any (okF Tryz.prog fm c_spec_l01Has)=true:=by kernel_rfl
theorem k449:(Tryz.prog.funcs[272]?).any (okF Tryz.prog fm c_spec_l02Flip)=true:=by kernel_rfl
theorem k450:(Tryz.prog.funcs[273]?).any (okF Tryz.prog fm j07)=true:=by kernel_rfl
theorem k451:(Tryz.prog.funcs[274]?).any (okF Tryz.prog fm c_slices_nextPowerOfTwo)=true:=by kernel_rfl
theorem k452:(Tryz.prog.funcs[275]?).any (okF Tryz.prog fm j1q)=true:=by kernel_rfl
theorem k453:(Tryz.prog.funcs[276]?).any (okF Tryz.prog fm j0x)=true:=by kernel_rfl
theorem k454:(Tryz.prog.funcs[277]?).any (okF Tryz.prog fm j1b)=true:=by kernel_rfl
theorem k455:(Tryz.prog.funcs[279]?).any (okF Tryz.prog fm c_spec_l03Alexander)=true:=by kernel_rfl
theorem k456:(Tryz.prog.funcs[280]?).any (okF Tryz.prog fm c_spec_l03Coprime)=true:=by kernel_rfl
theorem k457:(Tryz.prog.funcs[281]?).any (okF Tryz.prog fm c_spec_l01Perms)=true:=by kernel_rfl
theorem k48:(Tryz.prog.funcs[282]?).any (okF Tryz.prog fm c_spec_l03Fault)=true:=by kernel_rfl
theorem k423:(Tryz.prog.funcs[283]?).any (okF Tryz.prog fm c_spec_l02Polygon)=true:=by kernel_rfl
theorem k458:(Tryz.prog.funcs[284]?).any (okF Tryz.prog fm c_spec_l02Product)=true:=by kernel_rfl
theorem k459:(Tryz.prog.funcs[285]?).any (okF Tryz.prog fm j1w)=true:=by kernel_rfl
theorem k460:(Tryz.prog.funcs[286]?).any (okF Tryz.prog fm c_spec_l02Union)=true:=by kernel_rfl
theorem k461:(Tryz.prog.funcs[287]?).any (okF Tryz.prog fm c_spec_l02Involutive)=true:=by kernel_rfl
theorem k425:(Tryz.prog.funcs[291]?).any (okF Tryz.prog fm c_spec_l02Twist)=true:=by kernel_rfl
theorem k465:(Tryz.prog.funcs[292]?).any (okF Tryz.prog fm j0r)=true:=by kernel_rfl
theorem k466:(Tryz.prog.funcs[293]?).any (okF Tryz.prog fm c_spec_l01Grow)=true:=by kernel_rfl
def tab:List (Nat×F):=[(88,c_laws_FnTupleOrbits),(128,c_laws_big),(139,c_laws_roll),(140,c___laws_dice__below),(141,c_laws_likeInts),(175,c_spec_DrawTupleOrbit),(176,j1y),(177,j1g),(178,c_laws_same9),(26,c_impl_TupleMove),(179,j1c),(125,c_impl_CountTupleOrbits),(124,c_spec_CountTupleOrbits),(148,j1s),(171,c_impl_TwistedSolution),(233,j1r),(33,c_impl_IsRack),(269,c_spec_l01From),(267,c_impl_transposed),(292,c_spec_l01Pick),(42,c_impl_IsSolution),(35,c_impl_within),(59,c_impl_IsPairMap),(285,c_impl_isNondegenerate),(311,j1t),(34,c_impl_isTuple),(36,j1n),(312,c_impl_digitsText),(44,c_impl_moved),(313,j02),(314,j1h),(41,c_spec_l02Is),(29,c_spec_l06Tuple),(315,c_spec_l06Reach),(280,c_spec_l01Own2),(262,c_impl_tupleOf),(263,c_impl_numberOf),(30,c_spec_l01In),(260,c_spec_l06Digits),(261,c_spec_l06Number),(43,c_spec_l06Move),(286,c_impl_derivedRack),(66,c_impl_isPermuted),(305,c_impl_equalTables),(306,c_impl_renamed),(307,c_impl_inverse),(308,c_impl_solutionBy),(309,c_impl_TwistedSolution_1),(354,c_spec_l06Draw),(336,c_spec_l01Next),(50,c_impl_IsTable),(51,c_impl_permutationRows),(52,c_impl_rackFault),(367,c_spec_l01Rename),(368,c_spec_l01Draw),(39,c_impl_areElements),(63,j03),(376,c_impl_tableBy),(377,c_impl_transposed_1),(60,c_impl_collisionOf),(61,c_impl_equationFault),(393,j1a),(394,c_math_bits_Len),(395,c_cmp_Compare_int64_),(56,c_spec_l02Map),(57,c_spec_l02Collision),(58,c_spec_l02Fault),(49,c_spec_l04Elements),(31,c_spec_l01Own),(396,c_spec_l03Search),(67,c_spec_l01Same),(383,c_impl_derivedRack_1),(287,c_impl_indexIn),(389,c_impl_compareTables),(390,c_impl_renamed_1),(391,c_impl_solutionBy_1),(392,c_impl_solutionBy_2),(324,c_spec_l03Solution),(401,c_spec_l03Draw),(170,c_spec_TwistedSolution),(412,c_spec_l02Draw),(47,c_spec_l01Perm),(69,c_spec_l01Index),(64,c_impl_IsTable_1),(54,c_impl_allWithin),(65,c_impl_permutationRows_1),(46,c_spec_l01Table),(304,c_spec_l01Back),(398,c_spec_l02Empty),(334,c_spec_l01Unit),(406,c_spec_l02Inverse),(68,c_spec_l02Do),(70,j0u),(279,c_spec_l01Then),(433,j0z),(434,j08),(435,j0s),(436,j0v),(437,j00),(438,j0o),(439,c_slices_partitionEqualCmpFunc___int64_),(440,j06),(441,c_math_bits_Len32),(442,j1x),(443,c_cmp_isNaN_int64_),(408,c_spec_l01Less),(384,j1m),(431,j0l),(432,c_impl_compareTables_1),(444,j1u),(303,c_spec_l03Image),(338,c_spec_l03DrawPerm),(28,c_spec_l03Is),(302,c_spec_l01Same2),(445,c_spec_l02Any),(422,c_spec_l02Rename),(62,c_spec_l01Has),(449,c_spec_l02Flip),(450,j07),(451,c_slices_nextPowerOfTwo),(452,j1q),(453,j0x),(454,j1b),(455,c_spec_l03Alexander),(456,c_spec_l03Coprime),(457,c_spec_l01Perms),(48,c_spec_l03Fault),(423,c_spec_l02Polygon),(458,c_spec_l02Product),(459,j1w),(460,c_spec_l02Union),(461,c_spec_l02Involutive),(425,c_spec_l02Twist),(465,j0r),(466,c_spec_l01Grow)]
def pg:Pg:={ fn:=fun f=>(tab.find? fun x=>x.1 == f).map (·.2) }
theorem all_ok:∀ x,x∈tab→(Tryz.prog.funcs[fm x.1]?).any (okF Tryz.prog fm x.2)=true:=by
 intro x hx
 unfold tab at hx
 simp only [List.mem_cons,List.not_mem_nil,or_false] at hx
 rcases hx with rfl | rfl | rfl | rfl | rfl | rfl | rfl | rfl | rfl | rfl | rfl | rfl | rfl | rfl | rfl | rfl | rfl | rfl | rfl | rfl | rfl | rfl | rfl | rfl | rfl | rfl | rfl | rfl | rfl | rfl | rfl | rfl | rfl | rfl | rfl | rfl | rfl | rfl | rfl | rfl | rfl | rfl | rfl | rfl | rfl | rfl | rfl | rfl | rfl | rfl | rfl | rfl | rfl | rfl | rfl | rfl | rfl | rfl | rfl | rfl | rfl | rfl | rfl | rfl | rfl | rfl | rfl | rfl | rfl | rfl | rfl | rfl | rfl | rfl | rfl | rfl | rfl | rfl | rfl | rfl | rfl | rfl | rfl | rfl | rfl | rfl | rfl | rfl | rfl | rfl | rfl | rfl | rfl | rfl | rfl | rfl | rfl | rfl | rfl | rfl | rfl | rfl | rfl | rfl | rfl | rfl | rfl | rfl | rfl | rfl | rfl | rfl | rfl | rfl | rfl | rfl | rfl | rfl | rfl | rfl | rfl | rfl | rfl | rfl | rfl | rfl | rfl | rfl | rfl | rfl | rfl | rfl | rfl | rfl | rfl
 · exact k88
 · exact k128
 · exact k139
 · exact k140
 · exact k141
 · exact k175
 · exact k176
 · exact k177
 · exact k178
 · exact k26
 · exact k179
 · exact k125
 · exact k124
 · exact k148
 · exact k171
 · exact k233
 · exact k33
 · exact k269
 · exact k267
 · exact k292
 · exact k42
 · exact k35
 · exact k59
 · exact k285
 · exact k311
 · exact k34
 · exact k36
 · exact k312
 · exact k44
 · exact k313
 · exact k314
 · exact k41
 · exact k29
 · exact k315
 · exact k280
 · exact k262
 · exact k263
 · exact k30
 · exact k260
 · exact k261
 · exact k43
 · exact k286
 · exact k66
 · exact k305
 · exact k306
 · exact k307
 · exact k308
 · exact k309
 · exact k354
 · exact k336
 · exact k50
 · exact k51
 · exact k52
 · exact k367
 · exact k368
 · exact k39
 · exact k63
 · exact k376
 · exact k377
 · exact k60
 · exact k61
 · exact k393
 · exact k394
 · exact k395
 · exact k56
 · exact k57
 · exact k58
 · exact k49
 · exact k31
 · exact k396
 · exact k67
 · exact k383
 · exact k287
 · exact k389
 · exact k390
 · exact k391
 · exact k392
 · exact k324
 · exact k401
 · exact k170
 · exact k412
 · exact k47
 · exact k69
 · exact k64
 · exact k54
 · exact k65
 · exact k46
 · exact k304
 · exact k398
 · exact k334
 · exact k406
 · exact k68
 · exact k70
 · exact k279
 · exact k433
 · exact k434
 · exact k435
 · exact k436
 · exact k437
 · exact k438
 · exact k439
 · exact k440
 · exact k441
 · exact k442
 · exact k443
 · exact k408
 · exact k384
 · exact k431
 · exact k432
 · exact k444
 · exact k303
 · exact k338
 · exact k28
 · exact k302
 · exact k445
 · exact k422
 · exact k62
 · exact k449
 · exact k450
 · exact k451
 · exact k452
 · exact k453
 · exact k454
 · exact k455
 · exact k456
 · exact k457
 · exact k48
 · exact k423
 · exact k458
 · exact k459
 · exact k460
 · exact k461
 · exact k425
 · exact k465
 · exact k466
theorem follows:Tryz.prog.follows .mixedOrders=true:=by kernel_rfl
theorem prog_ok:∀ f F,pg.fn f=some F→∃ fn,Tryz.prog.funcs[fm f]?=some fn∧okF Tryz.prog fm F fn=true:=by
 intro f F h
 simp only [pg,Option.map_eq_some_iff] at h
 obtain ⟨x,h1,rfl⟩:=h
 have hm:=List.mem_of_find?_eq_some h1
 have he:=List.find?_some h1
 simp only [beq_iff_eq] at he
 have:=all_ok x hm
 rw [he] at this
 rw [Option.any_eq_true] at this
 exact this
theorem pact {f:Nat} {args args':List T} {r:T} (h:Go.Mch.Call pg f args args' r):Pact Tryz.prog fm f args args' r :=
 sound follows (fun _ _ _ _ h=>False.elim h) prog_ok h
end Go.Proofs.YtkcgdmjdkbgmkaaGreat.Tie
