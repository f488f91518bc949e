/- The compact code of the functions is this seat's program's: what the machine calls good,the program does. -/
import Derived.Test.YtmlknafdnccddaaGreatRows
import Derived.KernelRfl
import Derived.RangeFuncBox
import Derived.RangeFuncCalls
import Derived.RangeFuncLeaves
import Derived.RangeFuncFrom
import Derived.RangeFuncWrites
import Derived.Shelf.Abstract
import Derived.Shelf.RegionOpen
import Derived.WalkKit
import Derived.OwnWalkIn
import Derived.TacticsInMore
import Derived.LoopNIn
import Derived.LoopIn
import Derived.Test.YtmlknafdnccddaaGreatM4
import Derived.Test.YtmlknafdnccddaaGreatP3
import Derived.Test.YtmlknafdnccddaaGreatYeA
import Derived.Test.YtmlknafdnccddaaGreatYeB
import Derived.Test.YtmlknafdnccddaaGreatYeC
import Derived.Test.YtmlknafdnccddaaGreatYeD
import Derived.Test.YtmlknafdnccddaaGreatYeG
import Derived.Test.YtmlknafdnccddaaGreatYeI
namespace Go.Proofs.YtmlknafdnccddaaGreat.Tie
open Go.Mch
def fmL:List Nat:=[0,0,0,0,0,0,0,0,0,0,0,0,0,0,0,0,0,0,0,0,0,0,0,0,0,0,0,0,0,0,76,97,0,0,0,64,33,0,0,0,0,0,0,0,0,0,48,50,0,0,35,40,0,0,67,0,62,0,0,27,0,0,77,65,66,72,41,96,0,56,82,0,0,0,0,0,0,0,0,0,0,0,0,0,0,0,0,0,0,0,0,0,0,0,0,0,0,0,0,0,0,0,0,0,0,0,0,0,0,0,0,0,0,0,0,0,0,0,0,3,0,0,0,0,0,0,0,0,4,0,0,0,0,0,0,0,0,8,0,0,0,15,0,0,0,0,0,0,0,0,0,0,0,0,0,0,0,0,0,0,0,0,0,0,0,0,0,0,0,0,0,0,0,0,0,0,0,0,0,0,0,0,0,0,0,0,0,0,0,0,0,0,0,0,0,0,0,0,0,0,0,0,0,0,0,0,0,0,0,0,0,0,0,0,0,0,0,0,11,0,0,0,0,0,0,0,0,0,0,0,0,0,0,0,0,0,0,0,0,0,0,0,5,6,7,9,10,12,13,14,16,17,0,0,0,0,0,0,0,0,0,0,0,0,0,54,0,28,0,19,0,0,0,0,0,0,0,0,0,104,105,0,0,0,0,0,0,46,0,0,0,0,71,0,0,0,0,0,0,0,0,0,0,0,53,0,37,47,44,0,0,0,0,0,0,0,0,0,0,0,0,0,0,0,0,0,0,0,0,0,0,0,0,0,59,0,29,0,0,0,0,0,0,0,0,0,36,0,0,0,85,86,0,0,0,0,0,0,0,18,20,21,22,23,24,25,26,30,31,32,34,0,0,0,0,78,57,58,38,0,0,0,0,0,75,0,0,0,0,0,68,73,74,0,0,0,0,0,55,0,0,0,0,0,0,0,103,0,95,0,49,0,84,39,42,43,45,51,52,60,61,63,92,98,83,93,0,69,70,0,0,0,0,0,0,0,0,0,0,0,0,0,0,0,0,91,79,80,81,87,0,0,0,0,0,0,0,0,99,100,101,102,88,89,90,0,0,94]
def fm (k:Nat):Nat:=fmL.getD k 0
theorem k119:(Tryz.prog.funcs[3]?).any (okF Tryz.prog fm c_laws_FnDualCycles)=true:=by kernel_rfl
theorem k128:(Tryz.prog.funcs[4]?).any (okF Tryz.prog fm c_laws_big)=true:=by kernel_rfl
theorem k242:(Tryz.prog.funcs[5]?).any (okF Tryz.prog fm c_spec_DrawDualCycleSet)=true:=by kernel_rfl
theorem k243:(Tryz.prog.funcs[6]?).any (okF Tryz.prog fm c_impl_DualCycleSet)=true:=by kernel_rfl
theorem k244:(Tryz.prog.funcs[7]?).any (okF Tryz.prog fm c_spec_DualCycleSet)=true:=by kernel_rfl
theorem k137:(Tryz.prog.funcs[8]?).any (okF Tryz.prog fm c_laws_likeRows5)=true:=by kernel_rfl
theorem k245:(Tryz.prog.funcs[9]?).any (okF Tryz.prog fm c_impl_SolutionOfCycleSet)=true:=by kernel_rfl
theorem k246:(Tryz.prog.funcs[10]?).any (okF Tryz.prog fm c_impl_MirrorSolution)=true:=by kernel_rfl
theorem k218:(Tryz.prog.funcs[11]?).any (okF Tryz.prog fm c_laws_likeSolution5)=true:=by kernel_rfl
theorem k247:(Tryz.prog.funcs[12]?).any (okF Tryz.prog fm c_spec_DrawCycleIsomorphism)=true:=by kernel_rfl
theorem k249:(Tryz.prog.funcs[14]?).any (okF Tryz.prog fm c_spec_CycleIsomorphism)=true:=by kernel_rfl
theorem k141:(Tryz.prog.funcs[15]?).any (okF Tryz.prog fm c_laws_likeInts)=true:=by kernel_rfl
theorem k250:(Tryz.prog.funcs[16]?).any (okF Tryz.prog fm c_impl_RenameTable)=true:=by kernel_rfl
theorem k359:(Tryz.prog.funcs[18]?).any (okF Tryz.prog fm c_spec_l05Spoil)=true:=by kernel_rfl
theorem k269:(Tryz.prog.funcs[19]?).any (okF Tryz.prog fm c_spec_l01From)=true:=by kernel_rfl
theorem k360:(Tryz.prog.funcs[20]?).any (okF Tryz.prog fm c_impl_IsCycleSet)=true:=by kernel_rfl
theorem k361:(Tryz.prog.funcs[21]?).any (okF Tryz.prog fm c_impl_cycleSolution)=true:=by kernel_rfl
theorem k362:(Tryz.prog.funcs[22]?).any (okF Tryz.prog fm c_impl_solutionCycle)=true:=by kernel_rfl
theorem k363:(Tryz.prog.funcs[23]?).any (okF Tryz.prog fm c_spec_l05Is)=true:=by kernel_rfl
theorem k364:(Tryz.prog.funcs[24]?).any (okF Tryz.prog fm c_spec_l05Cycle)=true:=by kernel_rfl
theorem k365:(Tryz.prog.funcs[25]?).any (okF Tryz.prog fm c_spec_l05Mirror)=true:=by kernel_rfl
theorem k366:(Tryz.prog.funcs[26]?).any (okF Tryz.prog fm c_spec_l05Solution)=true:=by kernel_rfl
theorem k59:(Tryz.prog.funcs[27]?).any (okF Tryz.prog fm c_impl_IsPairMap)=true:=by kernel_rfl
theorem k267:(Tryz.prog.funcs[28]?).any (okF Tryz.prog fm c_impl_transposed)=true:=by kernel_rfl
theorem k336:(Tryz.prog.funcs[29]?).any (okF Tryz.prog fm c_spec_l01Next)=true:=by kernel_rfl
theorem k367:(Tryz.prog.funcs[30]?).any (okF Tryz.prog fm c_spec_l01Rename)=true:=by kernel_rfl
theorem k368:(Tryz.prog.funcs[31]?).any (okF Tryz.prog fm c_spec_l01Draw)=true:=by kernel_rfl
theorem k369:(Tryz.prog.funcs[32]?).any (okF Tryz.prog fm c_impl_isomorphisms)=true:=by kernel_rfl
theorem k36:(Tryz.prog.funcs[33]?).any (okF Tryz.prog fm c_slices_Clone___int64_int64_)=true:=by kernel_rfl
theorem k370:(Tryz.prog.funcs[34]?).any (okF Tryz.prog fm c_spec_SolutionIsomorphism)=true:=by kernel_rfl
theorem k50:(Tryz.prog.funcs[35]?).any (okF Tryz.prog fm c_impl_IsTable)=true:=by kernel_rfl
theorem k346:(Tryz.prog.funcs[36]?).any (okF Tryz.prog fm c_impl_IsPermutation)=true:=by kernel_rfl
theorem k306:(Tryz.prog.funcs[37]?).any (okF Tryz.prog fm c_impl_renamed)=true:=by kernel_rfl
theorem k378:(Tryz.prog.funcs[38]?).any (okF Tryz.prog fm c_spec_l05Draw)=true:=by kernel_rfl
theorem k413:(Tryz.prog.funcs[39]?).any (okF Tryz.prog fm c_spec_l01Bad)=true:=by kernel_rfl
theorem k51:(Tryz.prog.funcs[40]?).any (okF Tryz.prog fm c_impl_permutationRows)=true:=by kernel_rfl
theorem k66:(Tryz.prog.funcs[41]?).any (okF Tryz.prog fm c_impl_isPermuted)=true:=by kernel_rfl
theorem k414:(Tryz.prog.funcs[42]?).any (okF Tryz.prog fm c_impl_squaresOf)=true:=by kernel_rfl
theorem k415:(Tryz.prog.funcs[43]?).any (okF Tryz.prog fm c_impl_cycleFault)=true:=by kernel_rfl
theorem k308:(Tryz.prog.funcs[44]?).any (okF Tryz.prog fm c_impl_solutionBy)=true:=by kernel_rfl
theorem k416:(Tryz.prog.funcs[45]?).any (okF Tryz.prog fm c_impl_cycleSolution_1)=true:=by kernel_rfl
theorem k287:(Tryz.prog.funcs[46]?).any (okF Tryz.prog fm c_impl_indexIn)=true:=by kernel_rfl
theorem k307:(Tryz.prog.funcs[47]?).any (okF Tryz.prog fm c_impl_inverse)=true:=by kernel_rfl
theorem k46:(Tryz.prog.funcs[48]?).any (okF Tryz.prog fm c_spec_l01Table)=true:=by kernel_rfl
theorem k410:(Tryz.prog.funcs[49]?).any (okF Tryz.prog fm c_spec_l01Rows)=true:=by kernel_rfl
theorem k47:(Tryz.prog.funcs[50]?).any (okF Tryz.prog fm c_spec_l01Perm)=true:=by kernel_rfl
theorem k417:(Tryz.prog.funcs[51]?).any (okF Tryz.prog fm c_spec_l05Squares)=true:=by kernel_rfl
theorem k418:(Tryz.prog.funcs[52]?).any (okF Tryz.prog fm c_spec_l05Fault)=true:=by kernel_rfl
theorem k304:(Tryz.prog.funcs[53]?).any (okF Tryz.prog fm c_spec_l01Back)=true:=by kernel_rfl
theorem k265:(Tryz.prog.funcs[54]?).any (okF Tryz.prog fm c_spec_l01Turn)=true:=by kernel_rfl
theorem k398:(Tryz.prog.funcs[55]?).any (okF Tryz.prog fm c_spec_l02Empty)=true:=by kernel_rfl
theorem k69:(Tryz.prog.funcs[56]?).any (okF Tryz.prog fm c_spec_l01Index)=true:=by kernel_rfl
theorem k376:(Tryz.prog.funcs[57]?).any (okF Tryz.prog fm c_impl_tableBy)=true:=by kernel_rfl
theorem k377:(Tryz.prog.funcs[58]?).any (okF Tryz.prog fm c_impl_transposed_1)=true:=by kernel_rfl
theorem k334:(Tryz.prog.funcs[59]?).any (okF Tryz.prog fm c_spec_l01Unit)=true:=by kernel_rfl
theorem k56:(Tryz.prog.funcs[62]?).any (okF Tryz.prog fm c_spec_l02Map)=true:=by kernel_rfl
theorem k421:(Tryz.prog.funcs[63]?).any (okF Tryz.prog fm c_spec_l02Maps)=true:=by kernel_rfl
theorem k35:(Tryz.prog.funcs[64]?).any (okF Tryz.prog fm c_impl_within)=true:=by kernel_rfl
theorem k63:(Tryz.prog.funcs[65]?).any (okF Tryz.prog fm c_slices_ContainsFunc_____int64___int64_)=true:=by kernel_rfl
theorem k64:(Tryz.prog.funcs[66]?).any (okF Tryz.prog fm c_impl_IsTable_1)=true:=by kernel_rfl
theorem k54:(Tryz.prog.funcs[67]?).any (okF Tryz.prog fm c_impl_allWithin)=true:=by kernel_rfl
theorem k390:(Tryz.prog.funcs[68]?).any (okF Tryz.prog fm c_impl_renamed_1)=true:=by kernel_rfl
theorem k427:(Tryz.prog.funcs[69]?).any (okF Tryz.prog fm c_spec_l05Any)=true:=by kernel_rfl
theorem k428:(Tryz.prog.funcs[70]?).any (okF Tryz.prog fm c_spec_l01Tables)=true:=by kernel_rfl
theorem k292:(Tryz.prog.funcs[71]?).any (okF Tryz.prog fm c_spec_l01Pick)=true:=by kernel_rfl
theorem k65:(Tryz.prog.funcs[72]?).any (okF Tryz.prog fm c_impl_permutationRows_1)=true:=by kernel_rfl
theorem k391:(Tryz.prog.funcs[73]?).any (okF Tryz.prog fm c_impl_solutionBy_1)=true:=by kernel_rfl
theorem k392:(Tryz.prog.funcs[74]?).any (okF Tryz.prog fm c_impl_solutionBy_2)=true:=by kernel_rfl
theorem k384:(Tryz.prog.funcs[75]?).any (okF Tryz.prog fm c_slices_Index___int64_int64_)=true:=by kernel_rfl
theorem k30:(Tryz.prog.funcs[76]?).any (okF Tryz.prog fm c_spec_l01In)=true:=by kernel_rfl
theorem k62:(Tryz.prog.funcs[77]?).any (okF Tryz.prog fm c_spec_l01Has)=true:=by kernel_rfl
theorem k375:(Tryz.prog.funcs[78]?).any (okF Tryz.prog fm c_spec_l01Column)=true:=by kernel_rfl
theorem k446:(Tryz.prog.funcs[79]?).any (okF Tryz.prog fm c___impl_mapping__assign)=true:=by kernel_rfl
theorem k447:(Tryz.prog.funcs[80]?).any (okF Tryz.prog fm c___impl_mapping__undo)=true:=by kernel_rfl
theorem k448:(Tryz.prog.funcs[81]?).any (okF Tryz.prog fm c_spec_l03Maps)=true:=by kernel_rfl
theorem k70:(Tryz.prog.funcs[82]?).any (okF Tryz.prog fm c_slices_IndexFunc_____int64___int64_)=true:=by kernel_rfl
theorem k424:(Tryz.prog.funcs[83]?).any (okF Tryz.prog fm c_spec_l05Affine)=true:=by kernel_rfl
theorem k412:(Tryz.prog.funcs[84]?).any (okF Tryz.prog fm c_spec_l02Draw)=true:=by kernel_rfl
theorem k350:(Tryz.prog.funcs[85]?).any (okF Tryz.prog fm c_spec_l02Good)=true:=by kernel_rfl
theorem k351:(Tryz.prog.funcs[86]?).any (okF Tryz.prog fm c_spec_l02Twice)=true:=by kernel_rfl
theorem k449:(Tryz.prog.funcs[87]?).any (okF Tryz.prog fm c_spec_l02Flip)=true:=by kernel_rfl
theorem k462:(Tryz.prog.funcs[88]?).any (okF Tryz.prog fm c_spec_l03Fits)=true:=by kernel_rfl
theorem k463:(Tryz.prog.funcs[89]?).any (okF Tryz.prog fm c_spec_l03Refine)=true:=by kernel_rfl
theorem k464:(Tryz.prog.funcs[90]?).any (okF Tryz.prog fm c_spec_l03Seek)=true:=by kernel_rfl
theorem k445:(Tryz.prog.funcs[91]?).any (okF Tryz.prog fm c_spec_l02Any)=true:=by kernel_rfl
theorem k422:(Tryz.prog.funcs[92]?).any (okF Tryz.prog fm c_spec_l02Rename)=true:=by kernel_rfl
theorem k425:(Tryz.prog.funcs[93]?).any (okF Tryz.prog fm c_spec_l02Twist)=true:=by kernel_rfl
theorem k467:(Tryz.prog.funcs[94]?).any (okF Tryz.prog fm c_spec_l03Mark)=true:=by kernel_rfl
theorem k408:(Tryz.prog.funcs[95]?).any (okF Tryz.prog fm c_spec_l01Less)=true:=by kernel_rfl
theorem k67:(Tryz.prog.funcs[96]?).any (okF Tryz.prog fm c_spec_l01Same)=true:=by kernel_rfl
theorem k31:(Tryz.prog.funcs[97]?).any (okF Tryz.prog fm c_spec_l01Own)=true:=by kernel_rfl
theorem k423:(Tryz.prog.funcs[98]?).any (okF Tryz.prog fm c_spec_l02Polygon)=true:=by kernel_rfl
theorem k458:(Tryz.prog.funcs[99]?).any (okF Tryz.prog fm c_spec_l02Product)=true:=by kernel_rfl
theorem k459:(Tryz.prog.funcs[100]?).any (okF Tryz.prog fm c_spec_l02Twisted)=true:=by kernel_rfl
theorem k460:(Tryz.prog.funcs[101]?).any (okF Tryz.prog fm c_spec_l02Union)=true:=by kernel_rfl
theorem k461:(Tryz.prog.funcs[102]?).any (okF Tryz.prog fm c_spec_l02Involutive)=true:=by kernel_rfl
theorem k406:(Tryz.prog.funcs[103]?).any (okF Tryz.prog fm c_spec_l02Inverse)=true:=by kernel_rfl
theorem k279:(Tryz.prog.funcs[104]?).any (okF Tryz.prog fm c_spec_l01Then)=true:=by kernel_rfl
theorem k280:(Tryz.prog.funcs[105]?).any (okF Tryz.prog fm c_spec_l01Own2)=true:=by kernel_rfl
def tab:List (Nat×F):=[(119,c_laws_FnDualCycles),(128,c_laws_big),(242,c_spec_DrawDualCycleSet),(243,c_impl_DualCycleSet),(244,c_spec_DualCycleSet),(137,c_laws_likeRows5),(245,c_impl_SolutionOfCycleSet),(246,c_impl_MirrorSolution),(218,c_laws_likeSolution5),(247,c_spec_DrawCycleIsomorphism),(249,c_spec_CycleIsomorphism),(141,c_laws_likeInts),(250,c_impl_RenameTable),(359,c_spec_l05Spoil),(269,c_spec_l01From),(360,c_impl_IsCycleSet),(361,c_impl_cycleSolution),(362,c_impl_solutionCycle),(363,c_spec_l05Is),(364,c_spec_l05Cycle),(365,c_spec_l05Mirror),(366,c_spec_l05Solution),(59,c_impl_IsPairMap),(267,c_impl_transposed),(336,c_spec_l01Next),(367,c_spec_l01Rename),(368,c_spec_l01Draw),(369,c_impl_isomorphisms),(36,c_slices_Clone___int64_int64_),(370,c_spec_SolutionIsomorphism),(50,c_impl_IsTable),(346,c_impl_IsPermutation),(306,c_impl_renamed),(378,c_spec_l05Draw),(413,c_spec_l01Bad),(51,c_impl_permutationRows),(66,c_impl_isPermuted),(414,c_impl_squaresOf),(415,c_impl_cycleFault),(308,c_impl_solutionBy),(416,c_impl_cycleSolution_1),(287,c_impl_indexIn),(307,c_impl_inverse),(46,c_spec_l01Table),(410,c_spec_l01Rows),(47,c_spec_l01Perm),(417,c_spec_l05Squares),(418,c_spec_l05Fault),(304,c_spec_l01Back),(265,c_spec_l01Turn),(398,c_spec_l02Empty),(69,c_spec_l01Index),(376,c_impl_tableBy),(377,c_impl_transposed_1),(334,c_spec_l01Unit),(56,c_spec_l02Map),(421,c_spec_l02Maps),(35,c_impl_within),(63,c_slices_ContainsFunc_____int64___int64_),(64,c_impl_IsTable_1),(54,c_impl_allWithin),(390,c_impl_renamed_1),(427,c_spec_l05Any),(428,c_spec_l01Tables),(292,c_spec_l01Pick),(65,c_impl_permutationRows_1),(391,c_impl_solutionBy_1),(392,c_impl_solutionBy_2),(384,c_slices_Index___int64_int64_),(30,c_spec_l01In),(62,c_spec_l01Has),(375,c_spec_l01Column),(446,c___impl_mapping__assign),(447,c___impl_mapping__undo),(448,c_spec_l03Maps),(70,c_slices_IndexFunc_____int64___int64_),(424,c_spec_l05Affine),(412,c_spec_l02Draw),(350,c_spec_l02Good),(351,c_spec_l02Twice),(449,c_spec_l02Flip),(462,c_spec_l03Fits),(463,c_spec_l03Refine),(464,c_spec_l03Seek),(445,c_spec_l02Any),(422,c_spec_l02Rename),(425,c_spec_l02Twist),(467,c_spec_l03Mark),(408,c_spec_l01Less),(67,c_spec_l01Same),(31,c_spec_l01Own),(423,c_spec_l02Polygon),(458,c_spec_l02Product),(459,c_spec_l02Twisted),(460,c_spec_l02Union),(461,c_spec_l02Involutive),(406,c_spec_l02Inverse),(279,c_spec_l01Then),(280,c_spec_l01Own2)]
def pg0:Pg:={ fn:=fun f=>(tab.find? fun x=>x.1 == f).map (·.2) }
theorem all_ok:∀ x,x∈tab→(Tryz.prog.funcs[fm x.1]?).any (okF Tryz.prog fm x.2)=true:=by
 intro x hx
 unfold tab at hx
 simp only [List.mem_cons,List.not_mem_nil,or_false] at hx
 rcases hx with rfl | rfl | rfl | rfl | rfl | rfl | rfl | rfl | rfl | rfl | rfl | rfl | rfl | rfl | rfl | rfl | rfl | rfl | rfl | rfl | rfl | rfl | rfl | rfl | rfl | rfl | rfl | rfl | rfl | rfl | rfl | rfl | rfl | rfl | rfl | rfl | rfl | rfl | rfl | rfl | rfl | rfl | rfl | rfl | rfl | rfl | rfl | rfl | rfl | rfl | rfl | rfl | rfl | rfl | rfl | rfl | rfl | rfl | rfl | rfl | rfl | rfl | rfl | rfl | rfl | rfl | rfl | rfl | rfl | rfl | rfl | rfl | rfl | rfl | rfl | rfl | rfl | rfl | rfl | rfl | rfl | rfl | rfl | rfl | rfl | rfl | rfl | rfl | rfl | rfl | rfl | rfl | rfl | rfl | rfl | rfl | rfl | rfl | rfl
 · exact k119
 · exact k128
 · exact k242
 · exact k243
 · exact k244
 · exact k137
 · exact k245
 · exact k246
 · exact k218
 · exact k247
 · exact k249
 · exact k141
 · exact k250
 · exact k359
 · exact k269
 · exact k360
 · exact k361
 · exact k362
 · exact k363
 · exact k364
 · exact k365
 · exact k366
 · exact k59
 · exact k267
 · exact k336
 · exact k367
 · exact k368
 · exact k369
 · exact k36
 · exact k370
 · exact k50
 · exact k346
 · exact k306
 · exact k378
 · exact k413
 · exact k51
 · exact k66
 · exact k414
 · exact k415
 · exact k308
 · exact k416
 · exact k287
 · exact k307
 · exact k46
 · exact k410
 · exact k47
 · exact k417
 · exact k418
 · exact k304
 · exact k265
 · exact k398
 · exact k69
 · exact k376
 · exact k377
 · exact k334
 · exact k56
 · exact k421
 · exact k35
 · exact k63
 · exact k64
 · exact k54
 · exact k390
 · exact k427
 · exact k428
 · exact k292
 · exact k65
 · exact k391
 · exact k392
 · exact k384
 · exact k30
 · exact k62
 · exact k375
 · exact k446
 · exact k447
 · exact k448
 · exact k70
 · exact k424
 · exact k412
 · exact k350
 · exact k351
 · exact k449
 · exact k462
 · exact k463
 · exact k464
 · exact k445
 · exact k422
 · exact k425
 · exact k467
 · exact k408
 · exact k67
 · exact k31
 · exact k423
 · exact k458
 · exact k459
 · exact k460
 · exact k461
 · exact k406
 · exact k279
 · exact k280
theorem follows:Tryz.prog.follows .mixedOrders=true:=by kernel_rfl
theorem prog_ok0:∀ f F,pg0.fn f=some F→∃ fn,Tryz.prog.funcs[fm f]?=some fn∧okF Tryz.prog fm F fn=true:=by
 intro f F h
 simp only [pg0,Option.map_eq_some_iff] at h
 obtain ⟨x,h1,rfl⟩:=h
 have hm:=List.mem_of_find?_eq_some h1
 have he:=List.find?_some h1
 simp only [beq_iff_eq] at he
 have:=all_ok x hm
 rw [he] at this
 rw [Option.any_eq_true] at this
 exact this
theorem pact0 {f:Nat} {args args':List T} {r:T} (h:Go.Mch.Call pg0 f args args' r):Pact Tryz.prog fm f args args' r :=
 sound follows (fun _ _ _ _ h=>False.elim h) prog_ok0 h
def pg:Pg:={ fn:=pg0.fn,prim:=fun f args args' r=>(f=248∧isoP cycA cycB cycC 21 (Go.Mch.Call pg0) args args' r)∨(f=251∧isoP cycA solB solC 25 (Go.Mch.Call pg0) args args' r) }
theorem cyc_call:∀ args args' r,isoP cycA cycB cycC 21 (Go.Mch.Call pg0) args args' r→Go.Mch.Call pg 248 args args' r:=fun _ _ _ h _ hp _=>hp 248 _ _ _ (.inl ⟨rfl,h⟩)
theorem sol_call:∀ args args' r,isoP cycA solB solC 25 (Go.Mch.Call pg0) args args' r→Go.Mch.Call pg 251 args args' r:=fun _ _ _ h _ hp _=>hp 251 _ _ _ (.inr ⟨rfl,h⟩)
theorem y_clone:S_clone pg0:=t_clone (show pg0.fn 36=some _ from rfl)
theorem y_indexIn_384:S_indexIn pg0 384:=t_slicesIndex (show pg0.fn 384=some _ from rfl)
theorem y_asg:S_asg pg0:=t_asg (show pg0.fn 446=some _ from rfl)
theorem y_undo:S_undo pg0:=t_undo (show pg0.fn 447=some _ from rfl)
section
open Go.RowKit Go.Shelf
attribute [local go_sem] Oper.semAt_some

set_option maxRecDepth 100000 in
set_option maxHeartbeats 2000000 in
theorem ext_in {fm:Nat→Nat} {pg:Pg} {Z S:Nat→Prop} {W0:World} {pm:Value} {A C:List (List (List Int))} {n:Nat} {Jx:List Int→World→World→Prop}
 (h446:fm 446=79) (h447:fm 447=80) (h384:fm 384=75)
 (hpact:∀ f args args' r,Go.Mch.Call pg f args args' r→Pact Tryz.prog fm f args args' r) (hidx:S_indexIn pg 384) (hasg:S_asg pg) (hundo:S_undo pg)
 (hZ:∀ b,Z b→b<W0.heap.size) (hS:∀ b,S b→b<W0.heap.size) (hA:Tbs n A) (hC:Tbs n C) (hAC:A.length=C.length) (hn:n≤12) (hk:A.length≤4) (l:Nat)
 (hY:∀ (p:List Int) (W:World) (v:Value) (k:Nat),Kp S W0 W→p.length=n→rep fm (fun k b=>k=.old∧¬Z b) W v (ix p) →
  YieldAt Fence.wide k Tryz.prog l #[v] W fun e W'=>e=.returned (.bool false)∧Turned Z W W'∧Jx p W W') :
 ∀ (m:Nat) (M:Mp) (o:Option (List Int)) (w:World) (k:Nat),n-M.st.length=m→Kp S W0 w→HB fm Z S w pm (mpT A C M o)→MI n M→lso o=M.st→Cons A C M →
  CallsIn Fence.wide k Tryz.prog 61 #[pm,.func (.yield l) #[] #[]] w (ExtPost fm A C n Jx Z S pm M w):=by
 intro m
 induction m using Nat.strongRecOn with
 | ind m ih =>
 intro M o w k hm hkw hb hM ho hc
 have hfr:=first_free hM
 have hml:=hM.len
 obtain ⟨Bm,om,rfl,v2,v3,v4,c2,c3,c4,ok,hok,r2,r3,r4⟩:=mp_box hb
 obtain ⟨b2,o2,cap2,rfl,_,hc2⟩:=ints_cells r2
 obtain ⟨ad4,cap4,rfl⟩:=set_cells r4
 rw [hM.li] at c2 r2
 rw [ho] at c4 r4
 have hidx':=callsIn_wide (n:=k-1).2 (index_in hpact hidx (by rw [hM.li];omega) r2 (-1))
 rw [h384] at hidx'
 refine callsIn_of_wp Tryz.func61 rfl trivial ?_ rfl
 simp only [Tryz.ntmps61,List.size_toArray,List.length_cons,List.length_nil,Nat.reduceAdd,Nat.reduceSub,Array.replicate_succ,Array.replicate_zero,List.push_toArray,List.append_toArray,List.nil_append,List.cons_append]
 gi_wp2
 refine ⟨trivial,fun h=>(by cases h),hidx'.mono ?_⟩
 rintro e w1 ⟨rfl,hk1⟩
 clear hidx'
 have hkw1:Kp S w w1:=hk1.less fun _ _=>trivial
 have hb1:HB fm Z S w1 _ _:=hb.turn (w':=w1) (fun _ h=>.inl h) (fun _ h=>.inl h) (fun b hb _=>hk1.same b hb trivial)
 have hcell:∀ (a:Addr) (v:Value),w.cell? a=some v→w1.cell? a=some v:=fun a v h=>by
  rw [World.cell?_of_block (hk1.same _ (blk_lt h) trivial)];exact h
 replace c2:=hcell _ _ c2
 replace c4:=hcell _ _ c4
 rcases hfr with ⟨hix,hful⟩ | ⟨x,hx,hix,hx0,hxl⟩
 · rw [hix]
   obtain ⟨hF,him⟩:=Fst.full hA hC hM hc hful
   have hr2:rep fm (fun k b=>k=.old∧¬Z b) w1 (.slice (some ⟨b2,o2,none⟩) n cap2) (ix (lstN n fun x=>(gi M x).toNat)):=by
    have h1:=rep_ery (ok':=fun k b=>k=.old∧¬Z b) (fun _ _ _ h=>⟨rfl,hok _ _ h⟩) (ownL M.im) _ (.inr fun _ h=>⟨rfl,hok _ _ h⟩) r2
    have h2:=(frame (touch:=fun _=>False) (w':=w1) (fun b hb _=>hk1.same b hb trivial) (fun _ _ _ _ h=>h) _ _ h1 (fun _ h=>h.elim)).1
    unfold lstN
    rw [← him]
    simpa [T.ery] using h2
   obtain ⟨fn,tmps,assign,body,hy,hR⟩:=hY (lstN n fun x=>(gi M x).toNat) w1 _ (k-1) (hkw.trans hkw1) (by simp [lstN]) hr2
   clear him
   gi_wp2
   refine ⟨fun h=>(by cases h),hR.mono ?_⟩
   rintro e W' ⟨rfl,hT,hJ⟩
   gi_wp2
   go_ret
   refine .inr ⟨rfl,_,w1,W',hF,hkw1,hT,hJ,Kp.refl _ _,o,ho,?_⟩
   exact hb1.turn (fun b h=>h.imp id fun h=>h.1) (fun b h=>h.imp id fun h=>h.1) hT.2
 · rw [hix]
   gi_wp2
   gi_loopw [32] (fun i wr=>∃ (v:Nat) (o1:Option (List Int)),v≤n∧i=.int .i64 (v:Int)∧lso o1=M.st∧Kp S w wr∧HB fm Z S wr (.pointer (some ⟨Bm,om,none⟩)) (mpT A C M o1)∧∀ u,u<v→∀ q,Iso A C n q→Ext n q M→q x≠u)
    (fun i _=>(n-intOf i).toNat)
   case atStart=>exact ⟨0,o,Nat.zero_le _,rfl,ho,hkw1,hb1,fun u hu=>by omega⟩
   case round =>
    obtain ⟨v,o1,hv,rfl,ho1,hkr,hbr,hno⟩:=hrel
    by_cases hlt:v<n
    · obtain ⟨b3,o3,cap3,c3,hc3⟩:=mp_cells hM hbr
      replace hc3:=hc3 v hlt
      cases hu:gu M v with
      | true =>
       rw [hu] at hc3
       gi_wp2
       go_roundw
       case rel=>exact ⟨v+1,o1,by omega,by simp,ho1,hkr,hbr,fun u hu'=>by
        rcases Nat.lt_or_ge u v with h1 | h1
        · exact hno u h1
        · obtain rfl:u=v:=by omega
          exact no_used hM hx hlt hx0 hu⟩
       case measure=>simp [intOf];omega
      | false =>
       rw [hu] at hc3
       have hkr0:=hkw.trans hkr
       have hasg':=callsIn_wide (n:=k-1).2 (asg_in hpact (fun b hb=>Nat.lt_of_lt_of_le (hZ b hb) hkr0.size) (fun b hb=>Nat.lt_of_lt_of_le (hS b hb) hkr0.size) hasg hbr hA hC hAC hn hk hM ho1 hx hlt)
       rw [h446] at hasg'
       gi_wp2
       refine ⟨trivial,fun h=>(by cases h),hasg'.mono ?_⟩
       clear hasg'
       rintro e w2 ⟨M',o',b,rfl,hap,ho2,hb2,hk2⟩
       obtain ⟨lst,hl⟩:=hap.gr
       have hk20:=hkr0.trans hk2
       cases b with
       | false =>
        have hundo':=callsIn_wide (n:=k-1).2 (undo_in hpact (fun b hb=>Nat.lt_of_lt_of_le (hZ b hb) hk20.size) (fun b hb=>Nat.lt_of_lt_of_le (hS b hb) hk20.size) hundo hb2 hn hap.mi hM hl hap.old ho2)
        rw [h447] at hundo'
        gi_wp2
        refine ⟨trivial,fun h=>(by cases h),hundo'.mono ?_⟩
        clear hundo'
        rintro e w3 ⟨o4,rfl,ho4,hb4,hk4⟩
        gi_wp2
        go_roundw
        case rel=>exact ⟨v+1,o4,by omega,by simp,ho4,hkr.trans (hk2.trans hk4),hb4,fun u hu'=>by
         rcases Nat.lt_or_ge u v with h1 | h1
         · exact hno u h1
         · obtain rfl:u=v:=by omega
           exact no_fail hap⟩
        case measure=>simp [intOf];omega
       | true =>
        have hext:=ih (n-M'.st.length) (by have:=hap.longer hM hx0;have:=hap.mi.len;omega) M' o' w2 (k-1) rfl hk20 hb2 hap.mi ho2 (hc.asg hC hM hap)
        gi_wp2
        refine ⟨trivial,fun h=>(by cases h),hext.mono ?_⟩
        clear hext
        rintro e w3 (⟨rfl,hnone,hk3,o3,ho3,hb3⟩ | ⟨rfl,p,W1,W2,hF,hK1,hT,hJ,hK2,o3,ho3,hb3⟩)
        · have hk30:=hk20.trans hk3
          have hundo':=callsIn_wide (n:=k-1).2 (undo_in hpact (fun b hb=>Nat.lt_of_lt_of_le (hZ b hb) hk30.size) (fun b hb=>Nat.lt_of_lt_of_le (hS b hb) hk30.size) hundo hb3 hn hap.mi hM hl hap.old ho3)
          rw [h447] at hundo'
          gi_wp2
          refine ⟨trivial,fun h=>(by cases h),hundo'.mono ?_⟩
          clear hundo'
          rintro e w4 ⟨o4,rfl,ho4,hb4,hk4⟩
          gi_wp2
          go_roundw
          case rel=>exact ⟨v+1,o4,by omega,by simp,ho4,hkr.trans (hk2.trans (hk3.trans hk4)),hb4,fun u hu'=>by
           rcases Nat.lt_or_ge u v with h1 | h1
           · exact hno u h1
           · obtain rfl:u=v:=by omega
             exact no_ext hap hnone⟩
          case measure=>simp [intOf];omega
        · have hz:W0.heap.size≤w3.heap.size:=Nat.le_trans hk20.size (Nat.le_trans hK1.size (Nat.le_trans hT.1 hK2.size))
          have hundo':=callsIn_wide (n:=k-1).2 (undo_in hpact (SX_lt hZ hz hK2.size) (SX_lt hS hz hK2.size) hundo hb3 hn hap.mi hM hl hap.old ho3)
          rw [h447] at hundo'
          gi_wp2
          refine ⟨trivial,fun h=>(by cases h),hundo'.mono ?_⟩
          clear hundo'
          rintro e w4 ⟨o4,rfl,ho4,hb4,hk4⟩
          gi_wp2
          go_ret
          exact .inr ⟨rfl,p,W1,W2,hF.step hx hxl hap hno,hkr.trans (hk2.trans hK1),hT,hJ,hK2.trans hk4,o4,ho4,hb4⟩
    · obtain rfl:v=n:=by omega
      gi_wp2
      go_ret
      exact .inl ⟨rfl,fun q hq he=>hno (q x) (hq.lt x hx) q hq he rfl,hkr,o1,ho1,hbr⟩
end
section
open Go.RowKit Go.Shelf
attribute [local go_sem] Oper.semAt_some
theorem lit37 (t:Array Value) (h:t.size=37):t=#[t.getD 0 undef,t.getD 1 undef,t.getD 2 undef,t.getD 3 undef,t.getD 4 undef,t.getD 5 undef,t.getD 6 undef,t.getD 7 undef,t.getD 8 undef,t.getD 9 undef,t.getD 10 undef,t.getD 11 undef,t.getD 12 undef,t.getD 13 undef,t.getD 14 undef,t.getD 15 undef,t.getD 16 undef,t.getD 17 undef,t.getD 18 undef,t.getD 19 undef,t.getD 20 undef,t.getD 21 undef,t.getD 22 undef,t.getD 23 undef,t.getD 24 undef,t.getD 25 undef,t.getD 26 undef,t.getD 27 undef,t.getD 28 undef,t.getD 29 undef,t.getD 30 undef,t.getD 31 undef,t.getD 32 undef,t.getD 33 undef,t.getD 34 undef,t.getD 35 undef,t.getD 36 undef]:=by
 have h2:t=((List.range 37).map fun i=>t.getD i undef).toArray:=by
  refine Array.ext (by simp [h]) fun i hi _=>?_
  simp [Array.getD_eq_getD_getElem?,hi]
 exact h2

def seqL:Code→Code
 | .seq a _=>a
 | c=>c
def seqR:Code→Code
 | .seq _ b=>b
 | c=>c

set_option maxRecDepth 100000 in
set_option maxHeartbeats 2000000 in
theorem iso1_in {fm:Nat→Nat} {pg:Pg} {Z:Nat→Prop} {W:World} {p1 p2:Value} {A C:List (List (List Int))} {n n':Nat} {Jx:List Int→World→World→Prop}
 (h420:fm 420=61) (h446:fm 446=79) (h447:fm 447=80) (h384:fm 384=75) (hP:Tryz.prog.follows .mixedOrders=true)
 (hpact:∀ f args args' r,Go.Mch.Call pg f args args' r→Pact Tryz.prog fm f args args' r) (hidx:S_indexIn pg 384) (hasg:S_asg pg) (hundo:S_undo pg)
 (okA:okC Tryz.prog fm 37 isA (seqL (Tryz.f60.body.getD .skip))=true) (okB:okC Tryz.prog fm 37 isB (seqL (seqR (Tryz.f60.body.getD .skip)))=true) (okC':okC Tryz.prog fm 37 isC (seqL (seqR (seqR (Tryz.f60.body.getD .skip))))=true) (okD:okC Tryz.prog fm 37 isD (seqL (seqR (seqR (seqR (Tryz.f60.body.getD .skip)))))=true)
 (hZ:∀ b,Z b→b<W.heap.size) (hA:Tbs n A) (hC:Tbs n' C) (hAC:A.length=C.length) (hA0:0<A.length) (hn:n≤12) (hk:A.length≤4) (l k:Nat)
 (hp1:rep fm (fun k b=>k=.old∧¬Z b) W p1 (.mem .old none [tba A])) (hp2:rep fm (fun k b=>k=.old∧¬Z b) W p2 (.mem .old none [tba C]))
 (hY:∀ (p:List Int) (W1:World) (v:Value) (k:Nat),Kp (fun b=>b<W.heap.size) W W1→p.length=n→rep fm (fun k b=>k=.old∧¬Z b) W1 v (ix p) →
  YieldAt Fence.wide k Tryz.prog l #[v] W1 fun e W2=>e=.returned (.bool false)∧Turned Z W1 W2∧Jx p W1 W2) :
 CallsIn Fence.wide k Tryz.prog 60 #[.func (.yield l) #[] #[],p1,p2] W (IsoPost A C n n' Jx Z W):=by
 refine callsIn_of_wp Tryz.func60 rfl trivial ?_ rfl
 have hw:=iso1_wp (G:=Go.Mch.Call pg) hA hC hA0 (by omega) hn
 simp only [wp] at hw
 have hnt:Tryz.f60.ntmps=37:=by kernel_rfl
 rw [hnt]
 have hrel:Rel (cx0 fm W Z (fun _=>False) hZ) 37 (fr [(1,some (.val (.mem .old none [tba A]))),(2,some (.val (.mem .old none [tba C])))]) { tmps:=#[.func (.yield l) #[] #[],p1,p2]++Array.replicate (37-3) undef,defers:=[] } W:=iso1_rel hZ hp1 hp2
 generalize ha0:({ tmps:=#[.func (.yield l) #[] #[],p1,p2]++Array.replicate (37-3) undef,defers:=[] }:Act)=a0 at hrel
 have hy0:vlA a0 0=.func (.yield l) #[] #[]:=by rw [← ha0];simp [vlA]
 clear ha0
 have hret:∀ (e:Env) (a:Act) (w':World),isR A C n n' .ret e→Rel (cx0 fm W Z (fun _=>False) hZ) 37 e a w'→bodyPost Tryz.prog Tryz.f60 (IsoPost A C n n' Jx Z W) .ret a w':=fun e a w' hp hr=>by
  refine bodyPost_ret (results_none rfl _ _ _) hr.defers ?_
  exact ⟨⟨_,rfl⟩,.inl ⟨.inl hp,⟨hr.r.keeps.os,hr.r.keeps.tape,hr.r.keeps.output,hr.r.keeps.size,fun b hb _=>hr.r.keeps.block b hb (fun h=>h)⟩⟩⟩
 have hm2:K.fresh=K.fresh→∀ b,¬(cx0 fm W Z (fun _=>False) hZ).M b:=fun _ _ h=>h
 refine pre_fx (cx:=cx0 fm W Z (fun _=>False) hZ) (n:=k) (fx:=[0]) (A:=isA) hP hpact (fun _ h=>h) (by decide) hm2 okA rfl hw hrel (fun e1 a1 w1 hw1 hr1 f1=>?_) (fun e a w' h1 h2 _=>hret e a w' h1 h2) (fun _ _ h=>h)
 refine pre_fx (cx:=cx0 fm W Z (fun _=>False) hZ) (n:=k) (fx:=[0]) (A:=isB) hP hpact (fun _ h=>h) (by decide) hm2 okB rfl hw1 hr1 (fun e2 a2 w2 hw2 hr2 f2=>?_) (fun e a w' h1 h2 _=>hret e a w' h1 h2) (fun _ _ h=>h)
 refine pre_fx (cx:=cx0 fm W Z (fun _=>False) hZ) (n:=k) (fx:=[0]) (A:=isC) hP hpact (fun _ h=>h) (by decide) hm2 okC' rfl hw2 hr2 (fun e3 a3 w3 hw3 hr3 f3=>?_) (fun e a w' h1 h2 _=>hret e a w' h1 h2) (fun _ _ h=>h)
 refine pre_fx (cx:=cx0 fm W Z (fun _=>False) hZ) (n:=k) (fx:=[0]) (A:=isD) hP hpact (fun _ h=>h) (by decide) hm2 okD rfl hw3 hr3 (fun e4 a4 w4 hw4 hr4 f4=>?_) (fun e a w' h1 h2 _=>hret e a w' h1 h2) (fun _ _ h=>h)
 obtain ⟨rfl,h5⟩:=hw4
 have hy4:vlA a4 0=.func (.yield l) #[] #[]:=by rw [f4 0 (by simp),f3 0 (by simp),f2 0 (by simp),f1 0 (by simp),hy0]
 have hb4:HB fm Z (fun b=>b<W.heap.size) w4 (vlA a4 5) (mpT A C (mp0 n') none):=hb_of_rel hr4 h5 (noFr_mpT A C (mp0 n') none) (fun _ h=>h) (fun b h=>⟨h,fun h=>h⟩)
 have hk4:Kp (fun b=>b<W.heap.size) W w4:=⟨hr4.r.keeps.os,hr4.r.keeps.tape,hr4.r.keeps.output,hr4.r.keeps.size,fun b hb _=>hr4.r.keeps.block b hb (fun h=>h)⟩
 have hsz4:=hr4.size
 have hdf4:=hr4.defers
 have hext:=fun pm hb=>ext_in (Jx:=Jx) (Z:=Z) (S:=fun b=>b<W.heap.size) (W0:=W) (pm:=pm) h446 h447 h384 hpact hidx hasg hundo hZ (fun _ h=>h) hA hC hAC hn hk l hY _ (mp0 n') none w4 (k-1) rfl hk4 hb (mi_mp0 n') rfl (cons_mp0 A C n')
 obtain ⟨tm,df⟩:=a4
 replace hdf4:df=[]:=hdf4
 subst hdf4
 have hy4':tm.getD 0 undef=.func (.yield l) #[] #[]:=hy4
 have ht:=lit37 tm hsz4
 rw [hy4'] at ht
 replace hb4:HB fm Z (fun b=>b<W.heap.size) w4 (tm.getD 5 undef) (mpT A C (mp0 n') none):=hb4
 have hext:=hext _ hb4
 generalize tm.getD 5 undef=pm at ht hb4 hext
 obtain ⟨Bm,om,rfl,_⟩:=mp_box hb4
 generalize tm.getD 1 undef=v1 at ht
 generalize tm.getD 2 undef=v2 at ht
 generalize tm.getD 3 undef=v3 at ht
 generalize tm.getD 4 undef=v4 at ht
 generalize tm.getD 6 undef=v6 at ht
 generalize tm.getD 7 undef=v7 at ht
 generalize tm.getD 8 undef=v8 at ht
 generalize tm.getD 9 undef=v9 at ht
 generalize tm.getD 10 undef=v10 at ht
 generalize tm.getD 11 undef=v11 at ht
 generalize tm.getD 12 undef=v12 at ht
 generalize tm.getD 13 undef=v13 at ht
 generalize tm.getD 14 undef=v14 at ht
 generalize tm.getD 15 undef=v15 at ht
 generalize tm.getD 16 undef=v16 at ht
 generalize tm.getD 17 undef=v17 at ht
 generalize tm.getD 18 undef=v18 at ht
 generalize tm.getD 19 undef=v19 at ht
 generalize tm.getD 20 undef=v20 at ht
 generalize tm.getD 21 undef=v21 at ht
 generalize tm.getD 22 undef=v22 at ht
 generalize tm.getD 23 undef=v23 at ht
 generalize tm.getD 24 undef=v24 at ht
 generalize tm.getD 25 undef=v25 at ht
 generalize tm.getD 26 undef=v26 at ht
 generalize tm.getD 27 undef=v27 at ht
 generalize tm.getD 28 undef=v28 at ht
 generalize tm.getD 29 undef=v29 at ht
 generalize tm.getD 30 undef=v30 at ht
 generalize tm.getD 31 undef=v31 at ht
 generalize tm.getD 32 undef=v32 at ht
 generalize tm.getD 33 undef=v33 at ht
 generalize tm.getD 34 undef=v34 at ht
 generalize tm.getD 35 undef=v35 at ht
 generalize tm.getD 36 undef=v36 at ht
 subst ht
 gi_wp2
 refine ⟨trivial,fun h=>(by cases h),hext.mono ?_⟩
 rintro e w5 (⟨rfl,hnone,hk5,o5,ho5,hb5⟩ | ⟨rfl,p,W1,W2,hF,hK1,hT,hJ,hK2,o5,ho5,hb5⟩)
 · gi_wp2
   go_end0
   exact ⟨⟨_,rfl⟩,.inl ⟨.inr fun q hq=>hnone q hq (ext_mp0 n' q),hk4.trans hk5⟩⟩
 · gi_wp2
   go_end0
   exact ⟨⟨_,rfl⟩,.inr ⟨rfl,p,W1,W2,hF,hk4.trans hK1,hT,hJ,hK2⟩⟩
end
section
open Go.RowKit Go.Shelf
attribute [local go_sem] Oper.semAt_some
theorem lit25 (t:Array Value) (h:t.size=25):t=#[t.getD 0 undef,t.getD 1 undef,t.getD 2 undef,t.getD 3 undef,t.getD 4 undef,t.getD 5 undef,t.getD 6 undef,t.getD 7 undef,t.getD 8 undef,t.getD 9 undef,t.getD 10 undef,t.getD 11 undef,t.getD 12 undef,t.getD 13 undef,t.getD 14 undef,t.getD 15 undef,t.getD 16 undef,t.getD 17 undef,t.getD 18 undef,t.getD 19 undef,t.getD 20 undef,t.getD 21 undef,t.getD 22 undef,t.getD 23 undef,t.getD 24 undef]:=by
 have h2:t=((List.range 25).map fun i=>t.getD i undef).toArray:=by
  refine Array.ext (by simp [h]) fun i hi _=>?_
  simp [Array.getD_eq_getD_getElem?,hi]
 exact h2

set_option maxRecDepth 100000 in
set_option maxHeartbeats 4000000 in
theorem cyc_pact {fm:Nat→Nat} {pg:Pg} (hfm:fm 248=13) (h419:fm 419=60) (h36:fm 36=33)
 (hpact:∀ f args args' r,Go.Mch.Call pg f args args' r→Pact Tryz.prog fm f args args' r) (hclone:S_clone pg) (hP:Tryz.prog.follows .mixedOrders=true)
 (hiso:∀ {Z:Nat→Prop} {W:World} {p1 p2:Value} {A C:List (List (List Int))} {n n':Nat} {Jx:List Int→World→World→Prop},(∀ b,Z b→b<W.heap.size)→Tbs n A→Tbs n' C→A.length=C.length→0<A.length→n≤12→A.length≤4→∀ (l k:Nat),
  rep fm (fun k b=>k=.old∧¬Z b) W p1 (.mem .old none [tba A])→rep fm (fun k b=>k=.old∧¬Z b) W p2 (.mem .old none [tba C]) →
  (∀ (p:List Int) (W1:World) (v:Value) (k:Nat),Kp (fun b=>b<W.heap.size) W W1→p.length=n→rep fm (fun k b=>k=.old∧¬Z b) W1 v (ix p) →
   YieldAt Fence.wide k Tryz.prog l #[v] W1 fun e W2=>e=.returned (.bool false)∧Turned Z W1 W2∧Jx p W1 W2) →
  CallsIn Fence.wide k Tryz.prog 60 #[.func (.yield l) #[] #[],p1,p2] W (IsoPost A C n n' Jx Z W))
 (okA:okC Tryz.prog fm 25 cycA (seqL (Tryz.f13.body.getD .skip))=true) (okB:okC Tryz.prog fm 25 cycB (seqL (seqR (Tryz.f13.body.getD .skip)))=true) (okC':okC Tryz.prog fm 25 cycC (seqL (seqL (seqR (seqR (Tryz.f13.body.getD .skip)))))=true)
 {args args':List T} {r:T} (h:isoP cycA cycB cycC 21 (Go.Mch.Call pg) args args' r):Pact Tryz.prog fm 248 args args' r:=by
 obtain ⟨h2,hno,hargs,hw⟩:=h
 have hargs:=hargs.symm
 subst hargs
 refine ⟨⟨Tryz.f13,by rw [hfm];exact Tryz.func13,rfl,by kernel_rfl⟩,fun w vs A0 M hA0 hsz hM hR=>?_⟩
 rw [hfm]
 have hsz2:vs.size=2:=hsz.trans h2
 refine (callsIn_wide (n:=9)).1 ?_
 refine callsIn_of_wp_marks Tryz.func13 rfl trivial ?_ rfl
 have hnt:Tryz.f13.ntmps=25:=by kernel_rfl
 rw [hnt]
 have hrel:Rel (cx0 fm w A0 M hA0) 25 (init args) { tmps:=vs++Array.replicate (25-vs.size) undef,defers:=[] } w:=by
  refine ⟨hR.congr fun s x hx=>?_,fun j hj=>?_,by simp;omega,rfl⟩
  · obtain ⟨t,ht,_⟩:=init_some hx
    have hs:s<vs.size:=by
     rw [hsz]
     rcases Nat.lt_or_ge s args.length with h' | h'
     · exact h'
     · rw [List.getElem?_eq_none h'] at ht;cases ht
    simp only [vlA,Array.getD_eq_getD_getElem?]
    rw [Array.getElem?_append_left hs]
  · unfold init
    rw [List.getElem?_eq_none (by omega)]
    rfl
 have hm2:K.fresh=K.fresh→∀ b,¬(cx0 fm w A0 M hA0).M b:=fun _=>hM (by unfold kindOf;rw [if_pos hno])
 have hrs:okRs Tryz.prog [.cell 4 none,.cell 5 none] Tryz.f13.results.toList=true:=by kernel_rfl
 have hret:∀ (e:Env) (a:Act) (w':World),isoRX 21 args r .ret e→Rel (cx0 fm w A0 M hA0) 25 e a w'→bodyPostM Fence.wide 9 Tryz.prog Tryz.f13 (Back fm args args r w vs A0 M hA0) .ret a w':=fun e a w' hp hr =>
  leave_ok hrs (by omega) hno hr (x:=.ret) (fun _=>rfl) hp
 simp only [wp] at hw
 refine pre_in (cx:=cx0 fm w A0 M hA0) (n:=9) (A:=cycA) hP hpact (fun _ h=>h) (by decide) hm2 okA hw hrel (fun e1 a1 w1 hw1 hr1=>?_) hret (fun _ _ h=>h)
 refine pre_in (cx:=cx0 fm w A0 M hA0) (n:=9) (A:=cycB) hP hpact (fun _ h=>h) (by decide) hm2 okB hw1 hr1 (fun e2 a2 w2 hw2 hr2=>?_) hret (fun _ _ h=>h)
 refine wpIn_seq ?_
 refine pre_in (cx:=cx0 fm w A0 M hA0) (n:=9) (A:=cycC) hP hpact (fun _ h=>h) (by decide) hm2 okC' hw2 hr2 (fun e3 a3 w3 hw3 hr3=>?_) (fun e a w' h1 h2=>hret e a w' h1 h2) (fun _ _ h=>h)
 obtain ⟨A,C,n,n',p1,p2,B4,o4,B5,o5,hat,hA,hC,hAC,hA0',hk4,hn,hans⟩:=iso_at hr3 hw3
 have hsz3:=hr3.size
 have hdf3:=hr3.defers
 obtain ⟨tm,df⟩:=a3
 have hv4:tm.getD 4 undef=.pointer (some ⟨B4,o4,none⟩):=hat.e4
 have hv5:tm.getD 5 undef=.pointer (some ⟨B5,o5,none⟩):=hat.e5
 have hvc:tm.getD 21 undef=.func (.func 60) #[] #[p1,p2]:=by rw [← h419];exact hat.ec
 have ht:=lit25 tm hsz3
 rw [hv4,hv5,hvc] at ht
 generalize tm.getD 0 undef=v0 at ht
 generalize tm.getD 1 undef=v1 at ht
 generalize tm.getD 2 undef=v2 at ht
 generalize tm.getD 3 undef=v3 at ht
 generalize tm.getD 6 undef=v6 at ht
 generalize tm.getD 7 undef=v7 at ht
 generalize tm.getD 8 undef=v8 at ht
 generalize tm.getD 9 undef=v9 at ht
 generalize tm.getD 10 undef=v10 at ht
 generalize tm.getD 11 undef=v11 at ht
 generalize tm.getD 12 undef=v12 at ht
 generalize tm.getD 13 undef=v13 at ht
 generalize tm.getD 14 undef=v14 at ht
 generalize tm.getD 15 undef=v15 at ht
 generalize tm.getD 16 undef=v16 at ht
 generalize tm.getD 17 undef=v17 at ht
 generalize tm.getD 18 undef=v18 at ht
 generalize tm.getD 19 undef=v19 at ht
 generalize tm.getD 20 undef=v20 at ht
 generalize tm.getD 22 undef=v22 at ht
 generalize tm.getD 23 undef=v23 at ht
 generalize tm.getD 24 undef=v24 at ht
 have hkeeps:=hat.keeps
 have hne:=hat.ne
 have hf4:=hat.free4
 have hf5:=hat.free5
 have hc4:=hat.c4
 have hc5:=hat.c5
 have hz4:=hat.f4
 have hz5:=hat.f5
 have hr1':=hat.r1
 have hr2':=hat.r2
 clear hv4 hv5 hvc hat hr3 hw3 hsz3
 subst ht
 replace hdf3:df=[]:=hdf3
 subst hdf3
 have hB4:=blk_lt hc4
 have hB5:=blk_lt hc5
 simp only at hB4 hB5
 have hMk:∀ b,b<w.heap.size→¬M b→b≠B4∧b≠B5:=fun b hb hm=>⟨fun e=>by
  rcases hf4 with h | h
  · omega
  · exact hm (by rw [e];exact h),fun e=>by
  rcases hf5 with h | h
  · omega
  · exact hm (by rw [e];exact h)⟩
 refine wpIn_block ?_
 refine range_iso (fm:=fm) (A:=A) (C:=C) (n:=n) (n':=n') (B4:=B4) (o4:=o4) (B5:=B5) (o5:=o5) (gf:=60) (p1:=p1) (p2:=p2) rfl (enters_of Tryz.func60 (by kernel_rfl) rfl) rfl hc4 hc5 hr1' hr2'
  (fun l k W Z Jx hZ h1 h2 hY=>hiso hZ hA hC hAC hA0' hn hk4 l k h1 h2 hY) (a₁:=fun v=>{ tmps:=#[v0,v1,v2,v3,.pointer (some ⟨B4,o4,none⟩),.pointer (some ⟨B5,o5,none⟩),v,v7,v8,v9,v10,v11,v12,v13,v14,v15,v16,v17,v18,v19,v20,.func (.func 60) #[] #[p1,p2],v,v23,v24],defers:=[] }) ?assign ?body ?done ?stop
 case assign =>
  intro l k v W K hK
  gi_wp2
  exact hK
 case body =>
  intro l k v p W hpl hv hb4 hb5 hsW
  have c4:W.cell? ⟨B4,o4,none⟩=some (.slice none 0 0):=by rw [World.cell?_of_block hb4];exact hc4
  have c5:W.cell? ⟨B5,o5,none⟩=some (.int .i64 0):=by rw [World.cell?_of_block hb5];exact hc5
  have z4:W.frozen? ⟨B4,o4,none⟩=false:=by rw [World.frozen?_of_block hb4];exact hz4
  have z5:W.frozen? ⟨B5,o5,none⟩=false:=by rw [World.frozen?_of_block hb5];exact hz5
  have hcl:=CallsIn.inRound l (callsIn_wide (n:=k-1).2 (clone_in (P:=Tryz.prog) hpact hclone (by omega) hv))
  rw [h36] at hcl
  gi_wp2
  refine ⟨trivial,fun h=>(by cases h),hcl.mono ?_⟩
  rintro e W' ⟨v',rfl,hk',hct,hrv⟩
  obtain ⟨b',o',cap',rfl,_,_⟩:=ints_cells (k:=.own) hrv
  rw [hpl] at hct hrv
  have d4:W'.cell? ⟨B4,o4,none⟩=some (.slice none 0 0):=by rw [World.cell?_of_block (hk'.same B4 (by omega) trivial)];exact c4
  have d5:W'.cell? ⟨B5,o5,none⟩=some (.int .i64 0):=by rw [World.cell?_of_block (hk'.same B5 (by omega) trivial)];exact c5
  have y4:W'.frozen? ⟨B4,o4,none⟩=false:=by rw [World.frozen?_of_block (hk'.same B4 (by omega) trivial)];exact z4
  have y5:W'.frozen? ⟨B5,o5,none⟩=false:=by rw [World.frozen?_of_block (hk'.same B5 (by omega) trivial)];exact z5
  have e5:(W'.setCell ⟨B4,o4,none⟩ (.slice (some ⟨b',o',none⟩) n cap')).cell? ⟨B5,o5,none⟩=some (.int .i64 0):=by rw [World.cell?_of_block (Below.heap_setCell _ _ _ _ (Ne.symm hne))];exact d5
  have x5:(W'.setCell ⟨B4,o4,none⟩ (.slice (some ⟨b',o',none⟩) n cap')).frozen? ⟨B5,o5,none⟩=false:=by rw [World.frozen?_setCell];exact y5
  gi_wp2
  exact once_done hk' (by omega) (by omega) hne d4 d5 hct hrv
 case done =>
  intro W hno' hkW hD
  have c4:W.cell? ⟨B4,o4,none⟩=some (.slice none 0 0):=by rw [World.cell?_of_block (hkW.block _ (by omega) (fun h=>h))];exact hc4
  have c5:W.cell? ⟨B5,o5,none⟩=some (.int .i64 0):=by rw [World.cell?_of_block (hkW.block _ (by omega) (fun h=>h))];exact hc5
  have z4:W.frozen? ⟨B4,o4,none⟩=false:=by rw [World.frozen?_of_block (hkW.block _ (by omega) (fun h=>h))];exact hz4
  have z5:W.frozen? ⟨B5,o5,none⟩=false:=by rw [World.frozen?_of_block (hkW.block _ (by omega) (fun h=>h))];exact hz5
  have e5:(W.setCell ⟨B4,o4,none⟩ (.slice none 0 0)).cell? ⟨B5,o5,none⟩=some (.int .i64 0):=by rw [World.cell?_of_block (Below.heap_setCell _ _ _ _ (Ne.symm hne))];exact c5
  have x5:(W.setCell ⟨B4,o4,none⟩ (.slice none 0 0)).frozen? ⟨B5,o5,none⟩=false:=by rw [World.frozen?_setCell];exact z5
  have hs3:=hkeeps.size
  have hsW:=hkW.size
  have hob:∀ b,b≠B4→b≠B5→((W.setCell ⟨B4,o4,none⟩ (.slice none 0 0)).setCell ⟨B5,o5,none⟩ (.int .i64 4)).heap[b]?=W.heap[b]?:=fun b h1 h2=>by
   rw [Below.heap_setCell _ _ _ _ h2,Below.heap_setCell _ _ _ _ h1]
  have g4:((W.setCell ⟨B4,o4,none⟩ (.slice none 0 0)).setCell ⟨B5,o5,none⟩ (.int .i64 4)).cell? ⟨B4,o4,none⟩=some (.slice none 0 0):=by
   rw [World.cell?_of_block (Below.heap_setCell _ _ _ _ hne)]
   exact World.cell?_setCell_same' _ _ _ (by rw [c4];rfl)
  have g5:((W.setCell ⟨B4,o4,none⟩ (.slice none 0 0)).setCell ⟨B5,o5,none⟩ (.int .i64 4)).cell? ⟨B5,o5,none⟩=some (.int .i64 4):=World.cell?_setCell_same' _ _ _ (by rw [e5];rfl)
  have hDD:=(hob w3.heap.size (by omega) (by omega)).trans hD
  have hsz':((W.setCell ⟨B4,o4,none⟩ (.slice none 0 0)).setCell ⟨B5,o5,none⟩ (.int .i64 4)).heap.size=W.heap.size:=by simp [World.setCell]
  have hos:((W.setCell ⟨B4,o4,none⟩ (.slice none 0 0)).setCell ⟨B5,o5,none⟩ (.int .i64 4)).os=W.os∧((W.setCell ⟨B4,o4,none⟩ (.slice none 0 0)).setCell ⟨B5,o5,none⟩ (.int .i64 4)).tape=W.tape∧((W.setCell ⟨B4,o4,none⟩ (.slice none 0 0)).setCell ⟨B5,o5,none⟩ (.int .i64 4)).output=W.output:=⟨rfl,rfl,rfl⟩
  gi_wp2
  generalize (W.setCell ⟨B4,o4,none⟩ (.slice none 0 0)).setCell ⟨B5,o5,none⟩ (.int .i64 4)=W5 at g4 g5 hDD hsz' hos hob ⊢
  refine ⟨by simp,.inl ⟨_,_,rfl,run_takeDeferred hDD,?_⟩⟩
  have q4:(W5.putObj w3.heap.size (.deferred none)).cell? ⟨B4,o4,none⟩=some (.slice none 0 0):=by rw [World.cell?_of_block (World.putObj_heap_other (by simp only;omega))];exact g4
  have q5:(W5.putObj w3.heap.size (.deferred none)).cell? ⟨B5,o5,none⟩=some (.int .i64 4):=by rw [World.cell?_of_block (World.putObj_heap_other (by simp only;omega))];exact g5
  have hr:r=.tup [nil,I 4]:=by
   rcases hans with ⟨_,h⟩ | ⟨h1,p,hp,_⟩
   · exact h
   · rcases hno' with h | h
     · exact absurd h1 h
     · exact absurd hp.iso (h p)
  rw [hr]
  refine ⟨.tuple #[.slice none 0 0,.int .i64 4],?_,leave_res (w':=W5.putObj w3.heap.size (.deferred none)) hno ⟨hos.1.trans (hkW.os.trans hkeeps.os),hos.2.1.trans (hkW.tape.trans hkeeps.tape),hos.2.2.trans (hkW.output.trans hkeeps.output),by simp;omega,fun b hb hm=>?_⟩ rfl (fun b=>by simp [cnt]) ⟨rfl,rfl⟩⟩
  · simp [results,Tryz.f13,go_sem,q4,q5]
  · obtain ⟨z1,z2⟩:=hMk b hb hm
    rw [World.putObj_heap_other (by omega),hob b z1 z2,hkW.block b (by omega) (fun h=>h)]
    exact hkeeps.block b hb hm
 case stop =>
  intro W p hnn hF hkW hDn hD
  obtain ⟨v',d4,d5,hct,hrv⟩:=hDn.cells
  have hs3:=hkeeps.size
  have hsW:=hkW.size
  gi_wp2
  refine ⟨by simp,.inl ⟨_,_,rfl,run_takeDeferred hD,?_⟩⟩
  have q4:(W.putObj w3.heap.size (.deferred none)).cell? ⟨B4,o4,none⟩=some v':=by rw [World.cell?_of_block (World.putObj_heap_other (by simp only;omega))];exact d4
  have q5:(W.putObj w3.heap.size (.deferred none)).cell? ⟨B5,o5,none⟩=some (.int .i64 0):=by rw [World.cell?_of_block (World.putObj_heap_other (by simp only;omega))];exact d5
  have hr:r=.tup [ownL (lstN n p),I 0]:=by
   rcases hans with ⟨h1,_⟩ | ⟨_,q,hq,h⟩
   · rcases h1 with h | h
     · exact absurd hnn h
     · exact absurd hF.iso (h p)
   · rw [h,hF.uniq hq]
  rw [hr]
  have hf:=frame (touch:=fun b=>b=w3.heap.size) (w':=W.putObj w3.heap.size (.deferred none)) (fun b _ ht=>World.putObj_heap_other ht) (fun k b hk ho=>absurd ho.1 hk) _ v' hrv (fun b hb=>by
   rcases Nat.lt_or_ge 0 (cnt W v' b (ownL (lstN n p))) with h1 | h1
   · have:=(rep_owned _ v' hrv b h1).1.2
     omega
   · omega)
  refine ⟨.tuple #[v',.int .i64 0],?_,leave_res (w':=W.putObj w3.heap.size (.deferred none)) hno ⟨hkW.os.trans hkeeps.os,hkW.tape.trans hkeeps.tape,hkW.output.trans hkeeps.output,by simp;omega,fun b hb hm=>?_⟩ rfl (fun b=>by rw [hf.2];exact hct b) (rep_ok (fun k b hk _ ho=>absurd ho.1 hk) _ v' (fun b _ _ ho=>⟨rfl,by have:=ho.2;omega⟩) hf.1)⟩
  · simp [results,Tryz.f13,go_sem,q4,q5]
  · obtain ⟨z1,z2⟩:=hMk b hb hm
    rw [World.putObj_heap_other (by omega),hkW.block b (by omega) (fun h=>h.elim z1 z2)]
    exact hkeeps.block b hb hm
end
section
open Go.RowKit Go.Shelf
attribute [local go_sem] Oper.semAt_some
theorem lit29 (t:Array Value) (h:t.size=29):t=#[t.getD 0 undef,t.getD 1 undef,t.getD 2 undef,t.getD 3 undef,t.getD 4 undef,t.getD 5 undef,t.getD 6 undef,t.getD 7 undef,t.getD 8 undef,t.getD 9 undef,t.getD 10 undef,t.getD 11 undef,t.getD 12 undef,t.getD 13 undef,t.getD 14 undef,t.getD 15 undef,t.getD 16 undef,t.getD 17 undef,t.getD 18 undef,t.getD 19 undef,t.getD 20 undef,t.getD 21 undef,t.getD 22 undef,t.getD 23 undef,t.getD 24 undef,t.getD 25 undef,t.getD 26 undef,t.getD 27 undef,t.getD 28 undef]:=by
 have h2:t=((List.range 29).map fun i=>t.getD i undef).toArray:=by
  refine Array.ext (by simp [h]) fun i hi _=>?_
  simp [Array.getD_eq_getD_getElem?,hi]
 exact h2

set_option maxRecDepth 100000 in
set_option maxHeartbeats 4000000 in
theorem sol_pact {fm:Nat→Nat} {pg:Pg} (hfm:fm 251=17) (h419:fm 419=60) (h36:fm 36=33)
 (hpact:∀ f args args' r,Go.Mch.Call pg f args args' r→Pact Tryz.prog fm f args args' r) (hclone:S_clone pg) (hP:Tryz.prog.follows .mixedOrders=true)
 (hiso:∀ {Z:Nat→Prop} {W:World} {p1 p2:Value} {A C:List (List (List Int))} {n n':Nat} {Jx:List Int→World→World→Prop},(∀ b,Z b→b<W.heap.size)→Tbs n A→Tbs n' C→A.length=C.length→0<A.length→n≤12→A.length≤4→∀ (l k:Nat),
  rep fm (fun k b=>k=.old∧¬Z b) W p1 (.mem .old none [tba A])→rep fm (fun k b=>k=.old∧¬Z b) W p2 (.mem .old none [tba C]) →
  (∀ (p:List Int) (W1:World) (v:Value) (k:Nat),Kp (fun b=>b<W.heap.size) W W1→p.length=n→rep fm (fun k b=>k=.old∧¬Z b) W1 v (ix p) →
   YieldAt Fence.wide k Tryz.prog l #[v] W1 fun e W2=>e=.returned (.bool false)∧Turned Z W1 W2∧Jx p W1 W2) →
  CallsIn Fence.wide k Tryz.prog 60 #[.func (.yield l) #[] #[],p1,p2] W (IsoPost A C n n' Jx Z W))
 (okA:okC Tryz.prog fm 29 cycA (seqL (Tryz.f17.body.getD .skip))=true) (okB:okC Tryz.prog fm 29 solB (seqL (seqR (Tryz.f17.body.getD .skip)))=true) (okC':okC Tryz.prog fm 29 solC (seqL (seqL (seqR (seqR (Tryz.f17.body.getD .skip)))))=true)
 {args args':List T} {r:T} (h:isoP cycA solB solC 25 (Go.Mch.Call pg) args args' r):Pact Tryz.prog fm 251 args args' r:=by
 obtain ⟨h2,hno,hargs,hw⟩:=h
 have hargs:=hargs.symm
 subst hargs
 refine ⟨⟨Tryz.f17,by rw [hfm];exact Tryz.func17,rfl,by kernel_rfl⟩,fun w vs A0 M hA0 hsz hM hR=>?_⟩
 rw [hfm]
 have hsz2:vs.size=2:=hsz.trans h2
 refine (callsIn_wide (n:=9)).1 ?_
 refine callsIn_of_wp_marks Tryz.func17 rfl trivial ?_ rfl
 have hnt:Tryz.f17.ntmps=29:=by kernel_rfl
 rw [hnt]
 have hrel:Rel (cx0 fm w A0 M hA0) 29 (init args) { tmps:=vs++Array.replicate (29-vs.size) undef,defers:=[] } w:=by
  refine ⟨hR.congr fun s x hx=>?_,fun j hj=>?_,by simp;omega,rfl⟩
  · obtain ⟨t,ht,_⟩:=init_some hx
    have hs:s<vs.size:=by
     rw [hsz]
     rcases Nat.lt_or_ge s args.length with h' | h'
     · exact h'
     · rw [List.getElem?_eq_none h'] at ht;cases ht
    simp only [vlA,Array.getD_eq_getD_getElem?]
    rw [Array.getElem?_append_left hs]
  · unfold init
    rw [List.getElem?_eq_none (by omega)]
    rfl
 have hm2:K.fresh=K.fresh→∀ b,¬(cx0 fm w A0 M hA0).M b:=fun _=>hM (by unfold kindOf;rw [if_pos hno])
 have hrs:okRs Tryz.prog [.cell 4 none,.cell 5 none] Tryz.f17.results.toList=true:=by kernel_rfl
 have hret:∀ (e:Env) (a:Act) (w':World),isoRX 25 args r .ret e→Rel (cx0 fm w A0 M hA0) 29 e a w'→bodyPostM Fence.wide 9 Tryz.prog Tryz.f17 (Back fm args args r w vs A0 M hA0) .ret a w':=fun e a w' hp hr =>
  leave_ok hrs (by omega) hno hr (x:=.ret) (fun _=>rfl) hp
 simp only [wp] at hw
 refine pre_in (cx:=cx0 fm w A0 M hA0) (n:=9) (A:=cycA) hP hpact (fun _ h=>h) (by decide) hm2 okA hw hrel (fun e1 a1 w1 hw1 hr1=>?_) hret (fun _ _ h=>h)
 refine pre_in (cx:=cx0 fm w A0 M hA0) (n:=9) (A:=solB) hP hpact (fun _ h=>h) (by decide) hm2 okB hw1 hr1 (fun e2 a2 w2 hw2 hr2=>?_) hret (fun _ _ h=>h)
 refine wpIn_seq ?_
 refine pre_in (cx:=cx0 fm w A0 M hA0) (n:=9) (A:=solC) hP hpact (fun _ h=>h) (by decide) hm2 okC' hw2 hr2 (fun e3 a3 w3 hw3 hr3=>?_) (fun e a w' h1 h2=>hret e a w' h1 h2) (fun _ _ h=>h)
 obtain ⟨A,C,n,n',p1,p2,B4,o4,B5,o5,hat,hA,hC,hAC,hA0',hk4,hn,hans⟩:=iso_at hr3 hw3
 have hsz3:=hr3.size
 have hdf3:=hr3.defers
 obtain ⟨tm,df⟩:=a3
 have hv4:tm.getD 4 undef=.pointer (some ⟨B4,o4,none⟩):=hat.e4
 have hv5:tm.getD 5 undef=.pointer (some ⟨B5,o5,none⟩):=hat.e5
 have hvc:tm.getD 25 undef=.func (.func 60) #[] #[p1,p2]:=by rw [← h419];exact hat.ec
 have ht:=lit29 tm hsz3
 rw [hv4,hv5,hvc] at ht
 generalize tm.getD 0 undef=v0 at ht
 generalize tm.getD 1 undef=v1 at ht
 generalize tm.getD 2 undef=v2 at ht
 generalize tm.getD 3 undef=v3 at ht
 generalize tm.getD 6 undef=v6 at ht
 generalize tm.getD 7 undef=v7 at ht
 generalize tm.getD 8 undef=v8 at ht
 generalize tm.getD 9 undef=v9 at ht
 generalize tm.getD 10 undef=v10 at ht
 generalize tm.getD 11 undef=v11 at ht
 generalize tm.getD 12 undef=v12 at ht
 generalize tm.getD 13 undef=v13 at ht
 generalize tm.getD 14 undef=v14 at ht
 generalize tm.getD 15 undef=v15 at ht
 generalize tm.getD 16 undef=v16 at ht
 generalize tm.getD 17 undef=v17 at ht
 generalize tm.getD 18 undef=v18 at ht
 generalize tm.getD 19 undef=v19 at ht
 generalize tm.getD 20 undef=v20 at ht
 generalize tm.getD 21 undef=v21 at ht
 generalize tm.getD 22 undef=v22 at ht
 generalize tm.getD 23 undef=v23 at ht
 generalize tm.getD 24 undef=v24 at ht
 generalize tm.getD 26 undef=v26 at ht
 generalize tm.getD 27 undef=v27 at ht
 generalize tm.getD 28 undef=v28 at ht
 have hkeeps:=hat.keeps
 have hne:=hat.ne
 have hf4:=hat.free4
 have hf5:=hat.free5
 have hc4:=hat.c4
 have hc5:=hat.c5
 have hz4:=hat.f4
 have hz5:=hat.f5
 have hr1':=hat.r1
 have hr2':=hat.r2
 clear hv4 hv5 hvc hat hr3 hw3 hsz3
 subst ht
 replace hdf3:df=[]:=hdf3
 subst hdf3
 have hB4:=blk_lt hc4
 have hB5:=blk_lt hc5
 simp only at hB4 hB5
 have hMk:∀ b,b<w.heap.size→¬M b→b≠B4∧b≠B5:=fun b hb hm=>⟨fun e=>by
  rcases hf4 with h | h
  · omega
  · exact hm (by rw [e];exact h),fun e=>by
  rcases hf5 with h | h
  · omega
  · exact hm (by rw [e];exact h)⟩
 refine wpIn_block ?_
 refine range_iso (fm:=fm) (A:=A) (C:=C) (n:=n) (n':=n') (B4:=B4) (o4:=o4) (B5:=B5) (o5:=o5) (gf:=60) (p1:=p1) (p2:=p2) rfl (enters_of Tryz.func60 (by kernel_rfl) rfl) rfl hc4 hc5 hr1' hr2'
  (fun l k W Z Jx hZ h1 h2 hY=>hiso hZ hA hC hAC hA0' hn hk4 l k h1 h2 hY) (a₁:=fun v=>{ tmps:=#[v0,v1,v2,v3,.pointer (some ⟨B4,o4,none⟩),.pointer (some ⟨B5,o5,none⟩),v,v7,v8,v9,v10,v11,v12,v13,v14,v15,v16,v17,v18,v19,v20,v21,v22,v23,v24,.func (.func 60) #[] #[p1,p2],v,v27,v28],defers:=[] }) ?assign ?body ?done ?stop
 case assign =>
  intro l k v W K hK
  gi_wp2
  exact hK
 case body =>
  intro l k v p W hpl hv hb4 hb5 hsW
  have c4:W.cell? ⟨B4,o4,none⟩=some (.slice none 0 0):=by rw [World.cell?_of_block hb4];exact hc4
  have c5:W.cell? ⟨B5,o5,none⟩=some (.int .i64 0):=by rw [World.cell?_of_block hb5];exact hc5
  have z4:W.frozen? ⟨B4,o4,none⟩=false:=by rw [World.frozen?_of_block hb4];exact hz4
  have z5:W.frozen? ⟨B5,o5,none⟩=false:=by rw [World.frozen?_of_block hb5];exact hz5
  have hcl:=CallsIn.inRound l (callsIn_wide (n:=k-1).2 (clone_in (P:=Tryz.prog) hpact hclone (by omega) hv))
  rw [h36] at hcl
  gi_wp2
  refine ⟨trivial,fun h=>(by cases h),hcl.mono ?_⟩
  rintro e W' ⟨v',rfl,hk',hct,hrv⟩
  obtain ⟨b',o',cap',rfl,_,_⟩:=ints_cells (k:=.own) hrv
  rw [hpl] at hct hrv
  have d4:W'.cell? ⟨B4,o4,none⟩=some (.slice none 0 0):=by rw [World.cell?_of_block (hk'.same B4 (by omega) trivial)];exact c4
  have d5:W'.cell? ⟨B5,o5,none⟩=some (.int .i64 0):=by rw [World.cell?_of_block (hk'.same B5 (by omega) trivial)];exact c5
  have y4:W'.frozen? ⟨B4,o4,none⟩=false:=by rw [World.frozen?_of_block (hk'.same B4 (by omega) trivial)];exact z4
  have y5:W'.frozen? ⟨B5,o5,none⟩=false:=by rw [World.frozen?_of_block (hk'.same B5 (by omega) trivial)];exact z5
  have e5:(W'.setCell ⟨B4,o4,none⟩ (.slice (some ⟨b',o',none⟩) n cap')).cell? ⟨B5,o5,none⟩=some (.int .i64 0):=by rw [World.cell?_of_block (Below.heap_setCell _ _ _ _ (Ne.symm hne))];exact d5
  have x5:(W'.setCell ⟨B4,o4,none⟩ (.slice (some ⟨b',o',none⟩) n cap')).frozen? ⟨B5,o5,none⟩=false:=by rw [World.frozen?_setCell];exact y5
  gi_wp2
  exact once_done hk' (by omega) (by omega) hne d4 d5 hct hrv
 case done =>
  intro W hno' hkW hD
  have c4:W.cell? ⟨B4,o4,none⟩=some (.slice none 0 0):=by rw [World.cell?_of_block (hkW.block _ (by omega) (fun h=>h))];exact hc4
  have c5:W.cell? ⟨B5,o5,none⟩=some (.int .i64 0):=by rw [World.cell?_of_block (hkW.block _ (by omega) (fun h=>h))];exact hc5
  have z4:W.frozen? ⟨B4,o4,none⟩=false:=by rw [World.frozen?_of_block (hkW.block _ (by omega) (fun h=>h))];exact hz4
  have z5:W.frozen? ⟨B5,o5,none⟩=false:=by rw [World.frozen?_of_block (hkW.block _ (by omega) (fun h=>h))];exact hz5
  have e5:(W.setCell ⟨B4,o4,none⟩ (.slice none 0 0)).cell? ⟨B5,o5,none⟩=some (.int .i64 0):=by rw [World.cell?_of_block (Below.heap_setCell _ _ _ _ (Ne.symm hne))];exact c5
  have x5:(W.setCell ⟨B4,o4,none⟩ (.slice none 0 0)).frozen? ⟨B5,o5,none⟩=false:=by rw [World.frozen?_setCell];exact z5
  have hs3:=hkeeps.size
  have hsW:=hkW.size
  have hob:∀ b,b≠B4→b≠B5→((W.setCell ⟨B4,o4,none⟩ (.slice none 0 0)).setCell ⟨B5,o5,none⟩ (.int .i64 4)).heap[b]?=W.heap[b]?:=fun b h1 h2=>by
   rw [Below.heap_setCell _ _ _ _ h2,Below.heap_setCell _ _ _ _ h1]
  have g4:((W.setCell ⟨B4,o4,none⟩ (.slice none 0 0)).setCell ⟨B5,o5,none⟩ (.int .i64 4)).cell? ⟨B4,o4,none⟩=some (.slice none 0 0):=by
   rw [World.cell?_of_block (Below.heap_setCell _ _ _ _ hne)]
   exact World.cell?_setCell_same' _ _ _ (by rw [c4];rfl)
  have g5:((W.setCell ⟨B4,o4,none⟩ (.slice none 0 0)).setCell ⟨B5,o5,none⟩ (.int .i64 4)).cell? ⟨B5,o5,none⟩=some (.int .i64 4):=World.cell?_setCell_same' _ _ _ (by rw [e5];rfl)
  have hDD:=(hob w3.heap.size (by omega) (by omega)).trans hD
  have hsz':((W.setCell ⟨B4,o4,none⟩ (.slice none 0 0)).setCell ⟨B5,o5,none⟩ (.int .i64 4)).heap.size=W.heap.size:=by simp [World.setCell]
  have hos:((W.setCell ⟨B4,o4,none⟩ (.slice none 0 0)).setCell ⟨B5,o5,none⟩ (.int .i64 4)).os=W.os∧((W.setCell ⟨B4,o4,none⟩ (.slice none 0 0)).setCell ⟨B5,o5,none⟩ (.int .i64 4)).tape=W.tape∧((W.setCell ⟨B4,o4,none⟩ (.slice none 0 0)).setCell ⟨B5,o5,none⟩ (.int .i64 4)).output=W.output:=⟨rfl,rfl,rfl⟩
  gi_wp2
  generalize (W.setCell ⟨B4,o4,none⟩ (.slice none 0 0)).setCell ⟨B5,o5,none⟩ (.int .i64 4)=W5 at g4 g5 hDD hsz' hos hob ⊢
  refine ⟨by simp,.inl ⟨_,_,rfl,run_takeDeferred hDD,?_⟩⟩
  have q4:(W5.putObj w3.heap.size (.deferred none)).cell? ⟨B4,o4,none⟩=some (.slice none 0 0):=by rw [World.cell?_of_block (World.putObj_heap_other (by simp only;omega))];exact g4
  have q5:(W5.putObj w3.heap.size (.deferred none)).cell? ⟨B5,o5,none⟩=some (.int .i64 4):=by rw [World.cell?_of_block (World.putObj_heap_other (by simp only;omega))];exact g5
  have hr:r=.tup [nil,I 4]:=by
   rcases hans with ⟨_,h⟩ | ⟨h1,p,hp,_⟩
   · exact h
   · rcases hno' with h | h
     · exact absurd h1 h
     · exact absurd hp.iso (h p)
  rw [hr]
  refine ⟨.tuple #[.slice none 0 0,.int .i64 4],?_,leave_res (w':=W5.putObj w3.heap.size (.deferred none)) hno ⟨hos.1.trans (hkW.os.trans hkeeps.os),hos.2.1.trans (hkW.tape.trans hkeeps.tape),hos.2.2.trans (hkW.output.trans hkeeps.output),by simp;omega,fun b hb hm=>?_⟩ rfl (fun b=>by simp [cnt]) ⟨rfl,rfl⟩⟩
  · simp [results,Tryz.f17,go_sem,q4,q5]
  · obtain ⟨z1,z2⟩:=hMk b hb hm
    rw [World.putObj_heap_other (by omega),hob b z1 z2,hkW.block b (by omega) (fun h=>h)]
    exact hkeeps.block b hb hm
 case stop =>
  intro W p hnn hF hkW hDn hD
  obtain ⟨v',d4,d5,hct,hrv⟩:=hDn.cells
  have hs3:=hkeeps.size
  have hsW:=hkW.size
  gi_wp2
  refine ⟨by simp,.inl ⟨_,_,rfl,run_takeDeferred hD,?_⟩⟩
  have q4:(W.putObj w3.heap.size (.deferred none)).cell? ⟨B4,o4,none⟩=some v':=by rw [World.cell?_of_block (World.putObj_heap_other (by simp only;omega))];exact d4
  have q5:(W.putObj w3.heap.size (.deferred none)).cell? ⟨B5,o5,none⟩=some (.int .i64 0):=by rw [World.cell?_of_block (World.putObj_heap_other (by simp only;omega))];exact d5
  have hr:r=.tup [ownL (lstN n p),I 0]:=by
   rcases hans with ⟨h1,_⟩ | ⟨_,q,hq,h⟩
   · rcases h1 with h | h
     · exact absurd hnn h
     · exact absurd hF.iso (h p)
   · rw [h,hF.uniq hq]
  rw [hr]
  have hf:=frame (touch:=fun b=>b=w3.heap.size) (w':=W.putObj w3.heap.size (.deferred none)) (fun b _ ht=>World.putObj_heap_other ht) (fun k b hk ho=>absurd ho.1 hk) _ v' hrv (fun b hb=>by
   rcases Nat.lt_or_ge 0 (cnt W v' b (ownL (lstN n p))) with h1 | h1
   · have:=(rep_owned _ v' hrv b h1).1.2
     omega
   · omega)
  refine ⟨.tuple #[v',.int .i64 0],?_,leave_res (w':=W.putObj w3.heap.size (.deferred none)) hno ⟨hkW.os.trans hkeeps.os,hkW.tape.trans hkeeps.tape,hkW.output.trans hkeeps.output,by simp;omega,fun b hb hm=>?_⟩ rfl (fun b=>by rw [hf.2];exact hct b) (rep_ok (fun k b hk _ ho=>absurd ho.1 hk) _ v' (fun b _ _ ho=>⟨rfl,by have:=ho.2;omega⟩) hf.1)⟩
  · simp [results,Tryz.f17,go_sem,q4,q5]
  · obtain ⟨z1,z2⟩:=hMk b hb hm
    rw [World.putObj_heap_other (by omega),hkW.block b (by omega) (fun h=>h.elim z1 z2)]
    exact hkeeps.block b hb hm
end
theorem okI0:okC Tryz.prog fm 37 isA (seqL (Tryz.f60.body.getD .skip))=true:=by kernel_rfl
theorem okI1:okC Tryz.prog fm 37 isB (seqL (seqR (Tryz.f60.body.getD .skip)))=true:=by kernel_rfl
theorem okI2:okC Tryz.prog fm 37 isC (seqL (seqR (seqR (Tryz.f60.body.getD .skip))))=true:=by kernel_rfl
theorem okI3:okC Tryz.prog fm 37 isD (seqL (seqR (seqR (seqR (Tryz.f60.body.getD .skip)))))=true:=by kernel_rfl
theorem okC0:okC Tryz.prog fm 25 cycA (seqL (Tryz.f13.body.getD .skip))=true:=by kernel_rfl
theorem okC1:okC Tryz.prog fm 25 cycB (seqL (seqR (Tryz.f13.body.getD .skip)))=true:=by kernel_rfl
theorem okC2:okC Tryz.prog fm 25 cycC (seqL (seqL (seqR (seqR (Tryz.f13.body.getD .skip)))))=true:=by kernel_rfl
theorem okS0:okC Tryz.prog fm 29 cycA (seqL (Tryz.f17.body.getD .skip))=true:=by kernel_rfl
theorem okS1:okC Tryz.prog fm 29 solB (seqL (seqR (Tryz.f17.body.getD .skip)))=true:=by kernel_rfl
theorem okS2:okC Tryz.prog fm 29 solC (seqL (seqL (seqR (seqR (Tryz.f17.body.getD .skip)))))=true:=by kernel_rfl
theorem pact {f:Nat} {args args':List T} {r:T} (h:Go.Mch.Call pg f args args' r):Pact Tryz.prog fm f args args' r :=
 sound (pg:=pg) follows (fun _ _ _ _ h=>by
  rcases h with ⟨rfl,h⟩ | ⟨rfl,h⟩
  · exact cyc_pact (pg:=pg0) rfl rfl rfl (fun _ _ _ _=>pact0) y_clone follows (fun hZ hA hC hAC hA0 hn hk l k h1 h2 hY=>iso1_in (pg:=pg0) rfl rfl rfl rfl follows (fun _ _ _ _=>pact0) y_indexIn_384 y_asg y_undo okI0 okI1 okI2 okI3 hZ hA hC hAC hA0 hn hk l k h1 h2 hY) okC0 okC1 okC2 h
  · exact sol_pact (pg:=pg0) rfl rfl rfl (fun _ _ _ _=>pact0) y_clone follows (fun hZ hA hC hAC hA0 hn hk l k h1 h2 hY=>iso1_in (pg:=pg0) rfl rfl rfl rfl follows (fun _ _ _ _=>pact0) y_indexIn_384 y_asg y_undo okI0 okI1 okI2 okI3 hZ hA hC hAC hA0 hn hk l k h1 h2 hY) okS0 okS1 okS2 h) prog_ok0 h
end Go.Proofs.YtmlknafdnccddaaGreat.Tie
