/- The compact code of the functions is this seat's program's: what the machine calls good, the program does. -/
import Derived.Test.YtpaklggigidikaaGreatRows
import Derived.KernelRfl
import Derived.Test.YtpaklggigidikaaGreatM4
import Derived.Test.YtpaklggigidikaaGreatYeA
import Derived.Test.YtpaklggigidikaaGreatYeB
import Derived.Test.YtpaklggigidikaaGreatYeC
import Derived.Test.YtpaklggigidikaaGreatYeD
import Derived.Test.YtpaklggigidikaaGreatYeE
import Derived.Test.YtpaklggigidikaaGreatYeG
namespace Go.Proofs.YtpaklggigidikaaGreat.Tie
open Go.Mch
def fmL : List Nat := [0, 0, 0, 0, 0, 0, 0, 0, 0, 0, 0, 0, 0, 0, 0, 0, 0, 0, 0, 0, 0, 0, 0, 0, 0, 0, 0, 0, 0, 0, 62, 138, 0, 0, 0, 68, 0, 0, 0, 60, 0, 85, 82, 0, 0, 0, 134, 135, 0, 0, 92, 125, 0, 0, 105, 0, 126, 127, 128, 51, 123, 124, 117, 48, 133, 144, 145, 113, 146, 89, 90, 0, 0, 0, 0, 0, 0, 0, 0, 0, 0, 0, 0, 0, 0, 0, 0, 0, 0, 0, 0, 0, 0, 0, 0, 0, 0, 0, 0, 0, 0, 0, 0, 0, 0, 0, 0, 0, 0, 0, 0, 0, 0, 0, 0, 0, 0, 0, 3, 0, 0, 0, 0, 0, 0, 0, 0, 0, 6, 0, 0, 0, 0, 0, 0, 0, 0, 57, 0, 0, 0, 24, 0, 0, 0, 0, 0, 0, 0, 0, 0, 0, 0, 0, 0, 0, 0, 0, 0, 0, 0, 0, 0, 0, 0, 11, 0, 0, 0, 10, 0, 0, 0, 0, 0, 0, 0, 0, 0, 0, 0, 13, 0, 12, 0, 0, 0, 0, 0, 0, 0, 0, 0, 0, 0, 0, 0, 0, 0, 0, 0, 0, 0, 0, 0, 0, 0, 0, 9, 8, 0, 0, 0, 0, 0, 0, 0, 0, 16, 14, 0, 0, 0, 0, 0, 0, 0, 0, 0, 0, 0, 0, 0, 0, 0, 0, 0, 0, 7, 15, 17, 18, 0, 0, 0, 0, 0, 0, 0, 0, 0, 0, 0, 0, 0, 0, 0, 0, 0, 0, 0, 0, 0, 0, 42, 112, 38, 65, 36, 37, 0, 49, 0, 88, 0, 0, 0, 0, 0, 153, 131, 0, 0, 0, 0, 83, 0, 56, 44, 0, 40, 0, 66, 0, 0, 0, 0, 0, 0, 43, 47, 39, 0, 0, 147, 0, 0, 0, 54, 0, 0, 0, 0, 0, 0, 0, 46, 50, 41, 0, 0, 0, 0, 0, 0, 0, 0, 0, 0, 0, 0, 0, 45, 53, 73, 0, 78, 0, 0, 0, 0, 0, 0, 0, 0, 0, 0, 0, 0, 0, 86, 140, 0, 0, 0, 0, 0, 52, 55, 0, 0, 0, 0, 103, 141, 0, 79, 119, 101, 0, 0, 0, 0, 0, 0, 139, 95, 109, 80, 81, 0, 91, 0, 0, 98, 0, 0, 87, 84, 0, 0, 96, 97, 0, 0, 0, 0, 0, 116, 0, 0, 0, 0, 93, 0, 94, 152, 0, 0, 0, 129, 0, 120, 122, 0, 0, 0, 136, 137, 0, 0, 0, 99, 100, 102, 104, 0, 118, 121, 132, 130, 0, 0, 0, 0, 0, 0, 0, 0, 0, 0, 0, 0, 0, 0, 143, 0, 0, 0, 142, 0, 0, 0, 0, 0, 0, 0, 0, 148, 149, 150, 151]
def fm (k : Nat) : Nat := fmL.getD k 0
theorem k118 : (Tryz.prog.funcs[3]?).any (okF Tryz.prog fm j1o) = true := by kernel_rfl
theorem k128 : (Tryz.prog.funcs[6]?).any (okF Tryz.prog fm c_laws_big) = true := by kernel_rfl
theorem k238 : (Tryz.prog.funcs[7]?).any (okF Tryz.prog fm j1h) = true := by kernel_rfl
theorem k209 : (Tryz.prog.funcs[8]?).any (okF Tryz.prog fm j2i) = true := by kernel_rfl
theorem k208 : (Tryz.prog.funcs[9]?).any (okF Tryz.prog fm j2g) = true := by kernel_rfl
theorem k169 : (Tryz.prog.funcs[10]?).any (okF Tryz.prog fm j05) = true := by kernel_rfl
theorem k165 : (Tryz.prog.funcs[11]?).any (okF Tryz.prog fm j1r) = true := by kernel_rfl
theorem k183 : (Tryz.prog.funcs[12]?).any (okF Tryz.prog fm j1x) = true := by kernel_rfl
theorem k181 : (Tryz.prog.funcs[13]?).any (okF Tryz.prog fm j1f) = true := by kernel_rfl
theorem k219 : (Tryz.prog.funcs[14]?).any (okF Tryz.prog fm j7a) = true := by kernel_rfl
theorem k239 : (Tryz.prog.funcs[15]?).any (okF Tryz.prog fm j3n) = true := by kernel_rfl
theorem k218 : (Tryz.prog.funcs[16]?).any (okF Tryz.prog fm j2p) = true := by kernel_rfl
theorem k240 : (Tryz.prog.funcs[17]?).any (okF Tryz.prog fm j51) = true := by kernel_rfl
theorem k241 : (Tryz.prog.funcs[18]?).any (okF Tryz.prog fm j3o) = true := by kernel_rfl
theorem k141 : (Tryz.prog.funcs[24]?).any (okF Tryz.prog fm j3v) = true := by kernel_rfl
theorem k268 : (Tryz.prog.funcs[36]?).any (okF Tryz.prog fm j2d) = true := by kernel_rfl
theorem k269 : (Tryz.prog.funcs[37]?).any (okF Tryz.prog fm j5b) = true := by kernel_rfl
theorem k266 : (Tryz.prog.funcs[38]?).any (okF Tryz.prog fm j38) = true := by kernel_rfl
theorem k301 : (Tryz.prog.funcs[39]?).any (okF Tryz.prog fm j2h) = true := by kernel_rfl
theorem k290 : (Tryz.prog.funcs[40]?).any (okF Tryz.prog fm j1a) = true := by kernel_rfl
theorem k318 : (Tryz.prog.funcs[41]?).any (okF Tryz.prog fm j4r) = true := by kernel_rfl
theorem k264 : (Tryz.prog.funcs[42]?).any (okF Tryz.prog fm j6g) = true := by kernel_rfl
theorem k299 : (Tryz.prog.funcs[43]?).any (okF Tryz.prog fm j33) = true := by kernel_rfl
theorem k288 : (Tryz.prog.funcs[44]?).any (okF Tryz.prog fm j3i) = true := by kernel_rfl
theorem k332 : (Tryz.prog.funcs[45]?).any (okF Tryz.prog fm j5x) = true := by kernel_rfl
theorem k316 : (Tryz.prog.funcs[46]?).any (okF Tryz.prog fm j3u) = true := by kernel_rfl
theorem k300 : (Tryz.prog.funcs[47]?).any (okF Tryz.prog fm j1p) = true := by kernel_rfl
theorem k63 : (Tryz.prog.funcs[48]?).any (okF Tryz.prog fm j0t) = true := by kernel_rfl
theorem k271 : (Tryz.prog.funcs[49]?).any (okF Tryz.prog fm j3k) = true := by kernel_rfl
theorem k317 : (Tryz.prog.funcs[50]?).any (okF Tryz.prog fm j1w) = true := by kernel_rfl
theorem k59 : (Tryz.prog.funcs[51]?).any (okF Tryz.prog fm j4a) = true := by kernel_rfl
theorem k357 : (Tryz.prog.funcs[52]?).any (okF Tryz.prog fm j6j) = true := by kernel_rfl
theorem k333 : (Tryz.prog.funcs[53]?).any (okF Tryz.prog fm j4s) = true := by kernel_rfl
theorem k308 : (Tryz.prog.funcs[54]?).any (okF Tryz.prog fm j3x) = true := by kernel_rfl
theorem k358 : (Tryz.prog.funcs[55]?).any (okF Tryz.prog fm j2r) = true := by kernel_rfl
theorem k287 : (Tryz.prog.funcs[56]?).any (okF Tryz.prog fm j5e) = true := by kernel_rfl
theorem k137 : (Tryz.prog.funcs[57]?).any (okF Tryz.prog fm j3b) = true := by kernel_rfl
theorem k39 : (Tryz.prog.funcs[60]?).any (okF Tryz.prog fm j3m) = true := by kernel_rfl
theorem k30 : (Tryz.prog.funcs[62]?).any (okF Tryz.prog fm j5p) = true := by kernel_rfl
theorem k267 : (Tryz.prog.funcs[65]?).any (okF Tryz.prog fm j3w) = true := by kernel_rfl
theorem k292 : (Tryz.prog.funcs[66]?).any (okF Tryz.prog fm j4d) = true := by kernel_rfl
theorem k35 : (Tryz.prog.funcs[68]?).any (okF Tryz.prog fm j4x) = true := by kernel_rfl
theorem k334 : (Tryz.prog.funcs[73]?).any (okF Tryz.prog fm j45) = true := by kernel_rfl
theorem k336 : (Tryz.prog.funcs[78]?).any (okF Tryz.prog fm j3q) = true := by kernel_rfl
theorem k366 : (Tryz.prog.funcs[79]?).any (okF Tryz.prog fm j1n) = true := by kernel_rfl
theorem k378 : (Tryz.prog.funcs[80]?).any (okF Tryz.prog fm j2v) = true := by kernel_rfl
theorem k379 : (Tryz.prog.funcs[81]?).any (okF Tryz.prog fm j2f) = true := by kernel_rfl
theorem k42 : (Tryz.prog.funcs[82]?).any (okF Tryz.prog fm j30) = true := by kernel_rfl
theorem k285 : (Tryz.prog.funcs[83]?).any (okF Tryz.prog fm j1v) = true := by kernel_rfl
theorem k388 : (Tryz.prog.funcs[84]?).any (okF Tryz.prog fm j3l) = true := by kernel_rfl
theorem k41 : (Tryz.prog.funcs[85]?).any (okF Tryz.prog fm j6h) = true := by kernel_rfl
theorem k350 : (Tryz.prog.funcs[86]?).any (okF Tryz.prog fm j43) = true := by kernel_rfl
theorem k387 : (Tryz.prog.funcs[87]?).any (okF Tryz.prog fm j36) = true := by kernel_rfl
theorem k273 : (Tryz.prog.funcs[88]?).any (okF Tryz.prog fm j42) = true := by kernel_rfl
theorem k69 : (Tryz.prog.funcs[89]?).any (okF Tryz.prog fm j4q) = true := by kernel_rfl
theorem k70 : (Tryz.prog.funcs[90]?).any (okF Tryz.prog fm j0q) = true := by kernel_rfl
theorem k381 : (Tryz.prog.funcs[91]?).any (okF Tryz.prog fm j0x) = true := by kernel_rfl
theorem k50 : (Tryz.prog.funcs[92]?).any (okF Tryz.prog fm j5f) = true := by kernel_rfl
theorem k403 : (Tryz.prog.funcs[93]?).any (okF Tryz.prog fm j3z) = true := by kernel_rfl
theorem k405 : (Tryz.prog.funcs[94]?).any (okF Tryz.prog fm j00) = true := by kernel_rfl
theorem k376 : (Tryz.prog.funcs[95]?).any (okF Tryz.prog fm j5d) = true := by kernel_rfl
theorem k391 : (Tryz.prog.funcs[96]?).any (okF Tryz.prog fm j27) = true := by kernel_rfl
theorem k392 : (Tryz.prog.funcs[97]?).any (okF Tryz.prog fm j26) = true := by kernel_rfl
theorem k384 : (Tryz.prog.funcs[98]?).any (okF Tryz.prog fm j08) = true := by kernel_rfl
theorem k422 : (Tryz.prog.funcs[99]?).any (okF Tryz.prog fm j34) = true := by kernel_rfl
theorem k423 : (Tryz.prog.funcs[100]?).any (okF Tryz.prog fm j16) = true := by kernel_rfl
theorem k368 : (Tryz.prog.funcs[101]?).any (okF Tryz.prog fm j4e) = true := by kernel_rfl
theorem k424 : (Tryz.prog.funcs[102]?).any (okF Tryz.prog fm j2m) = true := by kernel_rfl
theorem k363 : (Tryz.prog.funcs[103]?).any (okF Tryz.prog fm j3f) = true := by kernel_rfl
theorem k425 : (Tryz.prog.funcs[104]?).any (okF Tryz.prog fm j24) = true := by kernel_rfl
theorem k54 : (Tryz.prog.funcs[105]?).any (okF Tryz.prog fm j39) = true := by kernel_rfl
theorem k377 : (Tryz.prog.funcs[109]?).any (okF Tryz.prog fm j25) = true := by kernel_rfl
theorem k265 : (Tryz.prog.funcs[112]?).any (okF Tryz.prog fm j46) = true := by kernel_rfl
theorem k67 : (Tryz.prog.funcs[113]?).any (okF Tryz.prog fm j4c) = true := by kernel_rfl
theorem k398 : (Tryz.prog.funcs[116]?).any (okF Tryz.prog fm j4n) = true := by kernel_rfl
theorem k62 : (Tryz.prog.funcs[117]?).any (okF Tryz.prog fm j50) = true := by kernel_rfl
theorem k427 : (Tryz.prog.funcs[118]?).any (okF Tryz.prog fm j3g) = true := by kernel_rfl
theorem k367 : (Tryz.prog.funcs[119]?).any (okF Tryz.prog fm j35) = true := by kernel_rfl
theorem k412 : (Tryz.prog.funcs[120]?).any (okF Tryz.prog fm j2w) = true := by kernel_rfl
theorem k428 : (Tryz.prog.funcs[121]?).any (okF Tryz.prog fm j3a) = true := by kernel_rfl
theorem k413 : (Tryz.prog.funcs[122]?).any (okF Tryz.prog fm j3j) = true := by kernel_rfl
theorem k60 : (Tryz.prog.funcs[123]?).any (okF Tryz.prog fm j1q) = true := by kernel_rfl
theorem k61 : (Tryz.prog.funcs[124]?).any (okF Tryz.prog fm j2q) = true := by kernel_rfl
theorem k51 : (Tryz.prog.funcs[125]?).any (okF Tryz.prog fm j1u) = true := by kernel_rfl
theorem k56 : (Tryz.prog.funcs[126]?).any (okF Tryz.prog fm j5y) = true := by kernel_rfl
theorem k57 : (Tryz.prog.funcs[127]?).any (okF Tryz.prog fm j1j) = true := by kernel_rfl
theorem k58 : (Tryz.prog.funcs[128]?).any (okF Tryz.prog fm j4m) = true := by kernel_rfl
theorem k410 : (Tryz.prog.funcs[129]?).any (okF Tryz.prog fm j48) = true := by kernel_rfl
theorem k430 : (Tryz.prog.funcs[130]?).any (okF Tryz.prog fm j4p) = true := by kernel_rfl
theorem k280 : (Tryz.prog.funcs[131]?).any (okF Tryz.prog fm j5a) = true := by kernel_rfl
theorem k429 : (Tryz.prog.funcs[132]?).any (okF Tryz.prog fm j0z) = true := by kernel_rfl
theorem k64 : (Tryz.prog.funcs[133]?).any (okF Tryz.prog fm j3c) = true := by kernel_rfl
theorem k46 : (Tryz.prog.funcs[134]?).any (okF Tryz.prog fm j4o) = true := by kernel_rfl
theorem k47 : (Tryz.prog.funcs[135]?).any (okF Tryz.prog fm j49) = true := by kernel_rfl
theorem k417 : (Tryz.prog.funcs[136]?).any (okF Tryz.prog fm j14) = true := by kernel_rfl
theorem k418 : (Tryz.prog.funcs[137]?).any (okF Tryz.prog fm j2e) = true := by kernel_rfl
theorem k31 : (Tryz.prog.funcs[138]?).any (okF Tryz.prog fm j5z) = true := by kernel_rfl
theorem k375 : (Tryz.prog.funcs[139]?).any (okF Tryz.prog fm j37) = true := by kernel_rfl
theorem k351 : (Tryz.prog.funcs[140]?).any (okF Tryz.prog fm j4l) = true := by kernel_rfl
theorem k364 : (Tryz.prog.funcs[141]?).any (okF Tryz.prog fm j22) = true := by kernel_rfl
theorem k449 : (Tryz.prog.funcs[142]?).any (okF Tryz.prog fm j44) = true := by kernel_rfl
theorem k445 : (Tryz.prog.funcs[143]?).any (okF Tryz.prog fm j3h) = true := by kernel_rfl
theorem k65 : (Tryz.prog.funcs[144]?).any (okF Tryz.prog fm j1l) = true := by kernel_rfl
theorem k66 : (Tryz.prog.funcs[145]?).any (okF Tryz.prog fm j3y) = true := by kernel_rfl
theorem k68 : (Tryz.prog.funcs[146]?).any (okF Tryz.prog fm j6i) = true := by kernel_rfl
theorem k304 : (Tryz.prog.funcs[147]?).any (okF Tryz.prog fm j5c) = true := by kernel_rfl
theorem k458 : (Tryz.prog.funcs[148]?).any (okF Tryz.prog fm j15) = true := by kernel_rfl
theorem k459 : (Tryz.prog.funcs[149]?).any (okF Tryz.prog fm j1d) = true := by kernel_rfl
theorem k460 : (Tryz.prog.funcs[150]?).any (okF Tryz.prog fm j23) = true := by kernel_rfl
theorem k461 : (Tryz.prog.funcs[151]?).any (okF Tryz.prog fm j1e) = true := by kernel_rfl
theorem k406 : (Tryz.prog.funcs[152]?).any (okF Tryz.prog fm j17) = true := by kernel_rfl
theorem k279 : (Tryz.prog.funcs[153]?).any (okF Tryz.prog fm j47) = true := by kernel_rfl
def tab : List (Nat × F) := [(118, j1o), (128, c_laws_big), (238, j1h), (209, j2i), (208, j2g), (169, j05), (165, j1r), (183, j1x), (181, j1f), (219, j7a), (239, j3n), (218, j2p), (240, j51), (241, j3o), (141, j3v), (268, j2d), (269, j5b), (266, j38), (301, j2h), (290, j1a), (318, j4r), (264, j6g), (299, j33), (288, j3i), (332, j5x), (316, j3u), (300, j1p), (63, j0t), (271, j3k), (317, j1w), (59, j4a), (357, j6j), (333, j4s), (308, j3x), (358, j2r), (287, j5e), (137, j3b), (39, j3m), (30, j5p), (267, j3w), (292, j4d), (35, j4x), (334, j45), (336, j3q), (366, j1n), (378, j2v), (379, j2f), (42, j30), (285, j1v), (388, j3l), (41, j6h), (350, j43), (387, j36), (273, j42), (69, j4q), (70, j0q), (381, j0x), (50, j5f), (403, j3z), (405, j00), (376, j5d), (391, j27), (392, j26), (384, j08), (422, j34), (423, j16), (368, j4e), (424, j2m), (363, j3f), (425, j24), (54, j39), (377, j25), (265, j46), (67, j4c), (398, j4n), (62, j50), (427, j3g), (367, j35), (412, j2w), (428, j3a), (413, j3j), (60, j1q), (61, j2q), (51, j1u), (56, j5y), (57, j1j), (58, j4m), (410, j48), (430, j4p), (280, j5a), (429, j0z), (64, j3c), (46, j4o), (47, j49), (417, j14), (418, j2e), (31, j5z), (375, j37), (351, j4l), (364, j22), (449, j44), (445, j3h), (65, j1l), (66, j3y), (68, j6i), (304, j5c), (458, j15), (459, j1d), (460, j23), (461, j1e), (406, j17), (279, j47)]
def pg : Pg := { fn := fun f => (tab.find? fun x => x.1 == f).map (·.2) }
theorem all_ok : ∀ x, x ∈ tab → (Tryz.prog.funcs[fm x.1]?).any (okF Tryz.prog fm x.2) = true := by
 intro x hx
 unfold tab at hx
 simp only [List.mem_cons, List.not_mem_nil, or_false] at hx
 rcases hx with rfl | rfl | rfl | rfl | rfl | rfl | rfl | rfl | rfl | rfl | rfl | rfl | rfl | rfl | rfl | rfl | rfl | rfl | rfl | rfl | rfl | rfl | rfl | rfl | rfl | rfl | rfl | rfl | rfl | rfl | rfl | rfl | rfl | rfl | rfl | rfl | rfl | rfl | rfl | rfl | rfl | rfl | rfl | rfl | rfl | rfl | rfl | rfl | rfl | rfl | rfl | rfl | rfl | rfl | rfl | rfl | rfl | rfl | rfl | rfl | rfl | rfl | rfl | rfl | rfl | rfl | rfl | rfl | rfl | rfl | rfl | rfl | rfl | rfl | rfl | rfl | rfl | rfl | rfl | rfl | rfl | rfl | rfl | rfl | rfl | rfl | rfl | rfl | rfl | rfl | rfl | rfl | rfl | rfl | rfl | rfl | rfl | rfl | rfl | rfl | rfl | rfl | rfl | rfl | rfl | rfl | rfl | rfl | rfl | rfl | rfl | rfl
 · exact k118
 · exact k128
 · exact k238
 · exact k209
 · exact k208
 · exact k169
 · exact k165
 · exact k183
 · exact k181
 · exact k219
 · exact k239
 · exact k218
 · exact k240
 · exact k241
 · exact k141
 · exact k268
 · exact k269
 · exact k266
 · exact k301
 · exact k290
 · exact k318
 · exact k264
 · exact k299
 · exact k288
 · exact k332
 · exact k316
 · exact k300
 · exact k63
 · exact k271
 · exact k317
 · exact k59
 · exact k357
 · exact k333
 · exact k308
 · exact k358
 · exact k287
 · exact k137
 · exact k39
 · exact k30
 · exact k267
 · exact k292
 · exact k35
 · exact k334
 · exact k336
 · exact k366
 · exact k378
 · exact k379
 · exact k42
 · exact k285
 · exact k388
 · exact k41
 · exact k350
 · exact k387
 · exact k273
 · exact k69
 · exact k70
 · exact k381
 · exact k50
 · exact k403
 · exact k405
 · exact k376
 · exact k391
 · exact k392
 · exact k384
 · exact k422
 · exact k423
 · exact k368
 · exact k424
 · exact k363
 · exact k425
 · exact k54
 · exact k377
 · exact k265
 · exact k67
 · exact k398
 · exact k62
 · exact k427
 · exact k367
 · exact k412
 · exact k428
 · exact k413
 · exact k60
 · exact k61
 · exact k51
 · exact k56
 · exact k57
 · exact k58
 · exact k410
 · exact k430
 · exact k280
 · exact k429
 · exact k64
 · exact k46
 · exact k47
 · exact k417
 · exact k418
 · exact k31
 · exact k375
 · exact k351
 · exact k364
 · exact k449
 · exact k445
 · exact k65
 · exact k66
 · exact k68
 · exact k304
 · exact k458
 · exact k459
 · exact k460
 · exact k461
 · exact k406
 · exact k279
theorem follows : Tryz.prog.follows .mixedOrders = true := by kernel_rfl
theorem prog_ok : ∀ f F, pg.fn f = some F → ∃ fn, Tryz.prog.funcs[fm f]? = some fn ∧ okF Tryz.prog fm F fn = true := by
 intro f F h
 simp only [pg, Option.map_eq_some_iff] at h
 obtain ⟨x, h1, rfl⟩ := h
 have hm := List.mem_of_find?_eq_some h1
 have he := List.find?_some h1
 simp only [beq_iff_eq] at he
 have := all_ok x hm
 rw [he] at this
 rw [Option.any_eq_true] at this
 exact this
theorem pact {f : Nat} {args args' : List T} {r : T} (h : Go.Mch.Call pg f args args' r) : Pact Tryz.prog fm f args args' r :=
 sound follows (fun _ _ _ _ h => False.elim h) prog_ok h
end Go.Proofs.YtpaklggigidikaaGreat.Tie
