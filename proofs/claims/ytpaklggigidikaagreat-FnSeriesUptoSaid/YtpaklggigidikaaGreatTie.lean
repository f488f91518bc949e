/- The compact code of the functions is this seat's program's: what the machine calls good, the program does. -/
import Derived.Test.YtpaklggigidikaaGreatRows
import Derived.KernelRfl
import Derived.Test.YtpaklggigidikaaGreatM4
import Derived.Test.YtpaklggigidikaaGreatYeA
import Derived.Test.YtpaklggigidikaaGreatYeB
import Derived.Test.YtpaklggigidikaaGreatYeC
import Derived.Test.YtpaklggigidikaaGreatYeD
import Derived.Test.YtpaklggigidikaaGreatYeG
namespace Go.Proofs.YtpaklggigidikaaGreat.Tie
open Go.Mch
def fmL : List Nat := [0, 0, 0, 0, 0, 0, 0, 0, 0, 0, 0, 0, 0, 0, 0, 0, 0, 0, 0, 0, 0, 0, 0, 0, 0, 0, 0, 0, 0, 0, 62, 138, 0, 0, 0, 68, 0, 0, 0, 60, 0, 85, 82, 0, 0, 0, 134, 135, 0, 0, 92, 125, 0, 0, 105, 0, 126, 127, 128, 51, 123, 124, 117, 48, 133, 144, 145, 113, 146, 89, 90, 0, 0, 0, 0, 0, 0, 0, 0, 0, 0, 0, 0, 0, 0, 0, 0, 0, 0, 0, 0, 0, 0, 0, 0, 0, 0, 0, 0, 0, 0, 0, 0, 0, 0, 0, 0, 0, 0, 0, 0, 0, 0, 0, 0, 0, 0, 0, 0, 0, 0, 5, 0, 0, 0, 0, 0, 0, 6, 0, 0, 0, 0, 0, 0, 0, 0, 57, 0, 0, 0, 24, 0, 0, 0, 0, 0, 0, 0, 0, 0, 0, 0, 0, 0, 0, 0, 0, 0, 0, 0, 0, 0, 0, 0, 0, 0, 0, 0, 0, 0, 0, 0, 0, 0, 0, 0, 0, 0, 0, 0, 0, 0, 0, 0, 0, 32, 31, 0, 30, 0, 0, 0, 0, 0, 0, 0, 0, 0, 35, 34, 29, 28, 0, 0, 0, 0, 0, 0, 0, 0, 0, 0, 0, 0, 0, 0, 0, 16, 14, 0, 0, 0, 0, 0, 0, 0, 0, 0, 0, 0, 0, 0, 0, 0, 0, 0, 0, 0, 15, 0, 0, 0, 0, 0, 0, 0, 0, 0, 0, 0, 0, 0, 27, 33, 0, 0, 0, 0, 0, 0, 0, 0, 0, 42, 112, 38, 65, 36, 37, 0, 0, 0, 0, 0, 0, 110, 70, 0, 153, 131, 0, 0, 0, 0, 83, 0, 56, 44, 74, 0, 71, 66, 59, 0, 0, 0, 0, 0, 0, 0, 0, 0, 0, 147, 0, 0, 0, 54, 0, 67, 0, 0, 0, 0, 0, 46, 0, 41, 72, 76, 75, 0, 0, 0, 0, 0, 0, 0, 0, 0, 77, 45, 53, 73, 69, 78, 0, 0, 0, 0, 0, 0, 0, 0, 0, 0, 0, 0, 0, 86, 140, 0, 0, 0, 0, 0, 52, 55, 0, 0, 0, 0, 103, 141, 0, 79, 119, 101, 0, 0, 0, 0, 0, 0, 139, 95, 109, 80, 81, 0, 0, 0, 0, 98, 107, 106, 0, 0, 0, 0, 96, 97, 0, 0, 0, 0, 111, 116, 114, 115, 0, 0, 93, 0, 94, 152, 0, 0, 0, 129, 0, 120, 122, 0, 0, 0, 136, 137, 0, 0, 0, 99, 100, 102, 104, 0, 118, 121, 0, 0, 0, 0, 0, 0, 0, 0, 0, 0, 0, 0, 0, 0, 0, 0, 143, 0, 0, 0, 142, 0, 0, 0, 0, 0, 0, 0, 0, 148, 149, 150, 151]
def fm (k : Nat) : Nat := fmL.getD k 0
theorem k121 : (Tryz.prog.funcs[5]?).any (okF Tryz.prog fm j4v) = true := by kernel_rfl
theorem k128 : (Tryz.prog.funcs[6]?).any (okF Tryz.prog fm j8j) = true := by kernel_rfl
theorem k219 : (Tryz.prog.funcs[14]?).any (okF Tryz.prog fm j7j) = true := by kernel_rfl
theorem k239 : (Tryz.prog.funcs[15]?).any (okF Tryz.prog fm j3l) = true := by kernel_rfl
theorem k218 : (Tryz.prog.funcs[16]?).any (okF Tryz.prog fm j09) = true := by kernel_rfl
theorem k141 : (Tryz.prog.funcs[24]?).any (okF Tryz.prog fm j3u) = true := by kernel_rfl
theorem k253 : (Tryz.prog.funcs[27]?).any (okF Tryz.prog fm j1p) = true := by kernel_rfl
theorem k202 : (Tryz.prog.funcs[28]?).any (okF Tryz.prog fm j05) = true := by kernel_rfl
theorem k201 : (Tryz.prog.funcs[29]?).any (okF Tryz.prog fm j04) = true := by kernel_rfl
theorem k189 : (Tryz.prog.funcs[30]?).any (okF Tryz.prog fm j1i) = true := by kernel_rfl
theorem k187 : (Tryz.prog.funcs[31]?).any (okF Tryz.prog fm j4c) = true := by kernel_rfl
theorem k186 : (Tryz.prog.funcs[32]?).any (okF Tryz.prog fm j38) = true := by kernel_rfl
theorem k254 : (Tryz.prog.funcs[33]?).any (okF Tryz.prog fm j1l) = true := by kernel_rfl
theorem k200 : (Tryz.prog.funcs[34]?).any (okF Tryz.prog fm j2q) = true := by kernel_rfl
theorem k199 : (Tryz.prog.funcs[35]?).any (okF Tryz.prog fm j2n) = true := by kernel_rfl
theorem k268 : (Tryz.prog.funcs[36]?).any (okF Tryz.prog fm j2c) = true := by kernel_rfl
theorem k269 : (Tryz.prog.funcs[37]?).any (okF Tryz.prog fm j5l) = true := by kernel_rfl
theorem k266 : (Tryz.prog.funcs[38]?).any (okF Tryz.prog fm j4a) = true := by kernel_rfl
theorem k318 : (Tryz.prog.funcs[41]?).any (okF Tryz.prog fm j4x) = true := by kernel_rfl
theorem k264 : (Tryz.prog.funcs[42]?).any (okF Tryz.prog fm j6o) = true := by kernel_rfl
theorem k288 : (Tryz.prog.funcs[44]?).any (okF Tryz.prog fm j3h) = true := by kernel_rfl
theorem k332 : (Tryz.prog.funcs[45]?).any (okF Tryz.prog fm j52) = true := by kernel_rfl
theorem k316 : (Tryz.prog.funcs[46]?).any (okF Tryz.prog fm j3t) = true := by kernel_rfl
theorem k63 : (Tryz.prog.funcs[48]?).any (okF Tryz.prog fm j0t) = true := by kernel_rfl
theorem k59 : (Tryz.prog.funcs[51]?).any (okF Tryz.prog fm j4d) = true := by kernel_rfl
theorem k357 : (Tryz.prog.funcs[52]?).any (okF Tryz.prog fm j6r) = true := by kernel_rfl
theorem k333 : (Tryz.prog.funcs[53]?).any (okF Tryz.prog fm j4z) = true := by kernel_rfl
theorem k308 : (Tryz.prog.funcs[54]?).any (okF Tryz.prog fm j3w) = true := by kernel_rfl
theorem k358 : (Tryz.prog.funcs[55]?).any (okF Tryz.prog fm j2p) = true := by kernel_rfl
theorem k287 : (Tryz.prog.funcs[56]?).any (okF Tryz.prog fm j5o) = true := by kernel_rfl
theorem k137 : (Tryz.prog.funcs[57]?).any (okF Tryz.prog fm j29) = true := by kernel_rfl
theorem k293 : (Tryz.prog.funcs[59]?).any (okF Tryz.prog fm j2f) = true := by kernel_rfl
theorem k39 : (Tryz.prog.funcs[60]?).any (okF Tryz.prog fm j3k) = true := by kernel_rfl
theorem k30 : (Tryz.prog.funcs[62]?).any (okF Tryz.prog fm j5w) = true := by kernel_rfl
theorem k267 : (Tryz.prog.funcs[65]?).any (okF Tryz.prog fm j3v) = true := by kernel_rfl
theorem k292 : (Tryz.prog.funcs[66]?).any (okF Tryz.prog fm j4h) = true := by kernel_rfl
theorem k310 : (Tryz.prog.funcs[67]?).any (okF Tryz.prog fm j4w) = true := by kernel_rfl
theorem k35 : (Tryz.prog.funcs[68]?).any (okF Tryz.prog fm j46) = true := by kernel_rfl
theorem k335 : (Tryz.prog.funcs[69]?).any (okF Tryz.prog fm j40) = true := by kernel_rfl
theorem k277 : (Tryz.prog.funcs[70]?).any (okF Tryz.prog fm j7k) = true := by kernel_rfl
theorem k291 : (Tryz.prog.funcs[71]?).any (okF Tryz.prog fm j25) = true := by kernel_rfl
theorem k319 : (Tryz.prog.funcs[72]?).any (okF Tryz.prog fm j33) = true := by kernel_rfl
theorem k334 : (Tryz.prog.funcs[73]?).any (okF Tryz.prog fm j5f) = true := by kernel_rfl
theorem k289 : (Tryz.prog.funcs[74]?).any (okF Tryz.prog fm j3s) = true := by kernel_rfl
theorem k321 : (Tryz.prog.funcs[75]?).any (okF Tryz.prog fm j39) = true := by kernel_rfl
theorem k320 : (Tryz.prog.funcs[76]?).any (okF Tryz.prog fm j3r) = true := by kernel_rfl
theorem k331 : (Tryz.prog.funcs[77]?).any (okF Tryz.prog fm j35) = true := by kernel_rfl
theorem k336 : (Tryz.prog.funcs[78]?).any (okF Tryz.prog fm j3n) = true := by kernel_rfl
theorem k366 : (Tryz.prog.funcs[79]?).any (okF Tryz.prog fm j1o) = true := by kernel_rfl
theorem k378 : (Tryz.prog.funcs[80]?).any (okF Tryz.prog fm j2t) = true := by kernel_rfl
theorem k379 : (Tryz.prog.funcs[81]?).any (okF Tryz.prog fm j2e) = true := by kernel_rfl
theorem k42 : (Tryz.prog.funcs[82]?).any (okF Tryz.prog fm j3z) = true := by kernel_rfl
theorem k285 : (Tryz.prog.funcs[83]?).any (okF Tryz.prog fm j1v) = true := by kernel_rfl
theorem k41 : (Tryz.prog.funcs[85]?).any (okF Tryz.prog fm j6p) = true := by kernel_rfl
theorem k350 : (Tryz.prog.funcs[86]?).any (okF Tryz.prog fm j5d) = true := by kernel_rfl
theorem k69 : (Tryz.prog.funcs[89]?).any (okF Tryz.prog fm j4u) = true := by kernel_rfl
theorem k70 : (Tryz.prog.funcs[90]?).any (okF Tryz.prog fm j0p) = true := by kernel_rfl
theorem k50 : (Tryz.prog.funcs[92]?).any (okF Tryz.prog fm j5q) = true := by kernel_rfl
theorem k403 : (Tryz.prog.funcs[93]?).any (okF Tryz.prog fm j3y) = true := by kernel_rfl
theorem k405 : (Tryz.prog.funcs[94]?).any (okF Tryz.prog fm j0z) = true := by kernel_rfl
theorem k376 : (Tryz.prog.funcs[95]?).any (okF Tryz.prog fm j5n) = true := by kernel_rfl
theorem k391 : (Tryz.prog.funcs[96]?).any (okF Tryz.prog fm j24) = true := by kernel_rfl
theorem k392 : (Tryz.prog.funcs[97]?).any (okF Tryz.prog fm j23) = true := by kernel_rfl
theorem k384 : (Tryz.prog.funcs[98]?).any (okF Tryz.prog fm j0s) = true := by kernel_rfl
theorem k422 : (Tryz.prog.funcs[99]?).any (okF Tryz.prog fm j34) = true := by kernel_rfl
theorem k423 : (Tryz.prog.funcs[100]?).any (okF Tryz.prog fm j14) = true := by kernel_rfl
theorem k368 : (Tryz.prog.funcs[101]?).any (okF Tryz.prog fm j4i) = true := by kernel_rfl
theorem k424 : (Tryz.prog.funcs[102]?).any (okF Tryz.prog fm j2k) = true := by kernel_rfl
theorem k363 : (Tryz.prog.funcs[103]?).any (okF Tryz.prog fm j3e) = true := by kernel_rfl
theorem k425 : (Tryz.prog.funcs[104]?).any (okF Tryz.prog fm j21) = true := by kernel_rfl
theorem k54 : (Tryz.prog.funcs[105]?).any (okF Tryz.prog fm j4b) = true := by kernel_rfl
theorem k386 : (Tryz.prog.funcs[106]?).any (okF Tryz.prog fm j4y) = true := by kernel_rfl
theorem k385 : (Tryz.prog.funcs[107]?).any (okF Tryz.prog fm j3d) = true := by kernel_rfl
theorem k377 : (Tryz.prog.funcs[109]?).any (okF Tryz.prog fm j22) = true := by kernel_rfl
theorem k276 : (Tryz.prog.funcs[110]?).any (okF Tryz.prog fm j0w) = true := by kernel_rfl
theorem k397 : (Tryz.prog.funcs[111]?).any (okF Tryz.prog fm j53) = true := by kernel_rfl
theorem k265 : (Tryz.prog.funcs[112]?).any (okF Tryz.prog fm j5g) = true := by kernel_rfl
theorem k67 : (Tryz.prog.funcs[113]?).any (okF Tryz.prog fm j4g) = true := by kernel_rfl
theorem k399 : (Tryz.prog.funcs[114]?).any (okF Tryz.prog fm j5p) = true := by kernel_rfl
theorem k400 : (Tryz.prog.funcs[115]?).any (okF Tryz.prog fm j3j) = true := by kernel_rfl
theorem k398 : (Tryz.prog.funcs[116]?).any (okF Tryz.prog fm j4s) = true := by kernel_rfl
theorem k62 : (Tryz.prog.funcs[117]?).any (okF Tryz.prog fm j56) = true := by kernel_rfl
theorem k427 : (Tryz.prog.funcs[118]?).any (okF Tryz.prog fm j3f) = true := by kernel_rfl
theorem k367 : (Tryz.prog.funcs[119]?).any (okF Tryz.prog fm j36) = true := by kernel_rfl
theorem k412 : (Tryz.prog.funcs[120]?).any (okF Tryz.prog fm j2u) = true := by kernel_rfl
theorem k428 : (Tryz.prog.funcs[121]?).any (okF Tryz.prog fm j28) = true := by kernel_rfl
theorem k413 : (Tryz.prog.funcs[122]?).any (okF Tryz.prog fm j3i) = true := by kernel_rfl
theorem k60 : (Tryz.prog.funcs[123]?).any (okF Tryz.prog fm j1q) = true := by kernel_rfl
theorem k61 : (Tryz.prog.funcs[124]?).any (okF Tryz.prog fm j2o) = true := by kernel_rfl
theorem k51 : (Tryz.prog.funcs[125]?).any (okF Tryz.prog fm j1u) = true := by kernel_rfl
theorem k56 : (Tryz.prog.funcs[126]?).any (okF Tryz.prog fm j54) = true := by kernel_rfl
theorem k57 : (Tryz.prog.funcs[127]?).any (okF Tryz.prog fm j1h) = true := by kernel_rfl
theorem k58 : (Tryz.prog.funcs[128]?).any (okF Tryz.prog fm j4r) = true := by kernel_rfl
theorem k410 : (Tryz.prog.funcs[129]?).any (okF Tryz.prog fm j5i) = true := by kernel_rfl
theorem k280 : (Tryz.prog.funcs[131]?).any (okF Tryz.prog fm j5k) = true := by kernel_rfl
theorem k64 : (Tryz.prog.funcs[133]?).any (okF Tryz.prog fm j3a) = true := by kernel_rfl
theorem k46 : (Tryz.prog.funcs[134]?).any (okF Tryz.prog fm j4t) = true := by kernel_rfl
theorem k47 : (Tryz.prog.funcs[135]?).any (okF Tryz.prog fm j5j) = true := by kernel_rfl
theorem k417 : (Tryz.prog.funcs[136]?).any (okF Tryz.prog fm j1y) = true := by kernel_rfl
theorem k418 : (Tryz.prog.funcs[137]?).any (okF Tryz.prog fm j2d) = true := by kernel_rfl
theorem k31 : (Tryz.prog.funcs[138]?).any (okF Tryz.prog fm j55) = true := by kernel_rfl
theorem k375 : (Tryz.prog.funcs[139]?).any (okF Tryz.prog fm j37) = true := by kernel_rfl
theorem k351 : (Tryz.prog.funcs[140]?).any (okF Tryz.prog fm j4q) = true := by kernel_rfl
theorem k364 : (Tryz.prog.funcs[141]?).any (okF Tryz.prog fm j2z) = true := by kernel_rfl
theorem k449 : (Tryz.prog.funcs[142]?).any (okF Tryz.prog fm j5e) = true := by kernel_rfl
theorem k445 : (Tryz.prog.funcs[143]?).any (okF Tryz.prog fm j3g) = true := by kernel_rfl
theorem k65 : (Tryz.prog.funcs[144]?).any (okF Tryz.prog fm j1m) = true := by kernel_rfl
theorem k66 : (Tryz.prog.funcs[145]?).any (okF Tryz.prog fm j3x) = true := by kernel_rfl
theorem k68 : (Tryz.prog.funcs[146]?).any (okF Tryz.prog fm j6q) = true := by kernel_rfl
theorem k304 : (Tryz.prog.funcs[147]?).any (okF Tryz.prog fm j5m) = true := by kernel_rfl
theorem k458 : (Tryz.prog.funcs[148]?).any (okF Tryz.prog fm j1z) = true := by kernel_rfl
theorem k459 : (Tryz.prog.funcs[149]?).any (okF Tryz.prog fm j1c) = true := by kernel_rfl
theorem k460 : (Tryz.prog.funcs[150]?).any (okF Tryz.prog fm j20) = true := by kernel_rfl
theorem k461 : (Tryz.prog.funcs[151]?).any (okF Tryz.prog fm j1d) = true := by kernel_rfl
theorem k406 : (Tryz.prog.funcs[152]?).any (okF Tryz.prog fm j15) = true := by kernel_rfl
theorem k279 : (Tryz.prog.funcs[153]?).any (okF Tryz.prog fm j5h) = true := by kernel_rfl
def tab : List (Nat × F) := [(121, j4v), (128, j8j), (219, j7j), (239, j3l), (218, j09), (141, j3u), (253, j1p), (202, j05), (201, j04), (189, j1i), (187, j4c), (186, j38), (254, j1l), (200, j2q), (199, j2n), (268, j2c), (269, j5l), (266, j4a), (318, j4x), (264, j6o), (288, j3h), (332, j52), (316, j3t), (63, j0t), (59, j4d), (357, j6r), (333, j4z), (308, j3w), (358, j2p), (287, j5o), (137, j29), (293, j2f), (39, j3k), (30, j5w), (267, j3v), (292, j4h), (310, j4w), (35, j46), (335, j40), (277, j7k), (291, j25), (319, j33), (334, j5f), (289, j3s), (321, j39), (320, j3r), (331, j35), (336, j3n), (366, j1o), (378, j2t), (379, j2e), (42, j3z), (285, j1v), (41, j6p), (350, j5d), (69, j4u), (70, j0p), (50, j5q), (403, j3y), (405, j0z), (376, j5n), (391, j24), (392, j23), (384, j0s), (422, j34), (423, j14), (368, j4i), (424, j2k), (363, j3e), (425, j21), (54, j4b), (386, j4y), (385, j3d), (377, j22), (276, j0w), (397, j53), (265, j5g), (67, j4g), (399, j5p), (400, j3j), (398, j4s), (62, j56), (427, j3f), (367, j36), (412, j2u), (428, j28), (413, j3i), (60, j1q), (61, j2o), (51, j1u), (56, j54), (57, j1h), (58, j4r), (410, j5i), (280, j5k), (64, j3a), (46, j4t), (47, j5j), (417, j1y), (418, j2d), (31, j55), (375, j37), (351, j4q), (364, j2z), (449, j5e), (445, j3g), (65, j1m), (66, j3x), (68, j6q), (304, j5m), (458, j1z), (459, j1c), (460, j20), (461, j1d), (406, j15), (279, j5h)]
def pg : Pg := { fn := fun f => (tab.find? fun x => x.1 == f).map (·.2) }
theorem y1e : ∀ x, x ∈ tab → (Tryz.prog.funcs[fm x.1]?).any (okF Tryz.prog fm x.2) = true := by
 intro x hx
 unfold tab at hx
 simp only [List.mem_cons, List.not_mem_nil, or_false] at hx
 rcases hx with rfl | rfl | rfl | rfl | rfl | rfl | rfl | rfl | rfl | rfl | rfl | rfl | rfl | rfl | rfl | rfl | rfl | rfl | rfl | rfl | rfl | rfl | rfl | rfl | rfl | rfl | rfl | rfl | rfl | rfl | rfl | rfl | rfl | rfl | rfl | rfl | rfl | rfl | rfl | rfl | rfl | rfl | rfl | rfl | rfl | rfl | rfl | rfl | rfl | rfl | rfl | rfl | rfl | rfl | rfl | rfl | rfl | rfl | rfl | rfl | rfl | rfl | rfl | rfl | rfl | rfl | rfl | rfl | rfl | rfl | rfl | rfl | rfl | rfl | rfl | rfl | rfl | rfl | rfl | rfl | rfl | rfl | rfl | rfl | rfl | rfl | rfl | rfl | rfl | rfl | rfl | rfl | rfl | rfl | rfl | rfl | rfl | rfl | rfl | rfl | rfl | rfl | rfl | rfl | rfl | rfl | rfl | rfl | rfl | rfl | rfl | rfl | rfl | rfl | rfl | rfl
 · exact k121
 · exact k128
 · exact k219
 · exact k239
 · exact k218
 · exact k141
 · exact k253
 · exact k202
 · exact k201
 · exact k189
 · exact k187
 · exact k186
 · exact k254
 · exact k200
 · exact k199
 · exact k268
 · exact k269
 · exact k266
 · exact k318
 · exact k264
 · exact k288
 · exact k332
 · exact k316
 · exact k63
 · exact k59
 · exact k357
 · exact k333
 · exact k308
 · exact k358
 · exact k287
 · exact k137
 · exact k293
 · exact k39
 · exact k30
 · exact k267
 · exact k292
 · exact k310
 · exact k35
 · exact k335
 · exact k277
 · exact k291
 · exact k319
 · exact k334
 · exact k289
 · exact k321
 · exact k320
 · exact k331
 · exact k336
 · exact k366
 · exact k378
 · exact k379
 · exact k42
 · exact k285
 · exact k41
 · exact k350
 · exact k69
 · exact k70
 · exact k50
 · exact k403
 · exact k405
 · exact k376
 · exact k391
 · exact k392
 · exact k384
 · exact k422
 · exact k423
 · exact k368
 · exact k424
 · exact k363
 · exact k425
 · exact k54
 · exact k386
 · exact k385
 · exact k377
 · exact k276
 · exact k397
 · exact k265
 · exact k67
 · exact k399
 · exact k400
 · exact k398
 · exact k62
 · exact k427
 · exact k367
 · exact k412
 · exact k428
 · exact k413
 · exact k60
 · exact k61
 · exact k51
 · exact k56
 · exact k57
 · exact k58
 · exact k410
 · exact k280
 · exact k64
 · exact k46
 · exact k47
 · exact k417
 · exact k418
 · exact k31
 · exact k375
 · exact k351
 · exact k364
 · exact k449
 · exact k445
 · exact k65
 · exact k66
 · exact k68
 · exact k304
 · exact k458
 · exact k459
 · exact k460
 · exact k461
 · exact k406
 · exact k279
theorem follows : Tryz.prog.follows .mixedOrders = true := by kernel_rfl
theorem w7p : ∀ f F, pg.fn f = some F → ∃ fn, Tryz.prog.funcs[fm f]? = some fn ∧ okF Tryz.prog fm F fn = true := by
 intro f F h
 simp only [pg, Option.map_eq_some_iff] at h
 obtain ⟨x, h1, rfl⟩ := h
 have hm := List.mem_of_find?_eq_some h1
 have he := List.find?_some h1
 simp only [beq_iff_eq] at he
 have := y1e x hm
 rw [he] at this
 rw [Option.any_eq_true] at this
 exact this
theorem pact {f : Nat} {args args' : List T} {r : T} (h : Go.Mch.Call pg f args args' r) : Pact Tryz.prog fm f args args' r :=
 sound follows (fun _ _ _ _ h => False.elim h) w7p h
end Go.Proofs.YtpaklggigidikaaGreat.Tie
