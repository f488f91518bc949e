/- The compact code of the functions is this seat's program's: what the machine calls good, the program does. -/
import Derived.Test.YtpaklggigidikaaGreatRows
import Derived.KernelRfl
import Derived.Test.YtpaklggigidikaaGreatM4
import Derived.Test.YtpaklggigidikaaGreatYeA
import Derived.Test.YtpaklggigidikaaGreatYeB
import Derived.Test.YtpaklggigidikaaGreatYeC
import Derived.Test.YtpaklggigidikaaGreatYeD
import Derived.Test.YtpaklggigidikaaGreatYeE
import Derived.Test.YtpaklggigidikaaGreatYeG
namespace Go.Proofs.YtpaklggigidikaaGreat.Tie
open Go.Mch
def fmL : List Nat := [0, 0, 0, 0, 0, 0, 0, 0, 0, 0, 0, 0, 0, 0, 0, 0, 0, 0, 0, 0, 0, 0, 0, 0, 0, 0, 0, 0, 0, 0, 62, 138, 0, 0, 0, 68, 108, 0, 0, 60, 0, 85, 82, 0, 0, 0, 134, 135, 0, 0, 92, 125, 0, 0, 105, 0, 126, 127, 128, 51, 123, 124, 117, 48, 133, 144, 145, 113, 146, 89, 90, 0, 0, 0, 0, 0, 0, 0, 0, 0, 0, 0, 0, 0, 0, 0, 0, 0, 0, 0, 0, 0, 0, 0, 0, 0, 0, 0, 0, 0, 0, 0, 0, 0, 0, 0, 0, 0, 0, 0, 0, 0, 0, 0, 0, 0, 0, 0, 0, 0, 4, 0, 0, 0, 0, 0, 0, 26, 6, 0, 0, 0, 0, 0, 0, 25, 0, 0, 0, 0, 0, 24, 0, 0, 0, 0, 0, 0, 0, 0, 0, 0, 0, 0, 0, 0, 0, 0, 0, 0, 0, 0, 0, 0, 0, 0, 0, 0, 0, 0, 0, 0, 0, 0, 0, 0, 0, 0, 0, 0, 0, 0, 0, 0, 0, 0, 0, 0, 0, 0, 0, 0, 0, 0, 0, 0, 0, 23, 22, 0, 0, 0, 0, 0, 0, 21, 20, 0, 0, 0, 0, 0, 0, 0, 0, 0, 0, 0, 0, 14, 0, 0, 0, 0, 0, 0, 0, 0, 0, 0, 0, 0, 0, 0, 0, 0, 0, 0, 0, 0, 0, 0, 0, 0, 0, 0, 0, 0, 0, 0, 0, 0, 19, 0, 0, 0, 0, 0, 0, 0, 0, 0, 0, 0, 42, 112, 38, 65, 36, 37, 0, 49, 0, 88, 0, 64, 0, 0, 0, 153, 131, 0, 0, 0, 0, 83, 0, 0, 44, 0, 40, 0, 66, 59, 0, 0, 0, 0, 0, 43, 47, 39, 0, 0, 147, 0, 0, 0, 0, 0, 0, 0, 0, 0, 0, 0, 0, 0, 0, 0, 0, 0, 0, 0, 0, 0, 0, 0, 0, 63, 61, 0, 0, 0, 73, 69, 78, 0, 0, 0, 0, 0, 0, 0, 0, 0, 0, 0, 0, 0, 86, 140, 0, 0, 0, 0, 0, 0, 0, 0, 0, 0, 0, 103, 141, 0, 79, 119, 101, 0, 0, 58, 0, 0, 0, 139, 95, 109, 80, 81, 0, 91, 0, 0, 98, 107, 106, 87, 84, 0, 0, 0, 0, 0, 0, 0, 0, 0, 116, 0, 0, 0, 0, 0, 0, 0, 152, 0, 0, 0, 129, 0, 120, 122, 0, 0, 0, 136, 137, 0, 0, 0, 99, 100, 102, 104, 0, 118, 121, 132, 130, 0, 0, 0, 0, 0, 0, 0, 0, 0, 0, 0, 0, 0, 0, 143, 0, 0, 0, 142, 0, 0, 0, 0, 0, 0, 0, 0, 148, 149, 150, 151]
def fm (k : Nat) : Nat := fmL.getD k 0
theorem k120 : (Tryz.prog.funcs[4]?).any (okF Tryz.prog fm j4r) = true := by kernel_rfl
theorem k128 : (Tryz.prog.funcs[6]?).any (okF Tryz.prog fm j7s) = true := by kernel_rfl
theorem k219 : (Tryz.prog.funcs[14]?).any (okF Tryz.prog fm j6z) = true := by kernel_rfl
theorem k252 : (Tryz.prog.funcs[19]?).any (okF Tryz.prog fm j1o) = true := by kernel_rfl
theorem k206 : (Tryz.prog.funcs[20]?).any (okF Tryz.prog fm j04) = true := by kernel_rfl
theorem k205 : (Tryz.prog.funcs[21]?).any (okF Tryz.prog fm j03) = true := by kernel_rfl
theorem k198 : (Tryz.prog.funcs[22]?).any (okF Tryz.prog fm j1i) = true := by kernel_rfl
theorem k197 : (Tryz.prog.funcs[23]?).any (okF Tryz.prog fm j1h) = true := by kernel_rfl
theorem k141 : (Tryz.prog.funcs[24]?).any (okF Tryz.prog fm j3u) = true := by kernel_rfl
theorem k135 : (Tryz.prog.funcs[25]?).any (okF Tryz.prog fm j18) = true := by kernel_rfl
theorem k127 : (Tryz.prog.funcs[26]?).any (okF Tryz.prog fm j3p) = true := by kernel_rfl
theorem k268 : (Tryz.prog.funcs[36]?).any (okF Tryz.prog fm j2e) = true := by kernel_rfl
theorem k269 : (Tryz.prog.funcs[37]?).any (okF Tryz.prog fm j5b) = true := by kernel_rfl
theorem k266 : (Tryz.prog.funcs[38]?).any (okF Tryz.prog fm j38) = true := by kernel_rfl
theorem k301 : (Tryz.prog.funcs[39]?).any (okF Tryz.prog fm j2i) = true := by kernel_rfl
theorem k290 : (Tryz.prog.funcs[40]?).any (okF Tryz.prog fm j1c) = true := by kernel_rfl
theorem k264 : (Tryz.prog.funcs[42]?).any (okF Tryz.prog fm j59) = true := by kernel_rfl
theorem k299 : (Tryz.prog.funcs[43]?).any (okF Tryz.prog fm j32) = true := by kernel_rfl
theorem k288 : (Tryz.prog.funcs[44]?).any (okF Tryz.prog fm j3h) = true := by kernel_rfl
theorem k300 : (Tryz.prog.funcs[47]?).any (okF Tryz.prog fm j1s) = true := by kernel_rfl
theorem k63 : (Tryz.prog.funcs[48]?).any (okF Tryz.prog fm j0t) = true := by kernel_rfl
theorem k271 : (Tryz.prog.funcs[49]?).any (okF Tryz.prog fm j3j) = true := by kernel_rfl
theorem k59 : (Tryz.prog.funcs[51]?).any (okF Tryz.prog fm j4a) = true := by kernel_rfl
theorem k371 : (Tryz.prog.funcs[58]?).any (okF Tryz.prog fm j2t) = true := by kernel_rfl
theorem k293 : (Tryz.prog.funcs[59]?).any (okF Tryz.prog fm j2h) = true := by kernel_rfl
theorem k39 : (Tryz.prog.funcs[60]?).any (okF Tryz.prog fm j3m) = true := by kernel_rfl
theorem k330 : (Tryz.prog.funcs[61]?).any (okF Tryz.prog fm j3l) = true := by kernel_rfl
theorem k30 : (Tryz.prog.funcs[62]?).any (okF Tryz.prog fm j5k) = true := by kernel_rfl
theorem k329 : (Tryz.prog.funcs[63]?).any (okF Tryz.prog fm j33) = true := by kernel_rfl
theorem k275 : (Tryz.prog.funcs[64]?).any (okF Tryz.prog fm j3x) = true := by kernel_rfl
theorem k267 : (Tryz.prog.funcs[65]?).any (okF Tryz.prog fm j3v) = true := by kernel_rfl
theorem k292 : (Tryz.prog.funcs[66]?).any (okF Tryz.prog fm j4d) = true := by kernel_rfl
theorem k35 : (Tryz.prog.funcs[68]?).any (okF Tryz.prog fm j4x) = true := by kernel_rfl
theorem k335 : (Tryz.prog.funcs[69]?).any (okF Tryz.prog fm j4t) = true := by kernel_rfl
theorem k334 : (Tryz.prog.funcs[73]?).any (okF Tryz.prog fm j45) = true := by kernel_rfl
theorem k336 : (Tryz.prog.funcs[78]?).any (okF Tryz.prog fm j3o) = true := by kernel_rfl
theorem k366 : (Tryz.prog.funcs[79]?).any (okF Tryz.prog fm j1r) = true := by kernel_rfl
theorem k378 : (Tryz.prog.funcs[80]?).any (okF Tryz.prog fm j2u) = true := by kernel_rfl
theorem k379 : (Tryz.prog.funcs[81]?).any (okF Tryz.prog fm j2g) = true := by kernel_rfl
theorem k42 : (Tryz.prog.funcs[82]?).any (okF Tryz.prog fm j3y) = true := by kernel_rfl
theorem k285 : (Tryz.prog.funcs[83]?).any (okF Tryz.prog fm j1w) = true := by kernel_rfl
theorem k388 : (Tryz.prog.funcs[84]?).any (okF Tryz.prog fm j3k) = true := by kernel_rfl
theorem k41 : (Tryz.prog.funcs[85]?).any (okF Tryz.prog fm j6a) = true := by kernel_rfl
theorem k350 : (Tryz.prog.funcs[86]?).any (okF Tryz.prog fm j43) = true := by kernel_rfl
theorem k387 : (Tryz.prog.funcs[87]?).any (okF Tryz.prog fm j36) = true := by kernel_rfl
theorem k273 : (Tryz.prog.funcs[88]?).any (okF Tryz.prog fm j42) = true := by kernel_rfl
theorem k69 : (Tryz.prog.funcs[89]?).any (okF Tryz.prog fm j4q) = true := by kernel_rfl
theorem k70 : (Tryz.prog.funcs[90]?).any (okF Tryz.prog fm j0p) = true := by kernel_rfl
theorem k381 : (Tryz.prog.funcs[91]?).any (okF Tryz.prog fm j0w) = true := by kernel_rfl
theorem k50 : (Tryz.prog.funcs[92]?).any (okF Tryz.prog fm j5e) = true := by kernel_rfl
theorem k376 : (Tryz.prog.funcs[95]?).any (okF Tryz.prog fm j5d) = true := by kernel_rfl
theorem k384 : (Tryz.prog.funcs[98]?).any (okF Tryz.prog fm j0s) = true := by kernel_rfl
theorem k422 : (Tryz.prog.funcs[99]?).any (okF Tryz.prog fm j34) = true := by kernel_rfl
theorem k423 : (Tryz.prog.funcs[100]?).any (okF Tryz.prog fm j16) = true := by kernel_rfl
theorem k368 : (Tryz.prog.funcs[101]?).any (okF Tryz.prog fm j4e) = true := by kernel_rfl
theorem k424 : (Tryz.prog.funcs[102]?).any (okF Tryz.prog fm j2m) = true := by kernel_rfl
theorem k363 : (Tryz.prog.funcs[103]?).any (okF Tryz.prog fm j3e) = true := by kernel_rfl
theorem k425 : (Tryz.prog.funcs[104]?).any (okF Tryz.prog fm j24) = true := by kernel_rfl
theorem k54 : (Tryz.prog.funcs[105]?).any (okF Tryz.prog fm j39) = true := by kernel_rfl
theorem k386 : (Tryz.prog.funcs[106]?).any (okF Tryz.prog fm j4s) = true := by kernel_rfl
theorem k385 : (Tryz.prog.funcs[107]?).any (okF Tryz.prog fm j3d) = true := by kernel_rfl
theorem k36 : (Tryz.prog.funcs[108]?).any (okF Tryz.prog fm j08) = true := by kernel_rfl
theorem k377 : (Tryz.prog.funcs[109]?).any (okF Tryz.prog fm j25) = true := by kernel_rfl
theorem k265 : (Tryz.prog.funcs[112]?).any (okF Tryz.prog fm j46) = true := by kernel_rfl
theorem k67 : (Tryz.prog.funcs[113]?).any (okF Tryz.prog fm j4c) = true := by kernel_rfl
theorem k398 : (Tryz.prog.funcs[116]?).any (okF Tryz.prog fm j4n) = true := by kernel_rfl
theorem k62 : (Tryz.prog.funcs[117]?).any (okF Tryz.prog fm j5v) = true := by kernel_rfl
theorem k427 : (Tryz.prog.funcs[118]?).any (okF Tryz.prog fm j3f) = true := by kernel_rfl
theorem k367 : (Tryz.prog.funcs[119]?).any (okF Tryz.prog fm j35) = true := by kernel_rfl
theorem k412 : (Tryz.prog.funcs[120]?).any (okF Tryz.prog fm j2v) = true := by kernel_rfl
theorem k428 : (Tryz.prog.funcs[121]?).any (okF Tryz.prog fm j29) = true := by kernel_rfl
theorem k413 : (Tryz.prog.funcs[122]?).any (okF Tryz.prog fm j3i) = true := by kernel_rfl
theorem k60 : (Tryz.prog.funcs[123]?).any (okF Tryz.prog fm j1t) = true := by kernel_rfl
theorem k61 : (Tryz.prog.funcs[124]?).any (okF Tryz.prog fm j2p) = true := by kernel_rfl
theorem k51 : (Tryz.prog.funcs[125]?).any (okF Tryz.prog fm j1v) = true := by kernel_rfl
theorem k56 : (Tryz.prog.funcs[126]?).any (okF Tryz.prog fm j5t) = true := by kernel_rfl
theorem k57 : (Tryz.prog.funcs[127]?).any (okF Tryz.prog fm j1m) = true := by kernel_rfl
theorem k58 : (Tryz.prog.funcs[128]?).any (okF Tryz.prog fm j4m) = true := by kernel_rfl
theorem k410 : (Tryz.prog.funcs[129]?).any (okF Tryz.prog fm j48) = true := by kernel_rfl
theorem k430 : (Tryz.prog.funcs[130]?).any (okF Tryz.prog fm j4p) = true := by kernel_rfl
theorem k280 : (Tryz.prog.funcs[131]?).any (okF Tryz.prog fm j5a) = true := by kernel_rfl
theorem k429 : (Tryz.prog.funcs[132]?).any (okF Tryz.prog fm j0y) = true := by kernel_rfl
theorem k64 : (Tryz.prog.funcs[133]?).any (okF Tryz.prog fm j3a) = true := by kernel_rfl
theorem k46 : (Tryz.prog.funcs[134]?).any (okF Tryz.prog fm j4o) = true := by kernel_rfl
theorem k47 : (Tryz.prog.funcs[135]?).any (okF Tryz.prog fm j49) = true := by kernel_rfl
theorem k417 : (Tryz.prog.funcs[136]?).any (okF Tryz.prog fm j14) = true := by kernel_rfl
theorem k418 : (Tryz.prog.funcs[137]?).any (okF Tryz.prog fm j2f) = true := by kernel_rfl
theorem k31 : (Tryz.prog.funcs[138]?).any (okF Tryz.prog fm j5u) = true := by kernel_rfl
theorem k375 : (Tryz.prog.funcs[139]?).any (okF Tryz.prog fm j37) = true := by kernel_rfl
theorem k351 : (Tryz.prog.funcs[140]?).any (okF Tryz.prog fm j4l) = true := by kernel_rfl
theorem k364 : (Tryz.prog.funcs[141]?).any (okF Tryz.prog fm j22) = true := by kernel_rfl
theorem k449 : (Tryz.prog.funcs[142]?).any (okF Tryz.prog fm j44) = true := by kernel_rfl
theorem k445 : (Tryz.prog.funcs[143]?).any (okF Tryz.prog fm j3g) = true := by kernel_rfl
theorem k65 : (Tryz.prog.funcs[144]?).any (okF Tryz.prog fm j1p) = true := by kernel_rfl
theorem k66 : (Tryz.prog.funcs[145]?).any (okF Tryz.prog fm j3w) = true := by kernel_rfl
theorem k68 : (Tryz.prog.funcs[146]?).any (okF Tryz.prog fm j6b) = true := by kernel_rfl
theorem k304 : (Tryz.prog.funcs[147]?).any (okF Tryz.prog fm j5c) = true := by kernel_rfl
theorem k458 : (Tryz.prog.funcs[148]?).any (okF Tryz.prog fm j15) = true := by kernel_rfl
theorem k459 : (Tryz.prog.funcs[149]?).any (okF Tryz.prog fm j1g) = true := by kernel_rfl
theorem k460 : (Tryz.prog.funcs[150]?).any (okF Tryz.prog fm j23) = true := by kernel_rfl
theorem k461 : (Tryz.prog.funcs[151]?).any (okF Tryz.prog fm j1j) = true := by kernel_rfl
theorem k406 : (Tryz.prog.funcs[152]?).any (okF Tryz.prog fm j17) = true := by kernel_rfl
theorem k279 : (Tryz.prog.funcs[153]?).any (okF Tryz.prog fm j47) = true := by kernel_rfl
def tab : List (Nat × F) := [(120, j4r), (128, j7s), (219, j6z), (252, j1o), (206, j04), (205, j03), (198, j1i), (197, j1h), (141, j3u), (135, j18), (127, j3p), (268, j2e), (269, j5b), (266, j38), (301, j2i), (290, j1c), (264, j59), (299, j32), (288, j3h), (300, j1s), (63, j0t), (271, j3j), (59, j4a), (371, j2t), (293, j2h), (39, j3m), (330, j3l), (30, j5k), (329, j33), (275, j3x), (267, j3v), (292, j4d), (35, j4x), (335, j4t), (334, j45), (336, j3o), (366, j1r), (378, j2u), (379, j2g), (42, j3y), (285, j1w), (388, j3k), (41, j6a), (350, j43), (387, j36), (273, j42), (69, j4q), (70, j0p), (381, j0w), (50, j5e), (376, j5d), (384, j0s), (422, j34), (423, j16), (368, j4e), (424, j2m), (363, j3e), (425, j24), (54, j39), (386, j4s), (385, j3d), (36, j08), (377, j25), (265, j46), (67, j4c), (398, j4n), (62, j5v), (427, j3f), (367, j35), (412, j2v), (428, j29), (413, j3i), (60, j1t), (61, j2p), (51, j1v), (56, j5t), (57, j1m), (58, j4m), (410, j48), (430, j4p), (280, j5a), (429, j0y), (64, j3a), (46, j4o), (47, j49), (417, j14), (418, j2f), (31, j5u), (375, j37), (351, j4l), (364, j22), (449, j44), (445, j3g), (65, j1p), (66, j3w), (68, j6b), (304, j5c), (458, j15), (459, j1g), (460, j23), (461, j1j), (406, j17), (279, j47)]
def pg : Pg := { fn := fun f => (tab.find? fun x => x.1 == f).map (·.2) }
theorem all_ok : ∀ x, x ∈ tab → (Tryz.prog.funcs[fm x.1]?).any (okF Tryz.prog fm x.2) = true := by
 intro x hx
 unfold tab at hx
 simp only [List.mem_cons, List.not_mem_nil, or_false] at hx
 rcases hx with rfl | rfl | rfl | rfl | rfl | rfl | rfl | rfl | rfl | rfl | rfl | rfl | rfl | rfl | rfl | rfl | rfl | rfl | rfl | rfl | rfl | rfl | rfl | rfl | rfl | rfl | rfl | rfl | rfl | rfl | rfl | rfl | rfl | rfl | rfl | rfl | rfl | rfl | rfl | rfl | rfl | rfl | rfl | rfl | rfl | rfl | rfl | rfl | rfl | rfl | rfl | rfl | rfl | rfl | rfl | rfl | rfl | rfl | rfl | rfl | rfl | rfl | rfl | rfl | rfl | rfl | rfl | rfl | rfl | rfl | rfl | rfl | rfl | rfl | rfl | rfl | rfl | rfl | rfl | rfl | rfl | rfl | rfl | rfl | rfl | rfl | rfl | rfl | rfl | rfl | rfl | rfl | rfl | rfl | rfl | rfl | rfl | rfl | rfl | rfl | rfl | rfl | rfl
 · exact k120
 · exact k128
 · exact k219
 · exact k252
 · exact k206
 · exact k205
 · exact k198
 · exact k197
 · exact k141
 · exact k135
 · exact k127
 · exact k268
 · exact k269
 · exact k266
 · exact k301
 · exact k290
 · exact k264
 · exact k299
 · exact k288
 · exact k300
 · exact k63
 · exact k271
 · exact k59
 · exact k371
 · exact k293
 · exact k39
 · exact k330
 · exact k30
 · exact k329
 · exact k275
 · exact k267
 · exact k292
 · exact k35
 · exact k335
 · exact k334
 · exact k336
 · exact k366
 · exact k378
 · exact k379
 · exact k42
 · exact k285
 · exact k388
 · exact k41
 · exact k350
 · exact k387
 · exact k273
 · exact k69
 · exact k70
 · exact k381
 · exact k50
 · exact k376
 · exact k384
 · exact k422
 · exact k423
 · exact k368
 · exact k424
 · exact k363
 · exact k425
 · exact k54
 · exact k386
 · exact k385
 · exact k36
 · exact k377
 · exact k265
 · exact k67
 · exact k398
 · exact k62
 · exact k427
 · exact k367
 · exact k412
 · exact k428
 · exact k413
 · exact k60
 · exact k61
 · exact k51
 · exact k56
 · exact k57
 · exact k58
 · exact k410
 · exact k430
 · exact k280
 · exact k429
 · exact k64
 · exact k46
 · exact k47
 · exact k417
 · exact k418
 · exact k31
 · exact k375
 · exact k351
 · exact k364
 · exact k449
 · exact k445
 · exact k65
 · exact k66
 · exact k68
 · exact k304
 · exact k458
 · exact k459
 · exact k460
 · exact k461
 · exact k406
 · exact k279
theorem follows : Tryz.prog.follows .mixedOrders = true := by kernel_rfl
theorem prog_ok : ∀ f F, pg.fn f = some F → ∃ fn, Tryz.prog.funcs[fm f]? = some fn ∧ okF Tryz.prog fm F fn = true := by
 intro f F h
 simp only [pg, Option.map_eq_some_iff] at h
 obtain ⟨x, h1, rfl⟩ := h
 have hm := List.mem_of_find?_eq_some h1
 have he := List.find?_some h1
 simp only [beq_iff_eq] at he
 have := all_ok x hm
 rw [he] at this
 rw [Option.any_eq_true] at this
 exact this
theorem pact {f : Nat} {args args' : List T} {r : T} (h : Go.Mch.Call pg f args args' r) : Pact Tryz.prog fm f args args' r :=
 sound follows (fun _ _ _ _ h => False.elim h) prog_ok h
end Go.Proofs.YtpaklggigidikaaGreat.Tie
