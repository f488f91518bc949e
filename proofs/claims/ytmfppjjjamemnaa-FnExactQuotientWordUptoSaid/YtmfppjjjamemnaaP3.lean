/- Our texts YhK YhB YkF YkG YkH YkI YiS, end to end. -/
import Derived.Test.YtmfppjjjamemnaaP1
import Derived.Test.YtmfppjjjamemnaaP2
/- The runs of the exact laws, by their shapes: sol,ints,ints-ints,int. -/
namespace Go.Mch
/-- The laws of this shape: sol, ints, ints to ints, int. -/
def lw_wwI (a b : Nat) : F where
  np := 3
  rs := [.t 6]
  body :=
    (.seq
    (.region none [ ⟨some 3, none, .box (.t 0)⟩, ⟨some 6, none, .mv (.c (.bool false))⟩] [1, 2, 3]) (.seq (.seq
    (.region none [ ⟨some 20, none, .mv (.t 1)⟩, ⟨some 21, none, .len (.t 20)⟩, ⟨some 22, none, .bin .gtr (.t 21) (.c (.int .i64 1048576))⟩] [1, 2, 3, 22]) (.cond (.t 22) (.seq
    (.region none [ ⟨some 6, none, .mv (.c (.bool true))⟩] [6]) .ret) .skip)) (.seq (.seq
    (.region none [ ⟨some 23, none, .mv (.t 2)⟩, ⟨some 24, none, .len (.t 23)⟩, ⟨some 25, none, .bin .gtr (.t 24) (.c (.int .i64 1048576))⟩] [1, 2, 3, 25]) (.cond (.t 25) (.seq
    (.region none [ ⟨some 6, none, .mv (.c (.bool true))⟩] [6]) .ret) .skip)) (.seq
    (.region none [ ⟨some 7, none, .mv (.c (.int .i64 1048576))⟩] [1, 2, 3, 7]) (.seq
    (.region none [ ⟨some 26, none, .ld (some 2) (.t 3)⟩, ⟨some 27, none, .mv (.t 7)⟩, ⟨some 28, none, .call (.f 14) [((.t 26), .r), ((.t 27), .r)]⟩, ⟨some 7, none, .mv (.t 28)⟩] [1, 2, 3, 7]) (.seq (.seq
    (.region none [ ⟨some 29, none, .mv (.t 7)⟩, ⟨some 30, none, .bin .lss (.t 29) (.c (.int .i64 0))⟩] [1, 2, 3, 30]) (.cond (.t 30) (.seq
    (.region none [ ⟨some 6, none, .mv (.c (.bool true))⟩] [6]) .ret) .skip)) (.seq
    (.region none [ ⟨some 32, none, .ld (some 2) (.t 3)⟩, ⟨some 33, none, .call (.f 16) [((.t 32), .r)]⟩, ⟨some 34, none, .mv (.t 1)⟩, ⟨some 35, none, .call (.f 7) [((.t 34), .r)]⟩, ⟨some 36, none, .mv (.t 2)⟩, ⟨some 37, none, .call (.f 7) [((.t 36), .r)]⟩, ⟨some 38, none, .call (.f a) [((.t 33), .r), ((.t 35), .r), ((.t 37), .r)]⟩, ⟨some 31, none, .mv (.t 38)⟩, ⟨some 39, none, .ext (.t 31) 0⟩, ⟨some 40, none, .ext (.t 31) 1⟩, ⟨some 8, none, .asg (.t 39)⟩, ⟨some 9, none, .mv (.t 40)⟩] [1, 2, 3, 8, 9]) (.seq
    (.region none [ ⟨some 41, none, .ld (some 2) (.t 3)⟩, ⟨some 42, none, .call (.f 16) [((.t 41), .r)]⟩, ⟨some 10, none, .alloc [(.slice none 0 0), (.slice none 0 0)]⟩, ⟨none, none, .st (some 2) (.t 10) (.t 42)⟩] [1, 2, 3, 8, 9, 10]) (.seq
    (.region none [ ⟨some 43, none, .mv (.t 1)⟩, ⟨some 44, none, .call (.f 7) [((.t 43), .r)]⟩, ⟨some 11, none, .asg (.t 44)⟩] [1, 2, 3, 8, 9, 10, 11]) (.seq
    (.region none [ ⟨some 45, none, .mv (.t 2)⟩, ⟨some 46, none, .call (.f 7) [((.t 45), .r)]⟩, ⟨some 12, none, .asg (.t 46)⟩] [1, 2, 3, 8, 9, 10, 11, 12]) (.seq
    (.region none [ ⟨some 48, none, .ld (some 2) (.t 10)⟩, ⟨some 49, none, .mv (.t 11)⟩, ⟨some 50, none, .mv (.t 12)⟩, ⟨some 51, none, .call (.f b) [((.t 48), .r), ((.t 49), .r), ((.t 50), .r)]⟩, ⟨some 47, none, .mv (.t 51)⟩, ⟨some 52, none, .ext (.t 47) 0⟩, ⟨some 53, none, .ext (.t 47) 1⟩, ⟨some 13, none, .asg (.t 52)⟩, ⟨some 14, none, .mv (.t 53)⟩] [1, 2, 3, 8, 9, 10, 11, 12, 13, 14]) (.seq (.seq
    (.region none [ ⟨some 54, none, .mv (.t 13)⟩, ⟨some 55, none, .mv (.t 8)⟩, ⟨some 56, none, .call (.f 9) [((.t 54), .r), ((.t 55), .r)]⟩, ⟨some 57, none, .un .not (.t 56)⟩, ⟨some 58, none, .mv (.t 57)⟩, ⟨some 59, (some (58, false)), .mv (.t 14)⟩, ⟨some 60, (some (58, false)), .mv (.t 9)⟩, ⟨some 61, (some (58, false)), .bin .neq (.t 59) (.t 60)⟩, ⟨some 62, none, .pick (.t 58) (.c (.bool true)) (.t 61)⟩] [1, 2, 3, 8, 9, 10, 11, 12, 13, 14, 62]) (.cond (.t 62) (.seq
    (.region none [ ⟨some 6, none, .mv (.c (.bool false))⟩] [6]) .ret) .skip)) (.seq (.seq
    (.region (some [63, 64, 65]) [ ⟨some 63, none, .ld (some 2) (.t 10)⟩, ⟨some 64, none, .ld (some 2) (.t 3)⟩, ⟨some 65, none, .call (.f 16) [((.t 64), .r)]⟩, ⟨some 66, none, .call (.f 18) [((.t 63), .r), ((.t 65), .r)]⟩, ⟨some 67, none, .un .not (.t 66)⟩] [1, 2, 3, 8, 9, 10, 11, 12, 13, 14, 67]) (.cond (.t 67) (.seq
    (.region none [ ⟨some 6, none, .mv (.c (.bool false))⟩] [6]) .ret) .skip)) (.seq (.seq
    (.region none [ ⟨some 68, none, .mv (.t 11)⟩, ⟨some 69, none, .mv (.t 1)⟩, ⟨some 70, none, .call (.f 7) [((.t 69), .r)]⟩, ⟨some 71, none, .call (.f 9) [((.t 68), .r), ((.t 70), .r)]⟩, ⟨some 72, none, .un .not (.t 71)⟩] [1, 2, 3, 8, 9, 10, 11, 12, 13, 14, 72]) (.cond (.t 72) (.seq
    (.region none [ ⟨some 6, none, .mv (.c (.bool false))⟩] [6]) .ret) .skip)) (.seq (.seq
    (.region none [ ⟨some 73, none, .mv (.t 12)⟩, ⟨some 74, none, .mv (.t 2)⟩, ⟨some 75, none, .call (.f 7) [((.t 74), .r)]⟩, ⟨some 76, none, .call (.f 9) [((.t 73), .r), ((.t 75), .r)]⟩, ⟨some 77, none, .un .not (.t 76)⟩] [1, 2, 3, 8, 9, 10, 11, 12, 13, 14, 77]) (.cond (.t 77) (.seq
    (.region none [ ⟨some 6, none, .mv (.c (.bool false))⟩] [6]) .ret) .skip)) (.seq
    (.region none [ ⟨some 15, none, .mv (.c (.int .i64 1))⟩] [1, 2, 3, 8, 9, 10, 11, 12, 13, 14, 15]) (.seq
    (.region none [ ⟨some 78, none, .ld (some 2) (.t 10)⟩, ⟨some 79, none, .mv (.t 15)⟩, ⟨some 80, none, .callm (.f 22) [((.t 78), true), ((.t 79), false)] []⟩, ⟨some 15, none, .mv (.t 80)⟩] [1, 2, 3, 8, 9, 11, 12, 13, 14, 15]) (.seq
    (.region none [ ⟨some 81, none, .mv (.t 11)⟩, ⟨some 82, none, .mv (.t 15)⟩, ⟨some 83, none, .callm (.f 12) [((.t 81), true), ((.t 82), false)] []⟩, ⟨some 15, none, .mv (.t 83)⟩] [1, 2, 3, 8, 9, 12, 13, 14, 15]) (.seq
    (.region none [ ⟨some 84, none, .mv (.t 12)⟩, ⟨some 85, none, .mv (.t 15)⟩, ⟨some 86, none, .callm (.f 12) [((.t 84), true), ((.t 85), false)] []⟩, ⟨some 15, none, .mv (.t 86)⟩] [1, 2, 3, 8, 9, 13, 14, 15]) (.seq (.seq
    (.region none [ ⟨some 87, none, .mv (.t 15)⟩, ⟨some 88, none, .bin .lss (.t 87) (.c (.int .i64 0))⟩, ⟨some 89, none, .mv (.t 88)⟩, ⟨some 90, (some (89, false)), .mv (.t 13)⟩, ⟨some 91, (some (89, false)), .mv (.t 8)⟩, ⟨some 92, (some (89, false)), .call (.f 9) [((.t 90), .r), ((.t 91), .r)]⟩, ⟨some 93, (some (89, false)), .un .not (.t 92)⟩, ⟨some 94, none, .pick (.t 89) (.c (.bool true)) (.t 93)⟩, ⟨some 95, none, .mv (.t 94)⟩, ⟨some 96, (some (95, false)), .mv (.t 14)⟩, ⟨some 97, (some (95, false)), .mv (.t 9)⟩, ⟨some 98, (some (95, false)), .bin .neq (.t 96) (.t 97)⟩, ⟨some 99, none, .pick (.t 95) (.c (.bool true)) (.t 98)⟩] [1, 2, 3, 8, 9, 13, 99]) (.cond (.t 99) (.seq
    (.region none [ ⟨some 6, none, .mv (.c (.bool false))⟩] [6]) .ret) .skip)) (.seq
    (.region none [ ⟨some 16, none, .mv (.c (.int .i64 1))⟩] [1, 2, 3, 8, 9, 13, 16]) (.seq
    (.region none [ ⟨some 100, none, .mv (.t 13)⟩, ⟨some 101, none, .mv (.t 16)⟩, ⟨some 102, none, .callm (.f 12) [((.t 100), true), ((.t 101), false)] []⟩, ⟨some 16, none, .mv (.t 102)⟩] [1, 2, 3, 8, 9, 13, 16]) (.seq
    (.region none [ ⟨some 17, none, .mv (.c (.int .i64 1))⟩] [1, 2, 3, 8, 9, 13, 16, 17]) (.seq
    (.region none [ ⟨some 103, none, .mv (.t 13)⟩, ⟨some 104, none, .mv (.t 17)⟩, ⟨some 105, none, .call (.f 13) [((.t 103), .r), ((.t 104), .r)]⟩, ⟨some 17, none, .mv (.t 105)⟩] [1, 2, 3, 8, 9, 13, 16, 17]) (.seq (.seq
    (.region none [ ⟨some 106, none, .mv (.t 17)⟩, ⟨some 107, none, .bin .lss (.t 106) (.c (.int .i64 0))⟩] [1, 2, 3, 8, 9, 13, 16, 17, 107]) (.cond (.t 107) (.seq
    (.region none [ ⟨some 6, none, .mv (.c (.bool false))⟩] [6]) .ret) .skip)) (.seq (.seq
    (.region none [ ⟨some 108, none, .mv (.t 17)⟩, ⟨some 109, none, .mv (.t 16)⟩, ⟨some 110, none, .bin .neq (.t 108) (.t 109)⟩] [1, 2, 3, 8, 9, 13, 16, 110]) (.cond (.t 110) (.seq
    (.region none [ ⟨some 6, none, .mv (.c (.bool false))⟩] [6]) .ret) .skip)) (.seq
    (.region none [ ⟨some 112, none, .ld (some 2) (.t 3)⟩, ⟨some 113, none, .call (.f 16) [((.t 112), .r)]⟩, ⟨some 114, none, .mv (.t 1)⟩, ⟨some 115, none, .call (.f 7) [((.t 114), .r)]⟩, ⟨some 116, none, .mv (.t 2)⟩, ⟨some 117, none, .call (.f 7) [((.t 116), .r)]⟩, ⟨some 118, none, .call (.f b) [((.t 113), .r), ((.t 115), .r), ((.t 117), .r)]⟩, ⟨some 111, none, .mv (.t 118)⟩, ⟨some 119, none, .ext (.t 111) 0⟩, ⟨some 120, none, .ext (.t 111) 1⟩, ⟨some 18, none, .asg (.t 119)⟩, ⟨some 19, none, .mv (.t 120)⟩] [8, 9, 13, 16, 18, 19]) (.seq (.seq
    (.region none [ ⟨some 121, none, .mv (.t 18)⟩, ⟨some 122, none, .mv (.t 8)⟩, ⟨some 123, none, .call (.f 9) [((.t 121), .r), ((.t 122), .r)]⟩, ⟨some 124, none, .un .not (.t 123)⟩, ⟨some 125, none, .mv (.t 124)⟩, ⟨some 126, (some (125, false)), .mv (.t 19)⟩, ⟨some 127, (some (125, false)), .mv (.t 9)⟩, ⟨some 128, (some (125, false)), .bin .neq (.t 126) (.t 127)⟩, ⟨some 129, none, .pick (.t 125) (.c (.bool true)) (.t 128)⟩] [13, 16, 129]) (.cond (.t 129) (.seq
    (.region none [ ⟨some 6, none, .mv (.c (.bool false))⟩] [6]) .ret) .skip)) (.seq
    (.region none [ ⟨some 17, none, .mv (.c (.int .i64 1))⟩] [13, 16, 17]) (.seq
    (.region none [ ⟨some 130, none, .mv (.t 13)⟩, ⟨some 131, none, .mv (.t 17)⟩, ⟨some 132, none, .call (.f 13) [((.t 130), .r), ((.t 131), .r)]⟩, ⟨some 17, none, .mv (.t 132)⟩] [16, 17]) (.seq (.seq
    (.region none [ ⟨some 133, none, .mv (.t 17)⟩, ⟨some 134, none, .bin .lss (.t 133) (.c (.int .i64 0))⟩] [16, 17, 134]) (.cond (.t 134) (.seq
    (.region none [ ⟨some 6, none, .mv (.c (.bool false))⟩] [6]) .ret) .skip)) (.seq (.seq
    (.region none [ ⟨some 135, none, .mv (.t 17)⟩, ⟨some 136, none, .mv (.t 16)⟩, ⟨some 137, none, .bin .neq (.t 135) (.t 136)⟩] [137]) (.cond (.t 137) (.seq
    (.region none [ ⟨some 6, none, .mv (.c (.bool false))⟩] [6]) .ret) .skip)) (.seq
    (.region none [ ⟨some 6, none, .mv (.c (.bool true))⟩] [6]) .ret)))))))))))))))))))))))))))))))))
def S_sh_wwI (pg : Pg) (n : Nat) (R0 : List (List Int) → List (List Int) → List Int → List Int → List Int) (R1 : List (List Int) → List (List Int) → List Int → List Int → Int) : Prop := ∀ (f0 s0 : List (List Int)) (w1 : List Int) (w2 : List Int), fits f0 → fits s0 → w1.length ≤ 1048576 → w2.length ≤ 1048576 → ∃ o0, lso o0 = R0 f0 s0 w1 w2 ∧ Call pg n [sol f0 s0, ix w1, ix w2] [sol f0 s0, ix w1, ix w2] (.tup [ownI o0, I (R1 f0 s0 w1 w2)])
def S_lw_wwI (pg : Pg) (n : Nat) : Prop := ∀ (a0 b0 : Rw (Rw Int)) (c1 : Rw Int) (c2 : Rw Int), small a0 → small b0 → (lst c1).length ≤ 1048576 → (lst c2).length ≤ 1048576 → ∃ args', Call pg n [.agg [rawT a0, rawT b0], rawI c1, rawI c2] args' (B true)
set_option maxRecDepth 20000 in
theorem t_lw_wwI {pg : Pg} {n a b : Nat} {R0 : List (List Int) → List (List Int) → List Int → List Int → List Int} {R1 : List (List Int) → List (List Int) → List Int → List Int → Int} (hp : pg.fn n = some (lw_wwI a b)) (hA : S_sh_wwI pg a R0 R1) (hB : S_sh_wwI pg b R0 R1) (hz0 : ∀ (f0 s0 : List (List Int)) (w1 : List Int) (w2 : List Int), fits f0 → fits s0 → w1.length ≤ 1048576 → w2.length ≤ 1048576 → (R0 f0 s0 w1 w2).length ≤ 1048576) (h14 : S_szSol pg) (h16 : S_toSol pg) (h18 : S_eqSol pg) (h7 : S_toI pg) (h9 : S_eqI pg) (h22 : S_markSol pg) (h12 : S_markI pg) (h13 : S_heldI pg) : S_lw_wwI pg n := by
  intro a0 b0 c1 c2 ha0 hb0 hl1 hl2
  refine ⟨[.agg [rawT a0, rawT b0], rawI c1, rawI c2], Call.intro hp rfl (by simp) ?_⟩
  obtain ⟨r, hr1, hr2, hsz⟩ := h14 a0 b0 1048576 ha0 hb0 (by omega) (by omega)
  have hto0 := h16 a0 b0 ha0 hb0
  have hfa0 := fitsT_of ha0
  have hfb0 := fitsT_of hb0
  generalize hF0 : (lst a0).map lst = F0 at *
  generalize hS0 : (lst b0).map lst = S0 at *
  have hto1 := h7.at c1 hl1
  have hcl1 : ¬ ((lst c1).length : Int) > 1048576 := by omega
  generalize hwe1 : lst c1 = w1 at *
  have hw1 : w1.length ≤ 1048576 := hl1
  have hto2 := h7.at c2 hl2
  have hcl2 : ¬ ((lst c2).length : Int) > 1048576 := by omega
  generalize hwe2 : lst c2 = w2 at *
  have hw2 : w2.length ≤ 1048576 := hl2
  obtain ⟨o0, e0, hc1⟩ := hA F0 S0 w1 w2 hfa0 hfb0 hw1 hw2
  obtain ⟨q0, g0, hc2⟩ := hB F0 S0 w1 w2 hfa0 hfb0 hw1 hw2
  have hsm0 := hz0 F0 S0 w1 w2 hfa0 hfb0 hw1 hw2
  rw [← g0] at hsm0
  have heq0 := g0.trans e0.symm
  clear e0 g0
  generalize R1 F0 S0 w1 w2 = o1 at *
  have hk0a := kAt_le (k := (1 : Int)) hfa0 F0.length (Nat.le_refl _)
  have hk0b := kAt_le (k := (kAt (1 : Int) F0 F0.length)) hfb0 S0.length (Nat.le_refl _)
  have hfl0 := hfa0.1
  have hsl0 := hfb0.1
  have hkN : ¬ (((kAt (kAt (1 : Int) F0 F0.length) S0 S0.length) + w1.length) + w2.length) < 0 := by omega
  show wp _ _ (lw_wwI a b).body (post [.t 6] _ _ _) _
  simp [lw_wwI, hcl1, hwe1, hcl2, hwe2]
  refine callR hsz rfl rfl (fun _ => rfl) ?_
  by_cases hneg : r < 0
  · simp [hneg]
  · simp [hneg]
    cases o0 with
    | some X0 =>
      cases q0 with
      | some Y0 =>
        simp only [ownI, lso_some] at *
        subst heq0
        have hm0 : Y0.length ≤ 1048576 := hsm0
        have hn0 : ¬ ((1 : Int) + Y0.length) < 0 := by omega
        refine callR hto0 rfl rfl (fun _ => by simp) ?_
        simp
        refine callR hto1 rfl rfl (fun _ => by simp) ?_
        simp
        refine callR hto2 rfl rfl (fun _ => by simp) ?_
        simp
        refine callR hc1 rfl rfl (fun _ => by simp) ?_
        simp
        refine callR hto0 rfl rfl (fun _ => by simp) ?_
        simp
        refine callR hto1 rfl rfl (fun _ => by simp) ?_
        simp
        refine callR hto2 rfl rfl (fun _ => by simp) ?_
        simp
        refine callR hc2 rfl rfl (fun _ => by simp) ?_
        simp
        refine callR (h9.o (some Y0) (some Y0) hsm0) rfl rfl (fun _ => rfl) ?_
        simp
        refine callR hto0 rfl rfl (fun _ => by simp) ?_
        simp
        refine callR (h18.o F0 S0 F0 S0 hfa0 hfb0) rfl rfl (fun _ => rfl) ?_
        simp
        refine callR hto1 rfl rfl (fun _ => by simp) ?_
        simp
        refine callR (h9.o (some w1) (some w1) hw1) rfl rfl (fun _ => rfl) ?_
        simp
        refine callR hto2 rfl rfl (fun _ => by simp) ?_
        simp
        refine callR (h9.o (some w2) (some w2) hw2) rfl rfl (fun _ => rfl) ?_
        simp
        refine callM (ts' := [.agg [.mem .own (some 1) (rows (upT (1 : Int) F0)), .mem .own (some 1) (rows (upT (kAt (1 : Int) F0 F0.length) S0))], I (1 : Int)]) (r := I (kAt (kAt (1 : Int) F0 F0.length) S0 S0.length)) ?_ ?_ ?_ ?_
        · simp
        · simpa using h22 F0 S0 (1 : Int) hfa0 hfb0 (by omega) (by omega)
        · simp
        simp
        refine callM (ts' := [.mem .own (some 1) ((up (kAt (kAt (1 : Int) F0 F0.length) S0 S0.length) w1.length).map I), I (kAt (kAt (1 : Int) F0 F0.length) S0 S0.length)]) (r := I ((kAt (kAt (1 : Int) F0 F0.length) S0 S0.length) + w1.length)) ?_ ?_ ?_ ?_
        · simp
        · simpa using h12.at w1 (kAt (kAt (1 : Int) F0 F0.length) S0 S0.length) hw1 (by omega) (by omega)
        · simp
        simp
        refine callM (ts' := [.mem .own (some 1) ((up ((kAt (kAt (1 : Int) F0 F0.length) S0 S0.length) + w1.length) w2.length).map I), I ((kAt (kAt (1 : Int) F0 F0.length) S0 S0.length) + w1.length)]) (r := I (((kAt (kAt (1 : Int) F0 F0.length) S0 S0.length) + w1.length) + w2.length)) ?_ ?_ ?_ ?_
        · simp
        · simpa using h12.at w2 ((kAt (kAt (1 : Int) F0 F0.length) S0 S0.length) + w1.length) hw2 (by omega) (by omega)
        · simp
        simp [hkN]
        refine callR (h9.o (some Y0) (some Y0) hsm0) rfl rfl (fun _ => rfl) ?_
        simp
        refine callM (ts' := [.mem .own (some 1) ((up (1 : Int) Y0.length).map I), I (1 : Int)]) (r := I ((1 : Int) + Y0.length)) ?_ ?_ ?_ ?_
        · simp
        · simpa using h12.at Y0 (1 : Int) hm0 (by omega) (by omega)
        · simp
        simp
        refine callR (h13.o (some (up (1 : Int) Y0.length)) (1 : Int) (by simpa using hm0) (by omega) (by omega)) rfl rfl (fun _ => rfl) ?_
        simp [held_up, hn0]
        refine callR hto0 rfl rfl (fun _ => by simp) ?_
        simp
        refine callR hto1 rfl rfl (fun _ => by simp) ?_
        simp
        refine callR hto2 rfl rfl (fun _ => by simp) ?_
        simp
        refine callR hc2 rfl rfl (fun _ => by simp) ?_
        simp
        refine callR (h9.o (some Y0) (some Y0) hsm0) rfl rfl (fun _ => rfl) ?_
        simp
        refine callR (h13.o (some (up (1 : Int) Y0.length)) (1 : Int) (by simpa using hm0) (by omega) (by omega)) rfl rfl (fun _ => rfl) ?_
        simp [held_up, hn0]
      | none =>
        simp only [ownI, lso_some, lso_none] at *
        subst heq0
        refine callR hto0 rfl rfl (fun _ => by simp) ?_
        simp
        refine callR hto1 rfl rfl (fun _ => by simp) ?_
        simp
        refine callR hto2 rfl rfl (fun _ => by simp) ?_
        simp
        refine callR hc1 rfl rfl (fun _ => by simp) ?_
        simp
        refine callR hto0 rfl rfl (fun _ => by simp) ?_
        simp
        refine callR hto1 rfl rfl (fun _ => by simp) ?_
        simp
        refine callR hto2 rfl rfl (fun _ => by simp) ?_
        simp
        refine callR hc2 rfl rfl (fun _ => by simp) ?_
        simp
        refine callR (h9.o none (some []) hsm0) rfl rfl (fun _ => rfl) ?_
        simp
        refine callR hto0 rfl rfl (fun _ => by simp) ?_
        simp
        refine callR (h18.o F0 S0 F0 S0 hfa0 hfb0) rfl rfl (fun _ => rfl) ?_
        simp
        refine callR hto1 rfl rfl (fun _ => by simp) ?_
        simp
        refine callR (h9.o (some w1) (some w1) hw1) rfl rfl (fun _ => rfl) ?_
        simp
        refine callR hto2 rfl rfl (fun _ => by simp) ?_
        simp
        refine callR (h9.o (some w2) (some w2) hw2) rfl rfl (fun _ => rfl) ?_
        simp
        refine callM (ts' := [.agg [.mem .own (some 1) (rows (upT (1 : Int) F0)), .mem .own (some 1) (rows (upT (kAt (1 : Int) F0 F0.length) S0))], I (1 : Int)]) (r := I (kAt (kAt (1 : Int) F0 F0.length) S0 S0.length)) ?_ ?_ ?_ ?_
        · simp
        · simpa using h22 F0 S0 (1 : Int) hfa0 hfb0 (by omega) (by omega)
        · simp
        simp
        refine callM (ts' := [.mem .own (some 1) ((up (kAt (kAt (1 : Int) F0 F0.length) S0 S0.length) w1.length).map I), I (kAt (kAt (1 : Int) F0 F0.length) S0 S0.length)]) (r := I ((kAt (kAt (1 : Int) F0 F0.length) S0 S0.length) + w1.length)) ?_ ?_ ?_ ?_
        · simp
        · simpa using h12.at w1 (kAt (kAt (1 : Int) F0 F0.length) S0 S0.length) hw1 (by omega) (by omega)
        · simp
        simp
        refine callM (ts' := [.mem .own (some 1) ((up ((kAt (kAt (1 : Int) F0 F0.length) S0 S0.length) + w1.length) w2.length).map I), I ((kAt (kAt (1 : Int) F0 F0.length) S0 S0.length) + w1.length)]) (r := I (((kAt (kAt (1 : Int) F0 F0.length) S0 S0.length) + w1.length) + w2.length)) ?_ ?_ ?_ ?_
        · simp
        · simpa using h12.at w2 ((kAt (kAt (1 : Int) F0 F0.length) S0 S0.length) + w1.length) hw2 (by omega) (by omega)
        · simp
        simp [hkN]
        refine callR (h9.o none (some []) hsm0) rfl rfl (fun _ => rfl) ?_
        simp
        refine callM (ts' := [nil, I (1 : Int)]) (r := I (1 : Int)) ?_ ?_ ?_ ?_
        · simp
        · simpa using h12.at0 (1 : Int) (by omega) (by omega)
        · simp
        simp
        refine callR (h13.o none (1 : Int) hsm0 (by omega) (by omega)) rfl rfl (fun _ => rfl) ?_
        simp [held]
        refine callR hto0 rfl rfl (fun _ => by simp) ?_
        simp
        refine callR hto1 rfl rfl (fun _ => by simp) ?_
        simp
        refine callR hto2 rfl rfl (fun _ => by simp) ?_
        simp
        refine callR hc2 rfl rfl (fun _ => by simp) ?_
        simp
        refine callR (h9.o none (some []) hsm0) rfl rfl (fun _ => rfl) ?_
        simp
        refine callR (h13.o none (1 : Int) hsm0 (by omega) (by omega)) rfl rfl (fun _ => rfl) ?_
        simp [held]
    | none =>
      cases q0 with
      | some Y0 =>
        simp only [ownI, lso_some, lso_none] at *
        subst heq0
        refine callR hto0 rfl rfl (fun _ => by simp) ?_
        simp
        refine callR hto1 rfl rfl (fun _ => by simp) ?_
        simp
        refine callR hto2 rfl rfl (fun _ => by simp) ?_
        simp
        refine callR hc1 rfl rfl (fun _ => by simp) ?_
        simp
        refine callR hto0 rfl rfl (fun _ => by simp) ?_
        simp
        refine callR hto1 rfl rfl (fun _ => by simp) ?_
        simp
        refine callR hto2 rfl rfl (fun _ => by simp) ?_
        simp
        refine callR hc2 rfl rfl (fun _ => by simp) ?_
        simp
        refine callR (h9.o (some ([] : List Int)) none hsm0) rfl rfl (fun _ => rfl) ?_
        simp
        refine callR hto0 rfl rfl (fun _ => by simp) ?_
        simp
        refine callR (h18.o F0 S0 F0 S0 hfa0 hfb0) rfl rfl (fun _ => rfl) ?_
        simp
        refine callR hto1 rfl rfl (fun _ => by simp) ?_
        simp
        refine callR (h9.o (some w1) (some w1) hw1) rfl rfl (fun _ => rfl) ?_
        simp
        refine callR hto2 rfl rfl (fun _ => by simp) ?_
        simp
        refine callR (h9.o (some w2) (some w2) hw2) rfl rfl (fun _ => rfl) ?_
        simp
        refine callM (ts' := [.agg [.mem .own (some 1) (rows (upT (1 : Int) F0)), .mem .own (some 1) (rows (upT (kAt (1 : Int) F0 F0.length) S0))], I (1 : Int)]) (r := I (kAt (kAt (1 : Int) F0 F0.length) S0 S0.length)) ?_ ?_ ?_ ?_
        · simp
        · simpa using h22 F0 S0 (1 : Int) hfa0 hfb0 (by omega) (by omega)
        · simp
        simp
        refine callM (ts' := [.mem .own (some 1) ((up (kAt (kAt (1 : Int) F0 F0.length) S0 S0.length) w1.length).map I), I (kAt (kAt (1 : Int) F0 F0.length) S0 S0.length)]) (r := I ((kAt (kAt (1 : Int) F0 F0.length) S0 S0.length) + w1.length)) ?_ ?_ ?_ ?_
        · simp
        · simpa using h12.at w1 (kAt (kAt (1 : Int) F0 F0.length) S0 S0.length) hw1 (by omega) (by omega)
        · simp
        simp
        refine callM (ts' := [.mem .own (some 1) ((up ((kAt (kAt (1 : Int) F0 F0.length) S0 S0.length) + w1.length) w2.length).map I), I ((kAt (kAt (1 : Int) F0 F0.length) S0 S0.length) + w1.length)]) (r := I (((kAt (kAt (1 : Int) F0 F0.length) S0 S0.length) + w1.length) + w2.length)) ?_ ?_ ?_ ?_
        · simp
        · simpa using h12.at w2 ((kAt (kAt (1 : Int) F0 F0.length) S0 S0.length) + w1.length) hw2 (by omega) (by omega)
        · simp
        simp [hkN]
        refine callR (h9.o (some ([] : List Int)) none hsm0) rfl rfl (fun _ => rfl) ?_
        simp
        refine callM (ts' := [.mem .own (some 1) [], I (1 : Int)]) (r := I (1 : Int)) ?_ ?_ ?_ ?_
        · simp
        · simpa [up] using h12.at ([] : List Int) (1 : Int) (by simp) (by omega) (by omega)
        · simp
        simp
        refine callR (h13.o (some []) (1 : Int) (by simp) (by omega) (by omega)) rfl rfl (fun _ => rfl) ?_
        simp [held]
        refine callR hto0 rfl rfl (fun _ => by simp) ?_
        simp
        refine callR hto1 rfl rfl (fun _ => by simp) ?_
        simp
        refine callR hto2 rfl rfl (fun _ => by simp) ?_
        simp
        refine callR hc2 rfl rfl (fun _ => by simp) ?_
        simp
        refine callR (h9.o (some ([] : List Int)) none hsm0) rfl rfl (fun _ => rfl) ?_
        simp
        refine callR (h13.o (some []) (1 : Int) (by simp) (by omega) (by omega)) rfl rfl (fun _ => rfl) ?_
        simp [held]
      | none =>
        simp only [ownI, lso_none] at *
        refine callR hto0 rfl rfl (fun _ => by simp) ?_
        simp
        refine callR hto1 rfl rfl (fun _ => by simp) ?_
        simp
        refine callR hto2 rfl rfl (fun _ => by simp) ?_
        simp
        refine callR hc1 rfl rfl (fun _ => by simp) ?_
        simp
        refine callR hto0 rfl rfl (fun _ => by simp) ?_
        simp
        refine callR hto1 rfl rfl (fun _ => by simp) ?_
        simp
        refine callR hto2 rfl rfl (fun _ => by simp) ?_
        simp
        refine callR hc2 rfl rfl (fun _ => by simp) ?_
        simp
        refine callR (h9.o none none hsm0) rfl rfl (fun _ => rfl) ?_
        simp
        refine callR hto0 rfl rfl (fun _ => by simp) ?_
        simp
        refine callR (h18.o F0 S0 F0 S0 hfa0 hfb0) rfl rfl (fun _ => rfl) ?_
        simp
        refine callR hto1 rfl rfl (fun _ => by simp) ?_
        simp
        refine callR (h9.o (some w1) (some w1) hw1) rfl rfl (fun _ => rfl) ?_
        simp
        refine callR hto2 rfl rfl (fun _ => by simp) ?_
        simp
        refine callR (h9.o (some w2) (some w2) hw2) rfl rfl (fun _ => rfl) ?_
        simp
        refine callM (ts' := [.agg [.mem .own (some 1) (rows (upT (1 : Int) F0)), .mem .own (some 1) (rows (upT (kAt (1 : Int) F0 F0.length) S0))], I (1 : Int)]) (r := I (kAt (kAt (1 : Int) F0 F0.length) S0 S0.length)) ?_ ?_ ?_ ?_
        · simp
        · simpa using h22 F0 S0 (1 : Int) hfa0 hfb0 (by omega) (by omega)
        · simp
        simp
        refine callM (ts' := [.mem .own (some 1) ((up (kAt (kAt (1 : Int) F0 F0.length) S0 S0.length) w1.length).map I), I (kAt (kAt (1 : Int) F0 F0.length) S0 S0.length)]) (r := I ((kAt (kAt (1 : Int) F0 F0.length) S0 S0.length) + w1.length)) ?_ ?_ ?_ ?_
        · simp
        · simpa using h12.at w1 (kAt (kAt (1 : Int) F0 F0.length) S0 S0.length) hw1 (by omega) (by omega)
        · simp
        simp
        refine callM (ts' := [.mem .own (some 1) ((up ((kAt (kAt (1 : Int) F0 F0.length) S0 S0.length) + w1.length) w2.length).map I), I ((kAt (kAt (1 : Int) F0 F0.length) S0 S0.length) + w1.length)]) (r := I (((kAt (kAt (1 : Int) F0 F0.length) S0 S0.length) + w1.length) + w2.length)) ?_ ?_ ?_ ?_
        · simp
        · simpa using h12.at w2 ((kAt (kAt (1 : Int) F0 F0.length) S0 S0.length) + w1.length) hw2 (by omega) (by omega)
        · simp
        simp [hkN]
        refine callR (h9.o none none hsm0) rfl rfl (fun _ => rfl) ?_
        simp
        refine callM (ts' := [nil, I (1 : Int)]) (r := I (1 : Int)) ?_ ?_ ?_ ?_
        · simp
        · simpa using h12.at0 (1 : Int) (by omega) (by omega)
        · simp
        simp
        refine callR (h13.o none (1 : Int) hsm0 (by omega) (by omega)) rfl rfl (fun _ => rfl) ?_
        simp [held]
        refine callR hto0 rfl rfl (fun _ => by simp) ?_
        simp
        refine callR hto1 rfl rfl (fun _ => by simp) ?_
        simp
        refine callR hto2 rfl rfl (fun _ => by simp) ?_
        simp
        refine callR hc2 rfl rfl (fun _ => by simp) ?_
        simp
        refine callR (h9.o none none hsm0) rfl rfl (fun _ => rfl) ?_
        simp
        refine callR (h13.o none (1 : Int) hsm0 (by omega) (by omega)) rfl rfl (fun _ => rfl) ?_
        simp [held]
end Go.Mch
/- The runs of the exact laws, by their shapes: sol-bool,int, sol-int,int, sol,int-int,int, sol,ints,int-int,int, sol,ints,ints-bool,int. -/
namespace Go.Mch
/-- The laws of this shape: sol, int to int, int. -/
def lw_pN (a b : Nat) : F where
  np := 2
  rs := [.t 4]
  body :=
    (.seq
    (.region none [ ⟨some 2, none, .box (.t 0)⟩, ⟨some 4, none, .mv (.c (.bool false))⟩] [1, 2]) (.seq
    (.region none [ ⟨some 5, none, .mv (.c (.int .i64 1048576))⟩] [1, 2, 5]) (.seq
    (.region none [ ⟨some 11, none, .ld (some 2) (.t 2)⟩, ⟨some 12, none, .mv (.t 5)⟩, ⟨some 13, none, .call (.f 14) [((.t 11), .r), ((.t 12), .r)]⟩, ⟨some 5, none, .mv (.t 13)⟩] [1, 2, 5]) (.seq (.seq
    (.region none [ ⟨some 14, none, .mv (.t 5)⟩, ⟨some 15, none, .bin .lss (.t 14) (.c (.int .i64 0))⟩] [1, 2, 15]) (.cond (.t 15) (.seq
    (.region none [ ⟨some 4, none, .mv (.c (.bool true))⟩] [4]) .ret) .skip)) (.seq
    (.region none [ ⟨some 17, none, .ld (some 2) (.t 2)⟩, ⟨some 18, none, .call (.f 16) [((.t 17), .r)]⟩, ⟨some 19, none, .mv (.t 1)⟩, ⟨some 20, none, .call (.f a) [((.t 18), .r), ((.t 19), .r)]⟩, ⟨some 16, none, .mv (.t 20)⟩, ⟨some 21, none, .ext (.t 16) 0⟩, ⟨some 22, none, .ext (.t 16) 1⟩, ⟨some 6, none, .mv (.t 21)⟩, ⟨some 7, none, .mv (.t 22)⟩] [1, 2, 6, 7]) (.seq
    (.region none [ ⟨some 23, none, .ld (some 2) (.t 2)⟩, ⟨some 24, none, .call (.f 16) [((.t 23), .r)]⟩, ⟨some 8, none, .alloc [(.slice none 0 0), (.slice none 0 0)]⟩, ⟨none, none, .st (some 2) (.t 8) (.t 24)⟩] [1, 2, 6, 7, 8]) (.seq
    (.region none [ ⟨some 26, none, .ld (some 2) (.t 8)⟩, ⟨some 27, none, .mv (.t 1)⟩, ⟨some 28, none, .call (.f b) [((.t 26), .r), ((.t 27), .r)]⟩, ⟨some 25, none, .mv (.t 28)⟩, ⟨some 29, none, .ext (.t 25) 0⟩, ⟨some 30, none, .ext (.t 25) 1⟩, ⟨some 9, none, .mv (.t 29)⟩, ⟨some 10, none, .mv (.t 30)⟩] [2, 6, 7, 8, 9, 10]) (.seq (.seq
    (.region none [ ⟨some 31, none, .mv (.t 9)⟩, ⟨some 32, none, .mv (.t 6)⟩, ⟨some 33, none, .bin .neq (.t 31) (.t 32)⟩, ⟨some 34, none, .mv (.t 33)⟩, ⟨some 35, (some (34, false)), .mv (.t 10)⟩, ⟨some 36, (some (34, false)), .mv (.t 7)⟩, ⟨some 37, (some (34, false)), .bin .neq (.t 35) (.t 36)⟩, ⟨some 38, none, .pick (.t 34) (.c (.bool true)) (.t 37)⟩] [2, 8, 38]) (.cond (.t 38) (.seq
    (.region none [ ⟨some 4, none, .mv (.c (.bool false))⟩] [4]) .ret) .skip)) (.seq (.seq
    (.region (some [39, 40, 41]) [ ⟨some 39, none, .ld (some 2) (.t 8)⟩, ⟨some 40, none, .ld (some 2) (.t 2)⟩, ⟨some 41, none, .call (.f 16) [((.t 40), .r)]⟩, ⟨some 42, none, .call (.f 18) [((.t 39), .r), ((.t 41), .r)]⟩, ⟨some 43, none, .un .not (.t 42)⟩] [43]) (.cond (.t 43) (.seq
    (.region none [ ⟨some 4, none, .mv (.c (.bool false))⟩] [4]) .ret) .skip)) (.seq
    (.region none [ ⟨some 4, none, .mv (.c (.bool true))⟩] [4]) .ret))))))))))
def S_sh_pN (pg : Pg) (n : Nat) (R0 : List (List Int) → List (List Int) → Int → Int) (R1 : List (List Int) → List (List Int) → Int → Int) : Prop := ∀ (f0 s0 : List (List Int)) (p1 : Int), fits f0 → fits s0 → Call pg n [sol f0 s0, I p1] [sol f0 s0, I p1] (.tup [I (R0 f0 s0 p1), I (R1 f0 s0 p1)])
def S_lw_pN (pg : Pg) (n : Nat) : Prop := ∀ (a0 b0 : Rw (Rw Int)) (p1 : Int), small a0 → small b0 → ∃ args', Call pg n [.agg [rawT a0, rawT b0], I p1] args' (B true)
set_option maxRecDepth 20000 in
theorem t_lw_pN {pg : Pg} {n a b : Nat} {R0 : List (List Int) → List (List Int) → Int → Int} {R1 : List (List Int) → List (List Int) → Int → Int} (hp : pg.fn n = some (lw_pN a b)) (hA : S_sh_pN pg a R0 R1) (hB : S_sh_pN pg b R0 R1)  (h14 : S_szSol pg) (h16 : S_toSol pg) (h18 : S_eqSol pg) : S_lw_pN pg n := by
  intro a0 b0 p1 ha0 hb0
  refine ⟨[.agg [rawT a0, rawT b0], I p1], Call.intro hp rfl (by simp) ?_⟩
  obtain ⟨r, hr1, hr2, hsz⟩ := h14 a0 b0 1048576 ha0 hb0 (by omega) (by omega)
  have hto0 := h16 a0 b0 ha0 hb0
  have hfa0 := fitsT_of ha0
  have hfb0 := fitsT_of hb0
  generalize hF0 : (lst a0).map lst = F0 at *
  generalize hS0 : (lst b0).map lst = S0 at *
  have hc1 := hA F0 S0 p1 hfa0 hfb0
  have hc2 := hB F0 S0 p1 hfa0 hfb0
  generalize R0 F0 S0 p1 = o0 at *
  generalize R1 F0 S0 p1 = o1 at *
  show wp _ _ (lw_pN a b).body (post [.t 4] _ _ _) _
  simp [lw_pN]
  refine callR hsz rfl rfl (fun _ => rfl) ?_
  by_cases hneg : r < 0
  · simp [hneg]
  · simp [hneg]
    refine callR hto0 rfl rfl (fun _ => by simp) ?_
    simp
    refine callR hc1 rfl rfl (fun _ => by simp) ?_
    simp
    refine callR hto0 rfl rfl (fun _ => by simp) ?_
    simp
    refine callR hc2 rfl rfl (fun _ => by simp) ?_
    simp
    refine callR hto0 rfl rfl (fun _ => by simp) ?_
    simp
    refine callR (h18.o F0 S0 F0 S0 hfa0 hfb0) rfl rfl (fun _ => rfl) ?_
    simp
end Go.Mch
/- Words with a common begin: in plain Lean. -/
namespace Go.Mch

section
variable {mv mv' : List Int → Nat → List Int} {m m' : Nat} {w x y : List Int}
theorem TR.trans (h1 : TR mv m w x) (h2 : TR mv m x y) : TR mv m w y := h2 _ h1 fun _ hz _ hi => TR.step mv m w hz hi
theorem TR.symm {P : List Int → Prop} (hw : P w) (hc : ∀ y, P y → ∀ i, i < m → P (mv y i)) (hb : ∀ y, P y → ∀ i, i < m → ∃ j, j < m ∧ mv (mv y i) j = y) (h : TR mv m w x) : TR mv m x w :=
  (h (fun y => P y ∧ TR mv m y w) ⟨hw, TR.start mv m w⟩ fun y hy i hi => ⟨hc y hy.1 i hi, by
    obtain ⟨j, hj, he⟩ := hb y hy.1 i hi
    have h1 : TR mv m (mv y i) y := by
      have := TR.step mv m (mv y i) (TR.start mv m (mv y i)) hj
      rw [he] at this
      exact this
    exact h1.trans hy.2⟩).2
theorem TR.map (φ : List Int → List Int) {P : List Int → Prop} (hw : P w) (hc : ∀ y, P y → ∀ i, i < m → P (mv y i)) (hm : ∀ y, P y → ∀ i, i < m → ∃ j, j < m' ∧ mv' (φ y) j = φ (mv y i)) (h : TR mv m w x) : TR mv' m' (φ w) (φ x) :=
  (h (fun y => P y ∧ TR mv' m' (φ w) (φ y)) ⟨hw, TR.start mv' m' (φ w)⟩ fun y hy i hi => ⟨hc y hy.1 i hi, by
    obtain ⟨j, hj, he⟩ := hm y hy.1 i hi
    rw [← he]
    exact TR.step mv' m' (φ w) hy.2 hj⟩).2
end

theorem dW_app {f s : List (List Int)} {p r : List Int} {i : Nat} (hi : i + 1 < p.length) : dW f s (p ++ r) i = dW f s p i ++ r := by
  have h1 : (p ++ r).getD i 0 = p.getD i 0 := by rw [List.getD_eq_getElem?_getD, List.getD_eq_getElem?_getD, List.getElem?_append_left (by omega)]
  have h2 : (p ++ r).getD (i + 1) 0 = p.getD (i + 1) 0 := by rw [List.getD_eq_getElem?_getD, List.getD_eq_getElem?_getD, List.getElem?_append_left (by omega)]
  unfold dW
  rw [h1, h2, List.set_append_left _ _ (by omega), List.set_append_left _ _ (by simp; omega)]
theorem dW_app2 {f s : List (List Int)} {u r : List Int} {i : Nat} : dW f s (u ++ r) (u.length + i) = u ++ dW f s r i := by
  have h1 : (u ++ r).getD (u.length + i) 0 = r.getD i 0 := by rw [List.getD_eq_getElem?_getD, List.getD_eq_getElem?_getD, List.getElem?_append_right (by omega), Nat.add_sub_cancel_left]
  have h2 : (u ++ r).getD (u.length + i + 1) 0 = r.getD (i + 1) 0 := by rw [List.getD_eq_getElem?_getD, List.getD_eq_getElem?_getD, List.getElem?_append_right (by omega), show u.length + i + 1 - u.length = i + 1 from by omega]
  unfold dW
  rw [h1, h2, List.set_append_right _ _ (by omega), List.set_append_right _ _ (by omega), Nat.add_sub_cancel_left, show u.length + i + 1 - u.length = i + 1 from by omega]
theorem cMv_app {f s : List (List Int)} {p r : List Int} {i : Nat} (hi : i < 2 * (p.length - 1)) : cMv f s (p ++ r) i = cMv f s p i ++ r := by
  unfold cMv
  split
  · exact dW_app (by omega)
  · exact dW_app (by omega)
theorem cMv_app2 {f s : List (List Int)} {u r : List Int} {i : Nat} : cMv f s (u ++ r) (2 * u.length + i) = u ++ cMv f s r i := by
  unfold cMv
  rw [show (2 * u.length + i) % 2 = i % 2 from by omega, show (2 * u.length + i) / 2 = u.length + i / 2 from by omega]
  split
  · exact dW_app2
  · exact dW_app2

theorem inN_getD {n : Nat} {w : List Int} (h : inN n w) {i : Nat} (hi : i < w.length) : 0 ≤ w.getD i 0 ∧ w.getD i 0 < n := by
  rw [List.getD_eq_getElem?_getD, List.getElem?_eq_getElem hi]
  exact h _ (List.getElem_mem hi)
/-- Doing a pair map and then one that takes it back. -/
theorem dW_back {f s g t : List (List Int)} {w : List Int} {i : Nat} (hi : i + 1 < w.length)
    (h : ∀ a b, a = w.getD i 0 → b = w.getD (i + 1) 0 → g2 g (g2 f a b) (g2 s a b) = a ∧ g2 t (g2 f a b) (g2 s a b) = b) : dW g t (dW f s w i) i = w := by
  obtain ⟨h1, h2⟩ := h _ _ rfl rfl
  have e1 : (dW f s w i).getD i 0 = g2 f (w.getD i 0) (w.getD (i + 1) 0) := by
    unfold dW
    rw [List.getD_eq_getElem?_getD, List.getElem?_set_ne (by omega), List.getElem?_set_self (by omega)]
    rfl
  have e2 : (dW f s w i).getD (i + 1) 0 = g2 s (w.getD i 0) (w.getD (i + 1) 0) := by
    unfold dW
    rw [List.getD_eq_getElem?_getD, List.getElem?_set_self (by simpa using hi)]
    rfl
  have e3 : dW g t (dW f s w i) i = ((dW f s w i).set i (w.getD i 0)).set (i + 1) (w.getD (i + 1) 0) := by
    rw [dW, e1, e2, h1, h2]
  rw [e3]
  apply List.ext_getElem
  · simp
  · intro j j1 j2
    have hw1 : w.getD i 0 = w[i]'(by omega) := by rw [List.getD_eq_getElem?_getD, List.getElem?_eq_getElem (by omega)]; rfl
    have hw2 : w.getD (i + 1) 0 = w[i + 1] := by rw [List.getD_eq_getElem?_getD, List.getElem?_eq_getElem hi]; rfl
    by_cases hj1 : i + 1 = j
    · subst hj1
      rw [List.getElem_set_self, hw2]
    · rw [List.getElem_set_ne (by omega)]
      by_cases hj0 : i = j
      · subst hj0
        rw [List.getElem_set_self, hw1]
      · rw [List.getElem_set_ne (by omega)]
        unfold dW
        rw [List.getElem_set_ne (by omega), List.getElem_set_ne (by omega)]
theorem inv_g2 {f s : List (List Int)} (h : PM f s) (hi : Inj f s) {a b : Int} (ha : 0 ≤ a ∧ a < f.length) (hb : 0 ≤ b ∧ b < f.length) :
    (g2 (invF f s) (g2 f a b) (g2 s a b) = a ∧ g2 (invS f s) (g2 f a b) (g2 s a b) = b) ∧ g2 f (g2 (invF f s) a b) (g2 (invS f s) a b) = a ∧ g2 s (g2 (invF f s) a b) (g2 (invS f s) a b) = b := by
  have hx : a.toNat < f.length := by omega
  have hy : b.toNat < f.length := by omega
  constructor
  · have h1 := h.v2f a.toNat b.toNat
    have h2 := h.v2s a.toNat b.toNat
    have h3 := pre_at h hi hx hy
    have e1 : (g2 f a b).toNat = σN f a.toNat b.toNat := rfl
    have e2 : (g2 s a b).toNat = τN s b.toNat a.toNat := rfl
    unfold g2 at e1 e2 ⊢
    rw [e1, e2, invF, invS, v2_tabL h1.2 h2.2, v2_tabL h1.2 h2.2, h3.1, h3.2]
    omega
  · have h1 := pre_self h hi hx hy
    have e1 : g2 (invF f s) a b = (preX f s a.toNat b.toNat : Int) := by unfold g2 invF; rw [v2_tabL hx hy]
    have e2 : g2 (invS f s) a b = (preY f s a.toNat b.toNat : Int) := by unfold g2 invS; rw [v2_tabL hx hy]
    rw [e1, e2]
    obtain ⟨p1, p2, p3, p4⟩ := h1
    have h2 := h.v2f (preX f s a.toNat b.toNat) (preY f s a.toNat b.toNat)
    have h3 := h.v2s (preX f s a.toNat b.toNat) (preY f s a.toNat b.toNat)
    unfold g2
    rw [Int.toNat_natCast, Int.toNat_natCast]
    omega
theorem cMv_back {f s : List (List Int)} (h : PM f s) (hi : Inj f s) {w : List Int} (hw : inN f.length w) {p : Nat} (hp : p < 2 * (w.length - 1)) : ∃ q, q < 2 * (w.length - 1) ∧ cMv f s (cMv f s w p) q = w := by
  have ha := inN_getD hw (i := p / 2) (by omega)
  have hb := inN_getD hw (i := p / 2 + 1) (by omega)
  have hg := inv_g2 h hi ha hb
  by_cases he : p % 2 = 0
  · refine ⟨p + 1, by omega, ?_⟩
    have e1 : cMv f s w p = dW f s w (p / 2) := by rw [cMv, if_pos he]
    have e2 : ∀ x, cMv f s x (p + 1) = dW (invF f s) (invS f s) x (p / 2) := fun x => by rw [cMv, if_neg (by omega), show (p + 1) / 2 = p / 2 from by omega]
    rw [e1, e2]
    exact dW_back (by omega) fun a b ha hb => by rw [ha, hb]; exact hg.1
  · refine ⟨p - 1, by omega, ?_⟩
    have e1 : cMv f s w p = dW (invF f s) (invS f s) w (p / 2) := by rw [cMv, if_neg he]
    have e2 : ∀ x, cMv f s x (p - 1) = dW f s x (p / 2) := fun x => by rw [cMv, if_pos (by omega), show (p - 1) / 2 = p / 2 from by omega]
    rw [e1, e2]
    exact dW_back (by omega) fun a b ha hb => by rw [ha, hb]; exact hg.2

/-- One word leads to another. -/
def Eqw (f s : List (List Int)) (u v : List Int) : Prop := TR (cMv f s) (2 * (u.length - 1)) u v
section
variable {f s : List (List Int)} (h : PM f s) (hi : Inj f s)
include h hi
theorem Eqw.len {u v : List Int} (hu : inN f.length u) (e : Eqw f s u v) : inN f.length v ∧ v.length = u.length := CR_in h hi hu e
theorem Eqw.symm {u v : List Int} (hu : inN f.length u) (e : Eqw f s u v) : Eqw f s v u := by
  have hl := (e.len h hi hu).2
  unfold Eqw at e ⊢
  rw [hl]
  exact TR.symm (P := fun y => inN f.length y ∧ y.length = u.length) ⟨hu, rfl⟩ (fun y hy i _ => ⟨cMv_in h hi hy.1 i, by rw [cMv_length]; exact hy.2⟩) (fun y hy i hlt => by
    have := cMv_back h hi hy.1 (p := i) (by rw [hy.2]; exact hlt)
    rw [hy.2] at this
    exact this) e
theorem Eqw.trans {u v x : List Int} (hu : inN f.length u) (e : Eqw f s u v) (e2 : Eqw f s v x) : Eqw f s u x := by
  have hl := (e.len h hi hu).2
  unfold Eqw at e e2 ⊢
  rw [hl] at e2
  exact TR.trans e e2
theorem Eqw.app {u v : List Int} (hu : inN f.length u) (r : List Int) (e : Eqw f s u v) : Eqw f s (u ++ r) (v ++ r) := by
  unfold Eqw at e ⊢
  exact TR.map (· ++ r) (P := fun y => inN f.length y ∧ y.length = u.length) ⟨hu, rfl⟩ (fun y hy i _ => ⟨cMv_in h hi hy.1 i, by rw [cMv_length]; exact hy.2⟩) (fun y hy i hlt => ⟨i, by simp; omega, cMv_app (by rw [hy.2]; exact hlt)⟩) e
theorem Eqw.pre {r v : List Int} (hr : inN f.length r) (u : List Int) (e : Eqw f s r v) : Eqw f s (u ++ r) (u ++ v) := by
  unfold Eqw at e ⊢
  exact TR.map (u ++ ·) (P := fun y => inN f.length y ∧ y.length = r.length) ⟨hr, rfl⟩ (fun y hy i _ => ⟨cMv_in h hi hy.1 i, by rw [cMv_length]; exact hy.2⟩) (fun y hy i hlt => ⟨2 * u.length + i, by simp; omega, cMv_app2⟩) e
end
end Go.Mch
/- Rests of words: in plain Lean. -/
namespace Go.Mch

/-- What follows u in the words that begin with u. -/
def rstL (Z : List (List Int)) (u : List Int) : List (List Int) := (Z.filter fun x => decide (x.take u.length = u)).map (List.drop u.length)
theorem mem_rstL {Z : List (List Int)} {u r : List Int} : r ∈ rstL Z u ↔ u ++ r ∈ Z := by
  unfold rstL
  rw [List.mem_map]
  constructor
  · rintro ⟨x, hx, rfl⟩
    rw [List.mem_filter, decide_eq_true_iff] at hx
    have : u ++ x.drop u.length = x := by
      conv => lhs; lhs; rw [← hx.2]
      exact List.take_append_drop _ _
    rw [this]
    exact hx.1
  · intro h
    exact ⟨u ++ r, List.mem_filter.2 ⟨h, by simp⟩, by simp⟩
theorem cmpL_app : ∀ (u r r' : List Int), cmpL (u ++ r) (u ++ r') = cmpL r r'
  | [], _, _ => rfl
  | a :: u, r, r' => by
    have := cmpL_app u r r'
    show cmpW cmpI (a :: (u ++ r)) (a :: (u ++ r')) = _
    rw [cmpW, if_neg (by rw [(cmpI_zero a a).2 rfl]; simp)]
    exact this
theorem srt_rstL {Z : List (List Int)} (h : Srt Z) (u : List Int) : Srt (rstL Z u) := by
  unfold rstL Srt
  rw [List.pairwise_map]
  refine (h.filter (fun x => decide (x.take u.length = u))).imp_of_mem ?_
  intro a b ha hb hab
  rw [List.mem_filter, decide_eq_true_iff] at ha hb
  have e1 : a = u ++ a.drop u.length := by
    conv => rhs; lhs; rw [← ha.2]
    exact (List.take_append_drop _ _).symm
  have e2 : b = u ++ b.drop u.length := by
    conv => rhs; lhs; rw [← hb.2]
    exact (List.take_append_drop _ _).symm
  rw [e1, e2, cmpL_app] at hab
  exact hab
/-- The least of a list in order is its head. -/
theorem hd0_min {R : List (List Int)} (h : Srt R) {b : List Int} (hb : b ∈ R) (hm : ∀ r ∈ R, ¬ cmpL r b < 0) : hd0 R = b := by
  cases R with
  | nil => cases hb
  | cons a R =>
    show a = b
    have ha := hm a (by simp)
    rcases List.mem_cons.1 hb with e | e
    · exact e.symm
    · exact absurd ((List.pairwise_cons.1 h).1 b e) ha
theorem hd0_mem {R : List (List Int)} (h : R ≠ []) : hd0 R ∈ R := by
  cases R with
  | nil => exact absurd rfl h
  | cons a R => exact List.mem_cons_self
/-- What follows words of a class. -/
def rstU (Z U : List (List Int)) (n : Nat) : List (List Int) := (Z.filter fun x => decide (x.take n ∈ U)).map (List.drop n)
theorem rstU_snoc {Z U : List (List Int)} {n k : Nat} (hk : k < Z.length) : rstU (Z.take (k + 1)) U n = rstU (Z.take k) U n ++ (if Z[k].take n ∈ U then [Z[k].drop n] else []) := by
  unfold rstU
  rw [List.take_succ_eq_append_getElem hk, List.filter_append, List.map_append]
  congr 1
  by_cases hm : Z[k].take n ∈ U <;> simp [hm]
theorem rstL_snoc {Z : List (List Int)} {u : List Int} {k : Nat} (hk : k < Z.length) : rstL (Z.take (k + 1)) u = rstL (Z.take k) u ++ (if Z[k].take u.length = u then [Z[k].drop u.length] else []) := by
  unfold rstL
  rw [List.take_succ_eq_append_getElem hk, List.filter_append, List.map_append]
  congr 1
  by_cases hm : Z[k].take u.length = u <;> simp [hm]

theorem mem_cO {f s : List (List Int)} (_ : isSol f s) {w : List Int} {lim : Nat} {Z : List (List Int)} (hz : cO f s w lim = some Z) (x : List Int) : x ∈ Z ↔ Eqw f s w x := (orbO_spec hz).1.2 x
theorem srt_cO {f s : List (List Int)} (_ : isSol f s) {w : List Int} {lim : Nat} {Z : List (List Int)} (hz : cO f s w lim = some Z) : Srt Z := (orbO_spec hz).1.1
section
variable {f s : List (List Int)} (h : isSol f s)
include h
theorem rst_same {u w : List Int} (hu : inN f.length u) (hw : inN f.length w) {l1 l2 : Nat} {U Z : List (List Int)} (hU : cO f s u l1 = some U) (hZ : cO f s w l2 = some Z) (r : List Int) : r ∈ rstU Z U u.length ↔ r ∈ rstL Z u := by
  have hpm := PM.of h.1
  have hi := h.2.1
  rw [mem_rstL, rstU, List.mem_map]
  constructor
  · rintro ⟨x, hx, rfl⟩
    rw [List.mem_filter, decide_eq_true_iff] at hx
    obtain ⟨hx, hp⟩ := hx
    have e1 := (mem_cO h hZ x).1 hx
    have e2 := (mem_cO h hU _).1 hp
    have e3 := (e2.symm hpm hi hu).app hpm hi (e2.len hpm hi hu).1 (x.drop u.length)
    rw [List.take_append_drop] at e3
    exact (mem_cO h hZ _).2 (e1.trans hpm hi hw e3)
  · intro hm
    exact ⟨u ++ r, List.mem_filter.2 ⟨hm, by
      rw [decide_eq_true_iff, List.take_left]
      exact (mem_cO h hU _).2 (TR.start _ _ u)⟩, by simp⟩
theorem rst_none {u w : List Int} (hw : inN f.length w) {l2 : Nat} {Z : List (List Int)} (hZ : cO f s w l2 = some Z) (hle : w.length < u.length) : rstL Z u = [] := by
  rw [List.eq_nil_iff_forall_not_mem]
  intro r hr
  have := ((cO_len h hw hZ).2.1 _ (mem_rstL.1 hr)).2
  simp at this
  omega
/-- The least rest is its class's normal word. -/
theorem rst_normal {u w : List Int} (hw : isWd f.length w) {Z : List (List Int)} (hZ : cO f s w 1000 = some Z) (hne : rstL Z u ≠ []) : cwC f s (hd0 (rstL Z u)) = 0 ∧ nwR f s (hd0 (rstL Z u)) = hd0 (rstL Z u) := by
  classical
  have hpm := PM.of h.1
  have hi := h.2.1
  have hm := hd0_mem hne
  have hs := srt_rstL (srt_cO h hZ) u
  have hlen : (rstL Z u).length ≤ 1000 := by
    have h1 := (cO_len h (wd_in hw) hZ).1
    unfold rstL
    rw [List.length_map]
    have := List.length_filter_le (fun x => decide (x.take u.length = u)) Z
    omega
  generalize hR : rstL Z u = R at *
  have hmem : ∀ r, r ∈ R ↔ u ++ r ∈ Z := fun r => by rw [← hR]; exact mem_rstL
  have hbw := (cO_len h (wd_in hw) hZ).2.1 _ ((hmem _).1 hm)
  generalize hb : hd0 R = b at *
  have hbn : inN f.length b := fun x hx => hbw.1 x (List.mem_append.2 (.inr hx))
  have hbl : b.length ≤ 8 := by have := hbw.2; have := hw.2; simp at *; omega
  have hbd : isWd f.length b := ⟨fun x hx => by have := hbn x hx; omega, hbl⟩
  have horb : Orb (cMv f s) (2 * (b.length - 1)) b (R.filter fun r => decide (Eqw f s b r)) := by
    refine ⟨List.Pairwise.filter _ hs, fun x => ?_⟩
    rw [List.mem_filter, decide_eq_true_iff]
    refine ⟨fun hx => hx.2, fun hx => ⟨?_, hx⟩⟩
    rw [hmem, mem_cO h hZ]
    exact ((mem_cO h hZ _).1 ((hmem b).1 hm)).trans hpm hi (wd_in hw) (Eqw.pre hpm hi hbn u hx)
  have hcO : cO f s b 1000 = some (R.filter fun r => decide (Eqw f s b r)) := orbO_some horb (by
    have := List.length_filter_le (fun r => decide (Eqw f s b r)) R
    omega)
  have e1 : cwC f s b = 0 := by simp only [cwC, if_pos h, if_pos hbd, hcO]; rfl
  refine ⟨e1, ?_⟩
  have e2 : cwR f s b = R.filter fun r => decide (Eqw f s b r) := by simp only [cwR, cwO, if_pos (And.intro h hbd), hcO, lso_some]
  rw [nwR, e2]
  cases R with
  | nil => exact absurd rfl hne
  | cons a R =>
    have hab : a = b := hb
    subst hab
    have : Eqw f s a a := TR.start _ _ a
    rw [List.filter_cons_of_pos (by simpa using this)]
    rfl
end
end Go.Mch
/- DividesWord and QuotientWord: the walks. -/
namespace Go.Mch

open Classical in
noncomputable def rsR (f s : List (List Int)) (u w : List Int) : List (List Int) :=
  if isSol f s ∧ isWd f.length u ∧ isWd f.length w then (match cO f s u 1000, cO f s w 1000 with | some _, some Z => rstL Z u | _, _ => []) else []
open Classical in
noncomputable def rsC (f s : List (List Int)) (u w : List Int) : Int :=
  if isSol f s then (if isWd f.length u ∧ isWd f.length w then (match cO f s u 1000, cO f s w 1000 with | some _, some _ => 0 | _, _ => 3) else 2) else 1
def S_rests (pg : Pg) : Prop := ∀ (f s : List (List Int)) (u w : List Int), fits f → fits s → u.length ≤ 1048576 → w.length ≤ 1048576 → Call pg 345 [sol f s, ix u, ix w] [sol f s, ix u, ix w] (.tup [rowN (rsR f s u w), I (rsC f s u w)])
theorem winI_take (xs : List Int) (j : Nat) : win (xs.map I) 0 j = (xs.take j).map I := by simp [win, List.map_take]
theorem winI_drop (xs : List Int) (j : Nat) : win (xs.map I) j (xs.length - j) = (xs.drop j).map I := by simp [win, List.map_drop, List.take_of_length_le]
theorem frz_tb (X : List (List Int)) (y : Value) : T.frz .fresh (.tup [.mem .own (some 1) (rows X), .sc y]) = .tup [.mem .fresh (some 1) (rowsF X), .sc y] := by
  show T.tup [T.mem .fresh (some 1) (T.frzL .fresh (rows X)), .sc y] = _
  rw [frzRowsF]
theorem frz_nil (y : Value) : T.frz .fresh (.tup [nil, .sc y]) = .tup [nil, .sc y] := rfl
set_option maxRecDepth 10000 in
theorem t_restsOf {pg : Pg} (hp : pg.fn 345 = some c_impl_restsOf) (h38 : S_chk38 pg) (h297 : S_lim pg) (h276 : S_equal pg) (h36 : S_clone pg) : S_rests pg := by
  intro f s u w hf hs hu hw
  refine Call.intro hp rfl (by simp) ?_
  show wp _ _ c_impl_restsOf.body (post [.t 6, .t 7] _ _ _) _
  simp [c_impl_restsOf]
  refine callR (h38 f s [u, w] hf hs (by simp) (by simp [hu, hw])) rfl rfl (fun _ => rfl) ?_
  by_cases h : isSol f s
  · by_cases h1 : isWd f.length u ∧ isWd f.length w
    · have e0 := wdC_0 h (us := [u, w]) (by simp [h1])
      have hcu := h297 f s u hf hs h (wd_in h1.1) (by have := h1.1.2; omega)
      have hcw := h297 f s w hf hs h (wd_in h1.2) (by have := h1.2.2; omega)
      have e1 : rsR f s u w = (match cO f s u 1000, cO f s w 1000 with | some _, some Z => rstL Z u | _, _ => []) := by simp only [rsR, if_pos (And.intro h h1)]
      have e2 : rsC f s u w = (match cO f s u 1000, cO f s w 1000 with | some _, some _ => 0 | _, _ => 3) := by simp only [rsC, if_pos h, if_pos h1]
      rw [e1, e2]
      simp [e0]
      cases hgu : cO f s u 1000 with
      | none =>
        rw [hgu] at hcu
        refine callR hcu rfl rfl (fun _ => by simp [ownT]) ?_
        simp [ownT, cd3, rowN]
      | some U =>
        rw [hgu] at hcu
        refine callR hcu rfl rfl (fun _ => by simp [ownT]) ?_
        simp [ownT, cd3]
        cases hgw : cO f s w 1000 with
        | none =>
          rw [hgw] at hcw
          refine callR hcw rfl rfl (fun _ => by simp [ownT]) ?_
          simp [ownT, cd3, rowN, frz_nil]
        | some Z =>
          rw [hgw] at hcw
          have hZ := cO_len h (wd_in h1.2) hgw
          refine callR hcw rfl rfl (fun _ => by simp [ownT]) ?_
          simp [ownT, cd3, frz_tb]
          refine wpLoop_count (fun k e => e = fr [(1, some (.val (ix u))), (13, some (.val (rowN (rstL (Z.take k) u)))), (42, some (.val (.mem .fresh (some 1) (rowsF Z)))), (43, some (.val (I Z.length))), (44, some (.val (I k)))]) Z.length ?_ ?_ 0 _ (by omega) ?_
          · rintro k e hk rfl
            have hzk := (hZ.2.1 _ (List.getElem_mem hk)).2
            have h8 := h1.2.2
            rw [rstL_snoc hk]
            have hRl : (rstL (Z.take k) u).length ≤ 1000 := by
              unfold rstL
              rw [List.length_map]
              have h1 := List.length_filter_le (fun x => decide (x.take u.length = u)) (Z.take k)
              have h2 : (Z.take k).length ≤ Z.length := List.length_take_le' _ _
              omega
            generalize rstL (Z.take k) u = R at *
            have hzl : Z[k].length ≤ 1048576 := by omega
            by_cases hle : u.length ≤ Z[k].length
            · have htl : (Z[k].take u.length).length ≤ 1048576 := by simp; omega
              have hle' : (u.length : Int) ≤ Z[k].length := by omega
              have hdl : (Z[k].drop u.length).length ≤ 1048576 := by simp; omega
              simp [hk, hle', winI_take, -List.map_take]
              refine callR (h276 (Z[k].take u.length) u htl) rfl rfl (fun _ => rfl) ?_
              by_cases he : Z[k].take u.length = u
              · have hro : R.length + 1 ≤ roomy := by unfold roomy; omega
                by_cases hR : R = []
                · subst hR
                  simp [he, rowN, winI_drop, -List.map_drop, hle']
                  refine callR (h36 (Z[k].drop u.length) hdl) rfl rfl (fun _ => by simp [-List.map_drop]) ?_
                  simp [rows, roomy, -List.map_drop]
                  omega
                · simp only [if_pos he, rowN_ne hR, rowN_snoc]
                  simp [he, winI_drop, -List.map_drop, hle']
                  refine callR (h36 (Z[k].drop u.length) hdl) rfl rfl (fun _ => by simp [-List.map_drop]) ?_
                  simp [hro, -List.map_drop]
                  omega
              · simp [he]
                omega
            · have hne : ¬ Z[k].take u.length = u := fun hh => by
                have := congrArg List.length hh
                simp at this
                omega
              have hle' : ¬ (u.length : Int) ≤ Z[k].length := by omega
              simp [hk, hle', hne, undefV]
              omega
          · rintro e rfl
            rw [List.take_length]
            by_cases hR : rstL Z u = []
            · simp [hR, rowN]
            · simp [rowN_ne hR]
          · simp [rstL, rowN]
    · have e0 := wdC_2 h (us := [u, w]) (by simpa using h1)
      have e1 : rsR f s u w = [] := by simp only [rsR, if_neg fun hh : _ ∧ _ => h1 hh.2]
      have e2 : rsC f s u w = 2 := by simp only [rsC, if_pos h, if_neg h1]
      simp [e0, e1, e2, rowN]
  · have e0 := wdC_1 h [u, w]
    have e1 : rsR f s u w = [] := by simp only [rsR, if_neg fun hh : _ ∧ _ => h hh.1]
    have e2 : rsC f s u w = 1 := by simp only [rsC, if_neg h]
    simp [e0, e1, e2, rowN]

/-! ### Results -/

noncomputable def qwR (f s : List (List Int)) (u w : List Int) : List Int := hd0 (rsR f s u w)
open Classical in
noncomputable def qwC (f s : List (List Int)) (u w : List Int) : Int := if rsC f s u w ≠ 0 then rsC f s u w else if rsR f s u w = [] then 4 else 0
def S_qw (pg : Pg) (n : Nat) : Prop := ∀ (f s : List (List Int)) (u w : List Int), fits f → fits s → u.length ≤ 1048576 → w.length ≤ 1048576 → ∃ o, lso o = qwR f s u w ∧ Call pg n [sol f s, ix u, ix w] [sol f s, ix u, ix w] (.tup [ownI o, I (qwC f s u w)])
theorem rs_ne {f s : List (List Int)} {u w : List Int} (h : rsC f s u w ≠ 0) : rsR f s u w = [] := by
  unfold rsC at h
  unfold rsR
  split
  · rename_i h1
    rw [if_pos h1.1, if_pos h1.2] at h
    split
    · rename_i e1 e2
      rw [e1, e2] at h
      simp at h
    · rfl
  · rfl
theorem t_qw_impl {pg : Pg} (hp : pg.fn 237 = some c_impl_QuotientWord) (h345 : S_rests pg) : S_qw pg 237 := by
  intro f s u w hf hs hu hw
  have hc := h345 f s u w hf hs hu hw
  by_cases h0 : rsC f s u w = 0
  · by_cases hR : rsR f s u w = []
    · have e1 : qwC f s u w = 4 := by simp only [qwC, h0, hR]; simp
      refine ⟨none, by simp [qwR, hR, hd0], Call.intro hp rfl (by simp) ?_⟩
      show wp _ _ c_impl_QuotientWord.body (post [.t 6, .t 7] _ _ _) _
      simp [c_impl_QuotientWord]
      rw [hR, h0] at hc
      refine callR hc rfl rfl (fun _ => by simp [rowN]) ?_
      simp [rowN, e1, ownI]
    · have e1 : qwC f s u w = 0 := by simp only [qwC, h0, hR]; simp
      refine ⟨some (qwR f s u w), rfl, Call.intro hp rfl (by simp) ?_⟩
      show wp _ _ c_impl_QuotientWord.body (post [.t 6, .t 7] _ _ _) _
      simp [c_impl_QuotientWord]
      rw [rowN_ne hR, h0] at hc
      have h1 : 0 < (rsR f s u w).length := List.length_pos_iff.2 hR
      have h2 : ¬ ((rsR f s u w).length : Int) = 0 := by omega
      have e : qwR f s u w = (rsR f s u w)[0] := by simp [qwR, hd0, List.getD_eq_getElem?_getD, List.getElem?_eq_getElem h1]
      refine callR hc rfl rfl (fun _ => by simp) ?_
      simp [e1, ownI, h1, hR, e]
  · have hR := rs_ne h0
    have e1 : qwC f s u w = rsC f s u w := by simp only [qwC, if_pos h0]
    refine ⟨none, by simp [qwR, hR, hd0], Call.intro hp rfl (by simp) ?_⟩
    show wp _ _ c_impl_QuotientWord.body (post [.t 6, .t 7] _ _ _) _
    simp [c_impl_QuotientWord]
    rw [hR] at hc
    refine callR hc rfl rfl (fun _ => by simp [rowN]) ?_
    simp [rowN, e1, ownI, h0]

/-! ### The reference -/

def S_quo (pg : Pg) : Prop := ∀ (f s : List (List Int)) (u w : List Int), isSol f s → isWd f.length u → isWd f.length w →
  ((cO f s u 1000 = none ∨ cO f s w 1000 = none) → Call pg 344 [sol f s, ix u, ix w] [sol f s, ix u, ix w] (.tup [nil, B false, I 3])) ∧
  (∀ U Z, cO f s u 1000 = some U → cO f s w 1000 = some Z → Call pg 344 [sol f s, ix u, ix w] [sol f s, ix u, ix w] (.tup [.mem .own (some 1) ((hd0 (rstL Z u)).map I), B (decide (rstL Z u ≠ [])), I 0]))
theorem quo_fin {f s : List (List Int)} {u w : List Int} (h : isSol f s) (hu : isWd f.length u) (hw : isWd f.length w) {U Z : List (List Int)} (hU : cO f s u 1000 = some U) (hZ : cO f s w 1000 = some Z) {b : List Int} {x : Bool}
    (hinv : (x = false ∧ b = [] ∧ (u.length ≤ w.length → rstU Z U u.length = [])) ∨ (x = true ∧ b ∈ rstU Z U u.length ∧ u.length ≤ w.length ∧ ∀ r ∈ rstU Z U u.length, ¬ cmpL r b < 0)) :
    b = hd0 (rstL Z u) ∧ x = !decide (rstL Z u = []) := by
  rcases hinv with ⟨rfl, rfl, h3⟩ | ⟨rfl, h2, h3, h4⟩
  · have : rstL Z u = [] := by
      by_cases hle : u.length ≤ w.length
      · rw [List.eq_nil_iff_forall_not_mem]
        intro r hr
        have := (rst_same h (wd_in hu) (wd_in hw) hU hZ r).2 hr
        rw [h3 hle] at this
        cases this
      · exact rst_none h (wd_in hw) hZ (by omega)
    simp [this, hd0]
  · have hs := rst_same h (wd_in hu) (wd_in hw) hU hZ
    have hb := (hs b).1 h2
    have hne : rstL Z u ≠ [] := List.ne_nil_of_mem hb
    exact ⟨(hd0_min (srt_rstL (srt_cO h hZ) u) hb fun r hr => h4 r ((hs r).2 hr)).symm, by simp [hne]⟩
def ExQB (P : List Int → Bool → Prop) : Prop := ∃ b x, P b x
set_option maxRecDepth 10000 in
theorem t_l09Quotient {pg : Pg} (hp : pg.fn 344 = some c_spec_l09Quotient) (h339 : S_class pg) (h340 : S_find pg) (h408 : S_less pg) (h31 : S_own pg) : S_quo pg := by
  intro f s u w h hu hw
  have hcu := h339 f s u 1000 h (wd_in hu) (by have := hu.2; omega) (by omega) (by omega)
  have hcw := h339 f s w 1000 h (wd_in hw) (by have := hw.2; omega) (by omega) (by omega)
  constructor
  · intro hno
    refine Call.intro hp rfl (by simp) ?_
    show wp _ _ c_spec_l09Quotient.body (post [.t 6, .t 7, .t 8] _ _ _) _
    simp [c_spec_l09Quotient]
    cases hgu : cO f s u 1000 with
    | none =>
      rw [hgu] at hcu
      refine callR hcu rfl rfl (fun _ => by simp [grpT]) ?_
      simp [grpT]
      cases hgw : cO f s w 1000 with
      | none =>
        rw [hgw] at hcw
        refine callR hcw rfl rfl (fun _ => by simp [grpT]) ?_
        simp [grpT, undefV, frz_nil]
      | some Z =>
        rw [hgw] at hcw
        refine callR hcw rfl rfl (fun _ => by simp [grpT]) ?_
        simp [grpT, undefV, frz_tb]
    | some U =>
      rw [hgu] at hcu
      refine callR hcu rfl rfl (fun _ => by simp [grpT]) ?_
      simp [grpT]
      have hgw : cO f s w 1000 = none := hno.resolve_left (by rw [hgu]; simp)
      rw [hgw] at hcw
      refine callR hcw rfl rfl (fun _ => by simp [grpT]) ?_
      simp [grpT, frz_nil]
  · intro U Z hU hZ
    rw [hU] at hcu
    rw [hZ] at hcw
    have hlU := cO_len h (wd_in hu) hU
    have hlZ := cO_len h (wd_in hw) hZ
    refine Call.intro hp rfl (by simp) ?_
    show wp _ _ c_spec_l09Quotient.body (post [.t 6, .t 7, .t 8] _ _ _) _
    simp [c_spec_l09Quotient]
    refine callR hcu rfl rfl (fun _ => by simp [grpT]) ?_
    simp [grpT]
    refine callR hcw rfl rfl (fun _ => by simp [grpT]) ?_
    simp [grpT, frz_tb]
    refine wpLoop_count (fun k e => ExQB fun b x => ((x = false ∧ b = [] ∧ (k ≤ Z.length → u.length ≤ w.length → rstU (Z.take k) U u.length = [])) ∨ (x = true ∧ b ∈ rstU (Z.take k) U u.length ∧ u.length ≤ w.length ∧ ∀ r ∈ rstU (Z.take k) U u.length, ¬ cmpL r b < 0)) ∧ e = fr [(1, some (.val (ix u))), (2, some (.val (ix w))), (9, some (.val (.mem .own (some 1) (rows U)))), (11, some (.val (.mem .fresh (some 1) (rowsF Z)))), (13, some (.val (.mem .own (some 1) (b.map I)))), (14, some (.val (B x))), (15, some (.val (I k)))]) Z.length ?_ ?_ 0 _ (by omega) ⟨[], false, .inl ⟨rfl, rfl, fun _ _ => by simp [rstU]⟩, by simp⟩
    · rintro k e hk ⟨b, x, hinv, rfl⟩
      have hzk := (hlZ.2.1 _ (List.getElem_mem hk)).2
      have hw8 := hw.2
      by_cases hle : u.length ≤ w.length
      · have hle' : (u.length : Int) ≤ w.length := by omega
        have hfd := h340 U (Z[k].take u.length) (by omega) fun x hx => by have := (hlU.2.1 x hx).2; have := hu.2; omega
        have hsn := rstU_snoc (U := U) (n := u.length) hk
        have hdl : (Z[k].drop u.length).length ≤ 1048576 := by simp; omega
        have hls := h408 (Z[k].drop u.length) b hdl
        have hown := h31 (Z[k].drop u.length) hdl
        have hlez : u.length ≤ Z[k].length := by omega
        have hlez' : (u.length : Int) ≤ Z[k].length := by omega
        simp [hk, hle, hle', hlez', winI_take, -List.map_take]
        refine callR hfd rfl rfl (fun _ => rfl) ?_
        by_cases hin : Z[k].take u.length ∈ U
        · rw [if_pos hin] at hsn
          rcases hinv with ⟨rfl, rfl, h3⟩ | ⟨rfl, h2, h2', h3⟩
          · rw [h3 (by omega) hle, List.nil_append] at hsn
            simp [hk, hin, hlez', -List.map_drop, winI_drop, undefV]
            refine callR hown rfl rfl (fun _ => by simp [-List.map_drop]) ?_
            simp [-List.map_drop]
            refine ⟨by omega, Z[k].drop u.length, true, .inr ⟨rfl, ?_, ?_⟩, rfl⟩
            · rw [hsn]; simp
            · rw [hsn]
              intro r hr
              rw [List.mem_singleton] at hr
              have := (cmpL_zero r (Z[k].drop u.length)).2 hr
              show 0 ≤ cmpL r (Z[k].drop u.length)
              omega
          · simp [hk, hin, hlez', -List.map_drop, winI_drop]
            refine callR hls rfl rfl (fun _ => rfl) ?_
            by_cases hlt : cmpL (Z[k].drop u.length) b < 0
            · simp [hlt, -List.map_drop]
              refine callR hown rfl rfl (fun _ => by simp [-List.map_drop]) ?_
              simp [-List.map_drop]
              refine ⟨by omega, Z[k].drop u.length, true, .inr ⟨rfl, ?_, ?_⟩, rfl⟩
              · rw [hsn]; simp
              · rw [hsn]
                intro r hr
                rcases List.mem_append.1 hr with hr | hr
                · have h4 := h3 r hr
                  have h5 : ¬ cmpL r (Z[k].drop u.length) < 0 := fun hh => h4 (cmpL_trans _ _ _ hh hlt)
                  show 0 ≤ cmpL r (Z[k].drop u.length)
                  omega
                · rw [List.mem_singleton] at hr
                  have := (cmpL_zero r (Z[k].drop u.length)).2 hr
                  show 0 ≤ cmpL r (Z[k].drop u.length)
                  omega
            · simp [hlt]
              refine ⟨by omega, b, true, .inr ⟨rfl, ?_, ?_⟩, rfl⟩
              · rw [hsn]; exact List.mem_append.2 (.inl h2)
              · rw [hsn]
                intro r hr
                rcases List.mem_append.1 hr with hr | hr
                · have h4 := h3 r hr
                  show 0 ≤ cmpL r b
                  omega
                · rw [List.mem_singleton] at hr
                  subst hr
                  show 0 ≤ cmpL _ b
                  omega
        · rw [if_neg hin, List.append_nil] at hsn
          simp [hin]
          refine ⟨by omega, b, x, ?_, by simp⟩
          rw [hsn]
          rcases hinv with ⟨h1, h2, h3⟩ | hh
          · exact .inl ⟨h1, h2, fun _ => h3 (by omega) hle⟩
          · exact .inr ⟨hh.1, hh.2.1, fun r hr => by have := hh.2.2.2 r hr; omega⟩
      · have hle' : ¬ (u.length : Int) ≤ w.length := by omega
        simp [hk, hle, hle']
        have hb : b = hd0 (rstL Z u) ∧ x = !decide (rstL Z u = []) := by
          rcases hinv with ⟨rfl, rfl, h3⟩ | ⟨rfl, h2, h3, h4⟩
          · exact quo_fin h hu hw hU hZ (.inl ⟨rfl, rfl, fun hh => absurd hh hle⟩)
          · exact absurd h3 hle
        exact ⟨by rw [hb.1], hb.2⟩
    · rintro e ⟨b, x, hinv, rfl⟩
      rw [List.take_length] at hinv
      have hb := quo_fin h hu hw hU hZ (b := b) (x := x) (by
        rcases hinv with ⟨h1, h2, h3⟩ | hh
        · exact .inl ⟨h1, h2, h3 (Nat.le_refl _)⟩
        · exact .inr hh)
      simp [undefV]
      exact ⟨by rw [hb.1], hb.2⟩
end Go.Mch
/- DividesWord and QuotientWord, of the reference. -/
namespace Go.Mch

/-- What the quotient is of words. -/
theorem rs_none {f s : List (List Int)} {u w : List Int} (h : isSol f s) (h1 : isWd f.length u ∧ isWd f.length w) (hno : cO f s u 1000 = none ∨ cO f s w 1000 = none) : rsR f s u w = [] ∧ rsC f s u w = 3 := by
  unfold rsR rsC
  rw [if_pos (And.intro h h1), if_pos h, if_pos h1]
  rcases hno with hn | hn
  · rw [hn]; exact ⟨rfl, rfl⟩
  · rw [hn]
    cases cO f s u 1000 with
    | none => exact ⟨rfl, rfl⟩
    | some U => exact ⟨rfl, rfl⟩
theorem rs_some {f s : List (List Int)} {u w : List Int} (h : isSol f s) (h1 : isWd f.length u ∧ isWd f.length w) {U Z : List (List Int)} (hU : cO f s u 1000 = some U) (hZ : cO f s w 1000 = some Z) : rsR f s u w = rstL Z u ∧ rsC f s u w = 0 := by
  unfold rsR rsC
  rw [if_pos (And.intro h h1), if_pos h, if_pos h1, hU, hZ]
  exact ⟨rfl, rfl⟩
theorem opt_cases {α : Type} (a b : Option α) : (a = none ∨ b = none) ∨ ∃ x y, a = some x ∧ b = some y := by
  cases a with
  | none => exact .inl (.inl rfl)
  | some x => cases b with
    | none => exact .inl (.inr rfl)
    | some y => exact .inr ⟨x, y, rfl, rfl⟩
theorem t_qw_spec {pg : Pg} (hp : pg.fn 236 = some c_spec_QuotientWord) (h37 : S_code37 pg) (h344 : S_quo pg) (h220 : S_nw pg 220) : S_qw pg 236 := by
  intro f s u w hf hs hu hw
  have hc37 := h37 f s u w hf hs hu hw
  by_cases h : isSol f s
  · by_cases h1 : isWd f.length u ∧ isWd f.length w
    · have e0 := wdC_0 h (us := [u, w]) (by simp [h1])
      obtain ⟨q1, q2⟩ := h344 f s u w h h1.1 h1.2
      rcases opt_cases (cO f s u 1000) (cO f s w 1000) with hno | ⟨U, Z, hU, hZ⟩
      · obtain ⟨e1, e2⟩ := rs_none h h1 hno
        have e3 : qwC f s u w = 3 := by simp only [qwC, e2]; simp
        refine ⟨none, by simp [qwR, e1, hd0], Call.intro hp rfl (by simp) ?_⟩
        show wp _ _ c_spec_QuotientWord.body (post [.t 6, .t 7] _ _ _) _
        simp [c_spec_QuotientWord]
        refine callR hc37 rfl rfl (fun _ => rfl) ?_
        simp [e0]
        refine callR (q1 hno) rfl rfl (fun _ => by simp) ?_
        simp [e3, ownI]
      · obtain ⟨e1, e2⟩ := rs_some h h1 hU hZ
        by_cases hR : rstL Z u = []
        · have e3 : qwC f s u w = 4 := by simp only [qwC, e2, e1, hR]; simp
          refine ⟨none, by simp [qwR, e1, hR, hd0], Call.intro hp rfl (by simp) ?_⟩
          show wp _ _ c_spec_QuotientWord.body (post [.t 6, .t 7] _ _ _) _
          simp [c_spec_QuotientWord]
          refine callR hc37 rfl rfl (fun _ => rfl) ?_
          simp [e0]
          refine callR (q2 U Z hU hZ) rfl rfl (fun _ => by simp) ?_
          simp [e3, ownI, hR]
        · have e3 : qwC f s u w = 0 := by simp only [qwC, e2, e1, hR]; simp
          obtain ⟨n1, n2⟩ := rst_normal h h1.2 hZ hR
          have hb8 : (hd0 (rstL Z u)).length ≤ 8 := (cw_0 n1).2.1.2
          obtain ⟨o, o1, o2⟩ := h220 f s (hd0 (rstL Z u)) hf hs (by omega)
          refine ⟨o, by rw [o1, n2, qwR, e1], Call.intro hp rfl (by simp) ?_⟩
          show wp _ _ c_spec_QuotientWord.body (post [.t 6, .t 7] _ _ _) _
          simp [c_spec_QuotientWord]
          refine callR hc37 rfl rfl (fun _ => rfl) ?_
          simp [e0]
          refine callR (q2 U Z hU hZ) rfl rfl (fun _ => by simp) ?_
          simp [hR]
          refine callR o2 rfl rfl (fun _ => by cases o <;> simp [ownI]) ?_
          cases o with
          | none => simp [ownI, n1, e3]
          | some x => simp [ownI, n1, e3]
    · have e0 := wdC_2 h (us := [u, w]) (by simpa using h1)
      have e1 : rsR f s u w = [] := by simp only [rsR, if_neg fun hh : _ ∧ _ => h1 hh.2]
      have e2 : rsC f s u w = 2 := by simp only [rsC, if_pos h, if_neg h1]
      have e3 : qwC f s u w = 2 := by simp only [qwC, e2]; simp
      refine ⟨none, by simp [qwR, e1, hd0], Call.intro hp rfl (by simp) ?_⟩
      show wp _ _ c_spec_QuotientWord.body (post [.t 6, .t 7] _ _ _) _
      simp [c_spec_QuotientWord]
      refine callR hc37 rfl rfl (fun _ => rfl) ?_
      simp [e0, e3, ownI]
  · have e0 := wdC_1 h [u, w]
    have e1 : rsR f s u w = [] := by simp only [rsR, if_neg fun hh : _ ∧ _ => h hh.1]
    have e2 : rsC f s u w = 1 := by simp only [rsC, if_neg h]
    have e3 : qwC f s u w = 1 := by simp only [qwC, e2]; simp
    refine ⟨none, by simp [qwR, e1, hd0], Call.intro hp rfl (by simp) ?_⟩
    show wp _ _ c_spec_QuotientWord.body (post [.t 6, .t 7] _ _ _) _
    simp [c_spec_QuotientWord]
    refine callR hc37 rfl rfl (fun _ => rfl) ?_
    simp [e0, e3, ownI]
theorem qw_small (f s : List (List Int)) (u w : List Int) (_ : fits f) (_ : fits s) (_ : u.length ≤ 1048576) (_ : w.length ≤ 1048576) : (qwR f s u w).length ≤ 1048576 := by
  by_cases hR : rsR f s u w = []
  · simp [qwR, hR, hd0]
  · unfold rsR at hR
    split at hR
    · rename_i h
      rcases opt_cases (cO f s u 1000) (cO f s w 1000) with hno | ⟨U, Z, hU, hZ⟩
      · have e1 := (rs_none h.1 h.2 hno).1
        simp [qwR, e1, hd0]
      · have e1 := (rs_some h.1 h.2 hU hZ).1
        by_cases hR : rstL Z u = []
        · simp [qwR, e1, hR, hd0]
        · have hb8 : (hd0 (rstL Z u)).length ≤ 8 := (cw_0 (rst_normal h.1 h.2.2 hZ hR).1).2.1.2
          rw [qwR, e1]
          omega
    · exact absurd rfl hR
end Go.Mch
/- The runs of the laws of DividesWord, QuotientWord. -/
namespace Go.Mch
def S_law117 (pg : Pg) : Prop := S_lw_wwI pg 117
theorem t_law117 {pg : Pg} (hp : pg.fn 117 = some (lw_wwI 236 237)) (h236 : S_qw pg 236) (h237 : S_qw pg 237) (h14 : S_szSol pg) (h16 : S_toSol pg) (h18 : S_eqSol pg) (h7 : S_toI pg) (h9 : S_eqI pg) (h22 : S_markSol pg) (h12 : S_markI pg) (h13 : S_heldI pg) : S_law117 pg := by
  exact t_lw_wwI (R0 := qwR) (R1 := qwC) hp h236 h237 qw_small h14 h16 h18 h7 h9 h22 h12 h13
end Go.Mch
