/- Our texts YhJ YkM YiU, end to end. -/
import Derived.Test.YtmfppjjjamemnaaP1
import Derived.Test.YtmfppjjjamemnaaP2
/- The runs of the exact laws, by their shapes: sol,int,int-ints,int. -/
namespace Go.Mch
/-- The laws of this shape: sol, int, int to ints, int. -/
def lw_ppI (a b : Nat) : F where
  np := 3
  rs := [.t 6]
  body :=
    (.seq
    (.region none [ ⟨some 3, none, .box (.t 0)⟩, ⟨some 6, none, .mv (.c (.bool false))⟩] [1, 2, 3]) (.seq
    (.region none [ ⟨some 7, none, .mv (.c (.int .i64 1048576))⟩] [1, 2, 3, 7]) (.seq
    (.region none [ ⟨some 18, none, .ld (some 2) (.t 3)⟩, ⟨some 19, none, .mv (.t 7)⟩, ⟨some 20, none, .call (.f 14) [((.t 18), .r), ((.t 19), .r)]⟩, ⟨some 7, none, .mv (.t 20)⟩] [1, 2, 3, 7]) (.seq (.seq
    (.region none [ ⟨some 21, none, .mv (.t 7)⟩, ⟨some 22, none, .bin .lss (.t 21) (.c (.int .i64 0))⟩] [1, 2, 3, 22]) (.cond (.t 22) (.seq
    (.region none [ ⟨some 6, none, .mv (.c (.bool true))⟩] [6]) .ret) .skip)) (.seq
    (.region none [ ⟨some 24, none, .ld (some 2) (.t 3)⟩, ⟨some 25, none, .call (.f 16) [((.t 24), .r)]⟩, ⟨some 26, none, .mv (.t 1)⟩, ⟨some 27, none, .mv (.t 2)⟩, ⟨some 28, none, .call (.f a) [((.t 25), .r), ((.t 26), .r), ((.t 27), .r)]⟩, ⟨some 23, none, .mv (.t 28)⟩, ⟨some 29, none, .ext (.t 23) 0⟩, ⟨some 30, none, .ext (.t 23) 1⟩, ⟨some 8, none, .asg (.t 29)⟩, ⟨some 9, none, .mv (.t 30)⟩] [1, 2, 3, 8, 9]) (.seq
    (.region none [ ⟨some 31, none, .ld (some 2) (.t 3)⟩, ⟨some 32, none, .call (.f 16) [((.t 31), .r)]⟩, ⟨some 10, none, .alloc [(.slice none 0 0), (.slice none 0 0)]⟩, ⟨none, none, .st (some 2) (.t 10) (.t 32)⟩] [1, 2, 3, 8, 9, 10]) (.seq
    (.region none [ ⟨some 34, none, .ld (some 2) (.t 10)⟩, ⟨some 35, none, .mv (.t 1)⟩, ⟨some 36, none, .mv (.t 2)⟩, ⟨some 37, none, .call (.f b) [((.t 34), .r), ((.t 35), .r), ((.t 36), .r)]⟩, ⟨some 33, none, .mv (.t 37)⟩, ⟨some 38, none, .ext (.t 33) 0⟩, ⟨some 39, none, .ext (.t 33) 1⟩, ⟨some 11, none, .asg (.t 38)⟩, ⟨some 12, none, .mv (.t 39)⟩] [1, 2, 3, 8, 9, 10, 11, 12]) (.seq (.seq
    (.region none [ ⟨some 40, none, .mv (.t 11)⟩, ⟨some 41, none, .mv (.t 8)⟩, ⟨some 42, none, .call (.f 9) [((.t 40), .r), ((.t 41), .r)]⟩, ⟨some 43, none, .un .not (.t 42)⟩, ⟨some 44, none, .mv (.t 43)⟩, ⟨some 45, (some (44, false)), .mv (.t 12)⟩, ⟨some 46, (some (44, false)), .mv (.t 9)⟩, ⟨some 47, (some (44, false)), .bin .neq (.t 45) (.t 46)⟩, ⟨some 48, none, .pick (.t 44) (.c (.bool true)) (.t 47)⟩] [1, 2, 3, 8, 9, 10, 11, 12, 48]) (.cond (.t 48) (.seq
    (.region none [ ⟨some 6, none, .mv (.c (.bool false))⟩] [6]) .ret) .skip)) (.seq (.seq
    (.region (some [49, 50, 51]) [ ⟨some 49, none, .ld (some 2) (.t 10)⟩, ⟨some 50, none, .ld (some 2) (.t 3)⟩, ⟨some 51, none, .call (.f 16) [((.t 50), .r)]⟩, ⟨some 52, none, .call (.f 18) [((.t 49), .r), ((.t 51), .r)]⟩, ⟨some 53, none, .un .not (.t 52)⟩] [1, 2, 3, 8, 9, 10, 11, 12, 53]) (.cond (.t 53) (.seq
    (.region none [ ⟨some 6, none, .mv (.c (.bool false))⟩] [6]) .ret) .skip)) (.seq
    (.region none [ ⟨some 13, none, .mv (.c (.int .i64 1))⟩] [1, 2, 3, 8, 9, 10, 11, 12, 13]) (.seq
    (.region none [ ⟨some 54, none, .ld (some 2) (.t 10)⟩, ⟨some 55, none, .mv (.t 13)⟩, ⟨some 56, none, .callm (.f 22) [((.t 54), true), ((.t 55), false)] []⟩, ⟨some 13, none, .mv (.t 56)⟩] [1, 2, 3, 8, 9, 11, 12, 13]) (.seq (.seq
    (.region none [ ⟨some 57, none, .mv (.t 13)⟩, ⟨some 58, none, .bin .lss (.t 57) (.c (.int .i64 0))⟩, ⟨some 59, none, .mv (.t 58)⟩, ⟨some 60, (some (59, false)), .mv (.t 11)⟩, ⟨some 61, (some (59, false)), .mv (.t 8)⟩, ⟨some 62, (some (59, false)), .call (.f 9) [((.t 60), .r), ((.t 61), .r)]⟩, ⟨some 63, (some (59, false)), .un .not (.t 62)⟩, ⟨some 64, none, .pick (.t 59) (.c (.bool true)) (.t 63)⟩, ⟨some 65, none, .mv (.t 64)⟩, ⟨some 66, (some (65, false)), .mv (.t 12)⟩, ⟨some 67, (some (65, false)), .mv (.t 9)⟩, ⟨some 68, (some (65, false)), .bin .neq (.t 66) (.t 67)⟩, ⟨some 69, none, .pick (.t 65) (.c (.bool true)) (.t 68)⟩] [1, 2, 3, 8, 9, 11, 69]) (.cond (.t 69) (.seq
    (.region none [ ⟨some 6, none, .mv (.c (.bool false))⟩] [6]) .ret) .skip)) (.seq
    (.region none [ ⟨some 14, none, .mv (.c (.int .i64 1))⟩] [1, 2, 3, 8, 9, 11, 14]) (.seq
    (.region none [ ⟨some 70, none, .mv (.t 11)⟩, ⟨some 71, none, .mv (.t 14)⟩, ⟨some 72, none, .callm (.f 12) [((.t 70), true), ((.t 71), false)] []⟩, ⟨some 14, none, .mv (.t 72)⟩] [1, 2, 3, 8, 9, 11, 14]) (.seq
    (.region none [ ⟨some 15, none, .mv (.c (.int .i64 1))⟩] [1, 2, 3, 8, 9, 11, 14, 15]) (.seq
    (.region none [ ⟨some 73, none, .mv (.t 11)⟩, ⟨some 74, none, .mv (.t 15)⟩, ⟨some 75, none, .call (.f 13) [((.t 73), .r), ((.t 74), .r)]⟩, ⟨some 15, none, .mv (.t 75)⟩] [1, 2, 3, 8, 9, 11, 14, 15]) (.seq (.seq
    (.region none [ ⟨some 76, none, .mv (.t 15)⟩, ⟨some 77, none, .bin .lss (.t 76) (.c (.int .i64 0))⟩] [1, 2, 3, 8, 9, 11, 14, 15, 77]) (.cond (.t 77) (.seq
    (.region none [ ⟨some 6, none, .mv (.c (.bool false))⟩] [6]) .ret) .skip)) (.seq (.seq
    (.region none [ ⟨some 78, none, .mv (.t 15)⟩, ⟨some 79, none, .mv (.t 14)⟩, ⟨some 80, none, .bin .neq (.t 78) (.t 79)⟩] [1, 2, 3, 8, 9, 11, 14, 80]) (.cond (.t 80) (.seq
    (.region none [ ⟨some 6, none, .mv (.c (.bool false))⟩] [6]) .ret) .skip)) (.seq
    (.region none [ ⟨some 82, none, .ld (some 2) (.t 3)⟩, ⟨some 83, none, .call (.f 16) [((.t 82), .r)]⟩, ⟨some 84, none, .mv (.t 1)⟩, ⟨some 85, none, .mv (.t 2)⟩, ⟨some 86, none, .call (.f b) [((.t 83), .r), ((.t 84), .r), ((.t 85), .r)]⟩, ⟨some 81, none, .mv (.t 86)⟩, ⟨some 87, none, .ext (.t 81) 0⟩, ⟨some 88, none, .ext (.t 81) 1⟩, ⟨some 16, none, .asg (.t 87)⟩, ⟨some 17, none, .mv (.t 88)⟩] [8, 9, 11, 14, 16, 17]) (.seq (.seq
    (.region none [ ⟨some 89, none, .mv (.t 16)⟩, ⟨some 90, none, .mv (.t 8)⟩, ⟨some 91, none, .call (.f 9) [((.t 89), .r), ((.t 90), .r)]⟩, ⟨some 92, none, .un .not (.t 91)⟩, ⟨some 93, none, .mv (.t 92)⟩, ⟨some 94, (some (93, false)), .mv (.t 17)⟩, ⟨some 95, (some (93, false)), .mv (.t 9)⟩, ⟨some 96, (some (93, false)), .bin .neq (.t 94) (.t 95)⟩, ⟨some 97, none, .pick (.t 93) (.c (.bool true)) (.t 96)⟩] [11, 14, 97]) (.cond (.t 97) (.seq
    (.region none [ ⟨some 6, none, .mv (.c (.bool false))⟩] [6]) .ret) .skip)) (.seq
    (.region none [ ⟨some 15, none, .mv (.c (.int .i64 1))⟩] [11, 14, 15]) (.seq
    (.region none [ ⟨some 98, none, .mv (.t 11)⟩, ⟨some 99, none, .mv (.t 15)⟩, ⟨some 100, none, .call (.f 13) [((.t 98), .r), ((.t 99), .r)]⟩, ⟨some 15, none, .mv (.t 100)⟩] [14, 15]) (.seq (.seq
    (.region none [ ⟨some 101, none, .mv (.t 15)⟩, ⟨some 102, none, .bin .lss (.t 101) (.c (.int .i64 0))⟩] [14, 15, 102]) (.cond (.t 102) (.seq
    (.region none [ ⟨some 6, none, .mv (.c (.bool false))⟩] [6]) .ret) .skip)) (.seq (.seq
    (.region none [ ⟨some 103, none, .mv (.t 15)⟩, ⟨some 104, none, .mv (.t 14)⟩, ⟨some 105, none, .bin .neq (.t 103) (.t 104)⟩] [105]) (.cond (.t 105) (.seq
    (.region none [ ⟨some 6, none, .mv (.c (.bool false))⟩] [6]) .ret) .skip)) (.seq
    (.region none [ ⟨some 6, none, .mv (.c (.bool true))⟩] [6]) .ret)))))))))))))))))))))))))
def S_sh_ppI (pg : Pg) (n : Nat) (R0 : List (List Int) → List (List Int) → Int → Int → List Int) (R1 : List (List Int) → List (List Int) → Int → Int → Int) : Prop := ∀ (f0 s0 : List (List Int)) (p1 : Int) (p2 : Int), fits f0 → fits s0 → ∃ o0, lso o0 = R0 f0 s0 p1 p2 ∧ Call pg n [sol f0 s0, I p1, I p2] [sol f0 s0, I p1, I p2] (.tup [ownI o0, I (R1 f0 s0 p1 p2)])
def S_lw_ppI (pg : Pg) (n : Nat) : Prop := ∀ (a0 b0 : Rw (Rw Int)) (p1 : Int) (p2 : Int), small a0 → small b0 → ∃ args', Call pg n [.agg [rawT a0, rawT b0], I p1, I p2] args' (B true)
set_option maxRecDepth 20000 in
theorem t_lw_ppI {pg : Pg} {n a b : Nat} {R0 : List (List Int) → List (List Int) → Int → Int → List Int} {R1 : List (List Int) → List (List Int) → Int → Int → Int} (hp : pg.fn n = some (lw_ppI a b)) (hA : S_sh_ppI pg a R0 R1) (hB : S_sh_ppI pg b R0 R1) (hz0 : ∀ (f0 s0 : List (List Int)) (p1 : Int) (p2 : Int), fits f0 → fits s0 → (R0 f0 s0 p1 p2).length ≤ 1048576) (h14 : S_szSol pg) (h16 : S_toSol pg) (h18 : S_eqSol pg) (h9 : S_eqI pg) (h22 : S_markSol pg) (h12 : S_markI pg) (h13 : S_heldI pg) : S_lw_ppI pg n := by
  intro a0 b0 p1 p2 ha0 hb0
  refine ⟨[.agg [rawT a0, rawT b0], I p1, I p2], Call.intro hp rfl (by simp) ?_⟩
  obtain ⟨r, hr1, hr2, hsz⟩ := h14 a0 b0 1048576 ha0 hb0 (by omega) (by omega)
  have hto0 := h16 a0 b0 ha0 hb0
  have hfa0 := fitsT_of ha0
  have hfb0 := fitsT_of hb0
  generalize hF0 : (lst a0).map lst = F0 at *
  generalize hS0 : (lst b0).map lst = S0 at *
  obtain ⟨o0, e0, hc1⟩ := hA F0 S0 p1 p2 hfa0 hfb0
  obtain ⟨q0, g0, hc2⟩ := hB F0 S0 p1 p2 hfa0 hfb0
  have hsm0 := hz0 F0 S0 p1 p2 hfa0 hfb0
  rw [← g0] at hsm0
  have heq0 := g0.trans e0.symm
  clear e0 g0
  generalize R1 F0 S0 p1 p2 = o1 at *
  have hk0a := kAt_le (k := (1 : Int)) hfa0 F0.length (Nat.le_refl _)
  have hk0b := kAt_le (k := (kAt (1 : Int) F0 F0.length)) hfb0 S0.length (Nat.le_refl _)
  have hfl0 := hfa0.1
  have hsl0 := hfb0.1
  have hkN : ¬ (kAt (kAt (1 : Int) F0 F0.length) S0 S0.length) < 0 := by omega
  show wp _ _ (lw_ppI a b).body (post [.t 6] _ _ _) _
  simp [lw_ppI]
  refine callR hsz rfl rfl (fun _ => rfl) ?_
  by_cases hneg : r < 0
  · simp [hneg]
  · simp [hneg]
    cases o0 with
    | some X0 =>
      cases q0 with
      | some Y0 =>
        simp only [ownI, lso_some] at *
        subst heq0
        have hm0 : Y0.length ≤ 1048576 := hsm0
        have hn0 : ¬ ((1 : Int) + Y0.length) < 0 := by omega
        refine callR hto0 rfl rfl (fun _ => by simp) ?_
        simp
        refine callR hc1 rfl rfl (fun _ => by simp) ?_
        simp
        refine callR hto0 rfl rfl (fun _ => by simp) ?_
        simp
        refine callR hc2 rfl rfl (fun _ => by simp) ?_
        simp
        refine callR (h9.o (some Y0) (some Y0) hsm0) rfl rfl (fun _ => rfl) ?_
        simp
        refine callR hto0 rfl rfl (fun _ => by simp) ?_
        simp
        refine callR (h18.o F0 S0 F0 S0 hfa0 hfb0) rfl rfl (fun _ => rfl) ?_
        simp
        refine callM (ts' := [.agg [.mem .own (some 1) (rows (upT (1 : Int) F0)), .mem .own (some 1) (rows (upT (kAt (1 : Int) F0 F0.length) S0))], I (1 : Int)]) (r := I (kAt (kAt (1 : Int) F0 F0.length) S0 S0.length)) ?_ ?_ ?_ ?_
        · simp
        · simpa using h22 F0 S0 (1 : Int) hfa0 hfb0 (by omega) (by omega)
        · simp
        simp [hkN]
        refine callR (h9.o (some Y0) (some Y0) hsm0) rfl rfl (fun _ => rfl) ?_
        simp
        refine callM (ts' := [.mem .own (some 1) ((up (1 : Int) Y0.length).map I), I (1 : Int)]) (r := I ((1 : Int) + Y0.length)) ?_ ?_ ?_ ?_
        · simp
        · simpa using h12.at Y0 (1 : Int) hm0 (by omega) (by omega)
        · simp
        simp
        refine callR (h13.o (some (up (1 : Int) Y0.length)) (1 : Int) (by simpa using hm0) (by omega) (by omega)) rfl rfl (fun _ => rfl) ?_
        simp [held_up, hn0]
        refine callR hto0 rfl rfl (fun _ => by simp) ?_
        simp
        refine callR hc2 rfl rfl (fun _ => by simp) ?_
        simp
        refine callR (h9.o (some Y0) (some Y0) hsm0) rfl rfl (fun _ => rfl) ?_
        simp
        refine callR (h13.o (some (up (1 : Int) Y0.length)) (1 : Int) (by simpa using hm0) (by omega) (by omega)) rfl rfl (fun _ => rfl) ?_
        simp [held_up, hn0]
      | none =>
        simp only [ownI, lso_some, lso_none] at *
        subst heq0
        refine callR hto0 rfl rfl (fun _ => by simp) ?_
        simp
        refine callR hc1 rfl rfl (fun _ => by simp) ?_
        simp
        refine callR hto0 rfl rfl (fun _ => by simp) ?_
        simp
        refine callR hc2 rfl rfl (fun _ => by simp) ?_
        simp
        refine callR (h9.o none (some []) hsm0) rfl rfl (fun _ => rfl) ?_
        simp
        refine callR hto0 rfl rfl (fun _ => by simp) ?_
        simp
        refine callR (h18.o F0 S0 F0 S0 hfa0 hfb0) rfl rfl (fun _ => rfl) ?_
        simp
        refine callM (ts' := [.agg [.mem .own (some 1) (rows (upT (1 : Int) F0)), .mem .own (some 1) (rows (upT (kAt (1 : Int) F0 F0.length) S0))], I (1 : Int)]) (r := I (kAt (kAt (1 : Int) F0 F0.length) S0 S0.length)) ?_ ?_ ?_ ?_
        · simp
        · simpa using h22 F0 S0 (1 : Int) hfa0 hfb0 (by omega) (by omega)
        · simp
        simp [hkN]
        refine callR (h9.o none (some []) hsm0) rfl rfl (fun _ => rfl) ?_
        simp
        refine callM (ts' := [nil, I (1 : Int)]) (r := I (1 : Int)) ?_ ?_ ?_ ?_
        · simp
        · simpa using h12.at0 (1 : Int) (by omega) (by omega)
        · simp
        simp
        refine callR (h13.o none (1 : Int) hsm0 (by omega) (by omega)) rfl rfl (fun _ => rfl) ?_
        simp [held]
        refine callR hto0 rfl rfl (fun _ => by simp) ?_
        simp
        refine callR hc2 rfl rfl (fun _ => by simp) ?_
        simp
        refine callR (h9.o none (some []) hsm0) rfl rfl (fun _ => rfl) ?_
        simp
        refine callR (h13.o none (1 : Int) hsm0 (by omega) (by omega)) rfl rfl (fun _ => rfl) ?_
        simp [held]
    | none =>
      cases q0 with
      | some Y0 =>
        simp only [ownI, lso_some, lso_none] at *
        subst heq0
        refine callR hto0 rfl rfl (fun _ => by simp) ?_
        simp
        refine callR hc1 rfl rfl (fun _ => by simp) ?_
        simp
        refine callR hto0 rfl rfl (fun _ => by simp) ?_
        simp
        refine callR hc2 rfl rfl (fun _ => by simp) ?_
        simp
        refine callR (h9.o (some ([] : List Int)) none hsm0) rfl rfl (fun _ => rfl) ?_
        simp
        refine callR hto0 rfl rfl (fun _ => by simp) ?_
        simp
        refine callR (h18.o F0 S0 F0 S0 hfa0 hfb0) rfl rfl (fun _ => rfl) ?_
        simp
        refine callM (ts' := [.agg [.mem .own (some 1) (rows (upT (1 : Int) F0)), .mem .own (some 1) (rows (upT (kAt (1 : Int) F0 F0.length) S0))], I (1 : Int)]) (r := I (kAt (kAt (1 : Int) F0 F0.length) S0 S0.length)) ?_ ?_ ?_ ?_
        · simp
        · simpa using h22 F0 S0 (1 : Int) hfa0 hfb0 (by omega) (by omega)
        · simp
        simp [hkN]
        refine callR (h9.o (some ([] : List Int)) none hsm0) rfl rfl (fun _ => rfl) ?_
        simp
        refine callM (ts' := [.mem .own (some 1) [], I (1 : Int)]) (r := I (1 : Int)) ?_ ?_ ?_ ?_
        · simp
        · simpa [up] using h12.at ([] : List Int) (1 : Int) (by simp) (by omega) (by omega)
        · simp
        simp
        refine callR (h13.o (some []) (1 : Int) (by simp) (by omega) (by omega)) rfl rfl (fun _ => rfl) ?_
        simp [held]
        refine callR hto0 rfl rfl (fun _ => by simp) ?_
        simp
        refine callR hc2 rfl rfl (fun _ => by simp) ?_
        simp
        refine callR (h9.o (some ([] : List Int)) none hsm0) rfl rfl (fun _ => rfl) ?_
        simp
        refine callR (h13.o (some []) (1 : Int) (by simp) (by omega) (by omega)) rfl rfl (fun _ => rfl) ?_
        simp [held]
      | none =>
        simp only [ownI, lso_none] at *
        refine callR hto0 rfl rfl (fun _ => by simp) ?_
        simp
        refine callR hc1 rfl rfl (fun _ => by simp) ?_
        simp
        refine callR hto0 rfl rfl (fun _ => by simp) ?_
        simp
        refine callR hc2 rfl rfl (fun _ => by simp) ?_
        simp
        refine callR (h9.o none none hsm0) rfl rfl (fun _ => rfl) ?_
        simp
        refine callR hto0 rfl rfl (fun _ => by simp) ?_
        simp
        refine callR (h18.o F0 S0 F0 S0 hfa0 hfb0) rfl rfl (fun _ => rfl) ?_
        simp
        refine callM (ts' := [.agg [.mem .own (some 1) (rows (upT (1 : Int) F0)), .mem .own (some 1) (rows (upT (kAt (1 : Int) F0 F0.length) S0))], I (1 : Int)]) (r := I (kAt (kAt (1 : Int) F0 F0.length) S0 S0.length)) ?_ ?_ ?_ ?_
        · simp
        · simpa using h22 F0 S0 (1 : Int) hfa0 hfb0 (by omega) (by omega)
        · simp
        simp [hkN]
        refine callR (h9.o none none hsm0) rfl rfl (fun _ => rfl) ?_
        simp
        refine callM (ts' := [nil, I (1 : Int)]) (r := I (1 : Int)) ?_ ?_ ?_ ?_
        · simp
        · simpa using h12.at0 (1 : Int) (by omega) (by omega)
        · simp
        simp
        refine callR (h13.o none (1 : Int) hsm0 (by omega) (by omega)) rfl rfl (fun _ => rfl) ?_
        simp [held]
        refine callR hto0 rfl rfl (fun _ => by simp) ?_
        simp
        refine callR hc2 rfl rfl (fun _ => by simp) ?_
        simp
        refine callR (h9.o none none hsm0) rfl rfl (fun _ => rfl) ?_
        simp
        refine callR (h13.o none (1 : Int) hsm0 (by omega) (by omega)) rfl rfl (fun _ => rfl) ?_
        simp [held]
end Go.Mch
/- Involutive solutions, and CommonMultiple. -/
namespace Go.Mch

def iv (f s : List (List Int)) (x y : Nat) : Prop := v2 f (σN f x y) (τN s y x) = x ∧ v2 s (σN f x y) (τN s y x) = y
instance (f s : List (List Int)) (x y : Nat) : Decidable (iv f s x y) := by unfold iv; infer_instance
def isInv (f s : List (List Int)) : Prop := ∀ x, x < f.length → ∀ y, y < f.length → iv f s x y
def S_twice (pg : Pg) (n : Nat) : Prop := ∀ f s : List (List Int), PM f s → Call pg n [sol f s] [sol f s] (B (dec (isInv f s)))
set_option maxRecDepth 10000 in
theorem t_l02Twice {pg : Pg} (hp : pg.fn 351 = some c_spec_l02Twice) : S_twice pg 351 := by
  intro f s h
  have h0 := h.pos
  have h12 := h.small
  have hls := h.len
  have fr' := fun x hx => h.tf.row (x := x) hx
  have sr' : ∀ x (hx : x < s.length), (s[x]).length = f.length := fun x hx => (h.ts.row hx).trans hls
  refine Call.intro hp rfl (by simp) ?_
  show wp _ _ c_spec_l02Twice.body (post [.t 2] _ _ _) _
  simp [c_spec_l02Twice]
  refine wpLoop_count (fun a e => (∀ x, x < a → ∀ y, y < f.length → iv f s x y) ∧ e = fr [(1, some (.val (.mem .own none [tb f, tb s]))), (3, some (.val (I a)))]) f.length ?_ ?_ 0 _ (by omega) ⟨fun x hx => by omega, by simp⟩
  · rintro a e ha ⟨h1, rfl⟩
    simp [ha]
    refine wpLoop_count (fun b e => (∀ y, y < b → iv f s a y) ∧ e = fr [(1, some (.val (.mem .own none [tb f, tb s]))), (3, some (.val (I a))), (4, some (.val (I b)))]) f.length ?_ ?_ 0 _ (by omega) ⟨fun x hx => by omega, by simp⟩
    · rintro b e hb ⟨h2, rfl⟩
      have hf := h.v2f a b
      have hs2 := h.v2s a b
      have has : a < s.length := by omega
      have hfr := fr' a ha
      have hsr := sr' a has
      have hfg : (f[a])[b]'(by omega) = v2 f a b := get_v2 _ _
      have hsg : (s[a])[b]'(by omega) = v2 s a b := get_v2 _ _
      have hiv : iv f s a b ↔ v2 f (σN f a b) (τN s b a) = a ∧ v2 s (σN f a b) (τN s b a) = b := Iff.rfl
      have hf3 := h.v2f (σN f a b) (τN s b a)
      have hs3 := h.v2s (σN f a b) (τN s b a)
      obtain ⟨hf1, hf2⟩ := hf
      obtain ⟨hs1, hs2⟩ := hs2
      rw [← hf1] at hfg
      rw [← hs1] at hsg
      generalize σN f a b = u at *
      generalize τN s b a = v at *
      have hus : u < s.length := by omega
      have hfu := fr' u hf2
      have hsu := sr' u hus
      have hfg2 : (f[u])[v]'(by omega) = v2 f u v := get_v2 _ _
      have hsg2 : (s[u])[v]'(by omega) = v2 s u v := get_v2 _ _
      by_cases hx : v2 f u v = a
      · by_cases hy : v2 s u v = b
        · simp [ha, hb, has, hfr, hsr, hfg, hsg, hf2, hs2, hus, hfu, hsu, hfg2, hsg2, hx, hy]
          refine ⟨by omega, fun y hyb => ?_⟩
          rcases Nat.lt_or_ge y b with h3 | h3
          · exact h2 y h3
          · have : y = b := by omega
            subst this
            exact hiv.2 ⟨hx, hy⟩
        · have hn : ¬ isInv f s := fun hh => hy (hiv.1 (hh a ha b hb)).2
          simp [ha, hb, has, hfr, hsr, hfg, hsg, hf2, hs2, hus, hfu, hsu, hfg2, hsg2, hx, hy, dec_false hn]
      · have hn : ¬ isInv f s := fun hh => hx (hiv.1 (hh a ha b hb)).1
        simp [ha, hb, has, hfr, hsr, hfg, hsg, hf2, hs2, hfu, hfg2, hx, dec_false hn, undefV]
    · rintro e ⟨h2, rfl⟩
      simp
      refine ⟨by omega, fun x hx y hy => ?_⟩
      rcases Nat.lt_or_ge x a with h3 | h3
      · exact h1 x h3 y hy
      · have : x = a := by omega
        subst this
        exact h2 y hy
  · rintro e ⟨h1, rfl⟩
    have hn : isInv f s := fun x hx y hy => h1 x hx y hy
    simp [dec_true hn]
set_option maxRecDepth 10000 in
theorem t_isInvolutive {pg : Pg} (hp : pg.fn 298 = some c_impl_isInvolutive) : S_twice pg 298 := by
  intro f s h
  have h0 := h.pos
  have h12 := h.small
  have hls := h.len
  have fr' := fun x hx => h.tf.row (x := x) hx
  have sr' : ∀ x (hx : x < s.length), (s[x]).length = f.length := fun x hx => (h.ts.row hx).trans hls
  refine Call.intro hp rfl (by simp) ?_
  show wp _ _ c_impl_isInvolutive.body (post [.t 2] _ _ _) _
  simp [c_impl_isInvolutive]
  refine wpLoop_count (fun a e => (∀ x, x < a → ∀ y, y < f.length → iv f s x y) ∧ e = fr [(1, some (.val (.mem .own none [tb f, tb s]))), (9, some (.val (tb f))), (10, some (.val (I f.length))), (11, some (.val (I a)))]) f.length ?_ ?_ 0 _ (by omega) ⟨fun x hx => by omega, by simp⟩
  · rintro a e ha ⟨h1, rfl⟩
    have hfr := fr' a ha
    simp [ha, hfr]
    refine wpLoop_count (fun b e => (∀ y, y < b → iv f s a y) ∧ e = fr [(1, some (.val (.mem .own none [tb f, tb s]))), (3, some (.val (I a))), (9, some (.val (tb f))), (10, some (.val (I f.length))), (11, some (.val (I a))), (16, some (.val (ix f[a]))), (17, some (.val (I f.length))), (18, some (.val (I b)))]) f.length ?_ ?_ 0 _ (by omega) ⟨fun x hx => by omega, by simp⟩
    · rintro b e hb ⟨h2, rfl⟩
      have hf := h.v2f a b
      have hs2 := h.v2s a b
      have has : a < s.length := by omega
      have hsr := sr' a has
      have hfg : (f[a])[b]'(by omega) = v2 f a b := get_v2 _ _
      have hsg : (s[a])[b]'(by omega) = v2 s a b := get_v2 _ _
      have hiv : iv f s a b ↔ v2 f (σN f a b) (τN s b a) = a ∧ v2 s (σN f a b) (τN s b a) = b := Iff.rfl
      have hf3 := h.v2f (σN f a b) (τN s b a)
      have hs3 := h.v2s (σN f a b) (τN s b a)
      obtain ⟨hf1, hf2⟩ := hf
      obtain ⟨hs1, hs2⟩ := hs2
      rw [← hf1] at hfg
      rw [← hs1] at hsg
      generalize σN f a b = u at *
      generalize τN s b a = v at *
      have hus : u < s.length := by omega
      have hfu := fr' u hf2
      have hsu := sr' u hus
      have hfg2 : (f[u])[v]'(by omega) = v2 f u v := get_v2 _ _
      have hsg2 : (s[u])[v]'(by omega) = v2 s u v := get_v2 _ _
      have hbf : b < f[a].length := by omega
      by_cases hx : v2 f u v = a
      · by_cases hy : v2 s u v = b
        · simp [hb, has, hfr, hsr, hfg, hsg, hf2, hs2, hus, hfu, hsu, hfg2, hsg2, hx, hy]
          refine ⟨by omega, fun y hyb => ?_⟩
          rcases Nat.lt_or_ge y b with h3 | h3
          · exact h2 y h3
          · have : y = b := by omega
            subst this
            exact hiv.2 ⟨hx, hy⟩
        · have hn : ¬ isInv f s := fun hh => hy (hiv.1 (hh a ha b hb)).2
          simp [hb, has, hfr, hsr, hfg, hsg, hf2, hs2, hus, hfu, hsu, hfg2, hsg2, hx, hy, dec_false hn]
      · have hn : ¬ isInv f s := fun hh => hx (hiv.1 (hh a ha b hb)).1
        simp [hb, has, hfr, hsr, hfg, hsg, hf2, hs2, hfu, hfg2, hx, dec_false hn, undefV]
    · rintro e ⟨h2, rfl⟩
      simp
      refine ⟨by omega, fun x hx y hy => ?_⟩
      rcases Nat.lt_or_ge x a with h3 | h3
      · exact h1 x h3 y hy
      · have : x = a := by omega
        subst this
        exact h2 y hy
  · rintro e ⟨h1, rfl⟩
    have hn : isInv f s := fun x hx y hy => h1 x hx y hy
    simp [dec_true hn]

/-! ### Words of two letters -/

theorem dW_two (f s : List (List Int)) (a b : Int) : dW f s [a, b] 0 = [g2 f a b, g2 s a b] := rfl
theorem cls2 {f s : List (List Int)} (h : isSol f s) (hv : isInv f s) {x a : Nat} (hx : x < f.length) (ha : a < f.length) :
    ∃ Z, cO f s [(x : Int), (a : Int)] 1000 = some Z ∧ ∀ u, u ∈ Z ↔ u = [(x : Int), (a : Int)] ∨ u = [(σN f x a : Int), (τN s a x : Int)] := by
  have hpm := PM.of h.1
  have hi := h.2.1
  have e1 := hpm.v2f x a
  have e2 := hpm.v2s x a
  have hiv := hv x hx a ha
  have m1 : dW f s [(x : Int), (a : Int)] 0 = [(σN f x a : Int), (τN s a x : Int)] := by
    rw [dW_two, g2, g2, Int.toNat_natCast, Int.toNat_natCast, e1.1, e2.1]
  have m2 : dW f s [(σN f x a : Int), (τN s a x : Int)] 0 = [(x : Int), (a : Int)] := by
    rw [dW_two, g2, g2, Int.toNat_natCast, Int.toNat_natCast, hiv.1, hiv.2]
  have hb : ∀ p q : Nat, p < f.length → q < f.length → dW (invF f s) (invS f s) (dW f s [(p : Int), (q : Int)] 0) 0 = [(p : Int), (q : Int)] := fun p q hp hq => by
    have := (inv_g2 hpm hi (a := p) (b := q) ⟨by omega, by omega⟩ ⟨by omega, by omega⟩).1
    rw [dW_two, dW_two, this.1, this.2]
  have m3 := hb x a hx ha
  rw [m1] at m3
  have m4 := hb _ _ e1.2 e2.2
  rw [m2] at m4
  have htr : ∀ u, TR (cMv f s) 2 [(x : Int), (a : Int)] u ↔ u = [(x : Int), (a : Int)] ∨ u = [(σN f x a : Int), (τN s a x : Int)] := fun u => by
    constructor
    · intro ht
      refine ht (fun u => u = [(x : Int), (a : Int)] ∨ u = [(σN f x a : Int), (τN s a x : Int)]) (.inl rfl) fun y hy i hi => ?_
      obtain rfl | rfl : i = 0 ∨ i = 1 := by omega
      · have := cMv_0 f s y 0
        rw [Nat.mul_zero] at this
        rw [this]
        rcases hy with rfl | rfl
        · exact .inr m1
        · exact .inl m2
      · have := cMv_1 f s y 0
        rw [Nat.mul_zero, Nat.zero_add] at this
        rw [this]
        rcases hy with rfl | rfl
        · exact .inr m4
        · exact .inl m3
    · rintro (rfl | rfl)
      · exact TR.start _ _ _
      · have := TR.step (cMv f s) 2 [(x : Int), (a : Int)] (TR.start _ _ _) (i := 0) (by omega)
        have e := cMv_0 f s [(x : Int), (a : Int)] 0
        rw [Nat.mul_zero] at e
        rw [e, m1] at this
        exact this
  obtain ⟨Z, z1, z2⟩ := srt_ex [[(x : Int), (a : Int)], [(σN f x a : Int), (τN s a x : Int)]]
  have hz : ∀ u, u ∈ Z ↔ u = [(x : Int), (a : Int)] ∨ u = [(σN f x a : Int), (τN s a x : Int)] := fun u => by rw [z2]; simp
  have hl := len_le_of_sub Z _ z1.nodup fun u hu => (z2 u).1 hu
  simp only [List.length_cons, List.length_nil] at hl
  exact ⟨Z, orbO_some ⟨z1, fun u => (hz u).trans (htr u).symm⟩ (by omega), hz⟩
/-- Where a row of a table has a value. -/
theorem row_at {f s : List (List Int)} (hpm : PM f s) (hn : nonDeg f s) {x y : Nat} (hx : x < f.length) (hy : y < f.length) : ∃ u, u < f.length ∧ ixOf f[x] (y : Int) = u ∧ σN f x u = y ∧ ∀ a, a < f.length → σN f x a = y → a = u := by
  have hr := hpm.tf.row hx
  have hp := hn.1 _ (List.getElem_mem hx)
  have hgd : f.getD x [] = f[x] := by rw [List.getD_eq_getElem?_getD, List.getElem?_eq_getElem hx]; rfl
  have hv : ∀ a : Nat, v2 f x a = f[x].getD a 0 := fun a => by rw [v2, hgd]
  have hinj : ∀ a b, a < f.length → b < f.length → σN f x a = σN f x b → a = b := fun a b ha hb he => by
    have h1 := (hpm.v2f x a).1
    have h2 := (hpm.v2f x b).1
    have h3 : f[x].getD a 0 = f[x].getD b 0 := by rw [← hv, ← hv, ← h1, ← h2, he]
    exact row_inj hp (by omega) (by omega) h3
  obtain ⟨u, hu, he⟩ := surj_of_inj (n := f.length) (g := σN f x) (fun a _ => (hpm.v2f x a).2) hinj y hy
  have h1 := (hpm.v2f x u).1
  have hgu : f[x][u]'(by omega) = (y : Int) := by
    have := hv u
    rw [List.getD_eq_getElem?_getD, List.getElem?_eq_getElem (by omega)] at this
    rw [← he, h1, this]
    rfl
  exact ⟨u, hu, by rw [← hgu]; exact ixOf_nodup hp.2 (by omega), he, fun a ha hea => hinj a u ha hu (by rw [hea, he])⟩

/-! ### CommonMultiple -/

open Classical in
noncomputable def cmR (f s : List (List Int)) (x y : Int) : List Int :=
  if isSol f s ∧ ((0 ≤ x ∧ x < f.length) ∧ (0 ≤ y ∧ y < f.length) ∧ x ≠ y) ∧ nonDeg f s ∧ isInv f s then hd0 (lso (cO f s [x, ixOf (f.getD x.toNat []) y] 1000)) else []
open Classical in
noncomputable def cmC (f s : List (List Int)) (x y : Int) : Int :=
  if isSol f s then (if (0 ≤ x ∧ x < f.length) ∧ (0 ≤ y ∧ y < f.length) ∧ x ≠ y then (if nonDeg f s ∧ isInv f s then 0 else 5) else 2) else 1
def S_cm (pg : Pg) (n : Nat) : Prop := ∀ (f s : List (List Int)) (x y : Int), fits f → fits s → ∃ o, lso o = cmR f s x y ∧ Call pg n [sol f s, I x, I y] [sol f s, I x, I y] (.tup [ownI o, I (cmC f s x y)])
theorem t_cm_spec {pg : Pg} (hp : pg.fn 231 = some c_spec_CommonMultiple) (h41 : S_isSol pg 41) (h30 : S_in pg 30) (h350 : S_nonDeg pg 350) (h351 : S_twice pg 351) (h69 : S_index pg) (h339 : S_class pg) : S_cm pg 231 := by
  intro f s x y hf hs
  by_cases h : isSol f s
  · have hpm := PM.of h.1
    have h0 := hpm.pos
    have h12 := hpm.small
    by_cases h1 : (0 ≤ x ∧ x < f.length) ∧ (0 ≤ y ∧ y < f.length) ∧ x ≠ y
    · have hxl : 0 ≤ x ∧ x ≤ (f.length : Int) - 1 := by omega
      have hyl : 0 ≤ y ∧ y ≤ (f.length : Int) - 1 := by omega
      have hxy := h1.2.2
      by_cases h2 : nonDeg f s ∧ isInv f s
      · have e1 : cmR f s x y = hd0 (lso (cO f s [x, ixOf (f.getD x.toNat []) y] 1000)) := by simp only [cmR, if_pos (And.intro h (And.intro h1 h2))]
        have e2 : cmC f s x y = 0 := by simp only [cmC, if_pos h, if_pos h1, if_pos h2]
        rw [e1, e2]
        obtain ⟨X, rfl⟩ := Int.eq_ofNat_of_zero_le h1.1.1
        obtain ⟨Y, rfl⟩ := Int.eq_ofNat_of_zero_le h1.2.1.1
        have hX : X < f.length := by omega
        have hY : Y < f.length := by omega
        obtain ⟨u, u1, u2, u3, u4⟩ := row_at hpm h2.1 hX hY
        have hgd : f.getD ((X : Int)).toNat [] = f[X] := by rw [Int.toNat_natCast, List.getD_eq_getElem?_getD, List.getElem?_eq_getElem hX]; rfl
        obtain ⟨Z, z1, z2⟩ := cls2 h h2.2 hX u1
        have hin : inN f.length [(X : Int), (u : Int)] := fun v hv => by
          simp at hv
          omega
        have hcl := h339 f s [(X : Int), (u : Int)] 1000 h hin (by simp) (by omega) (by omega)
        have hrX := hpm.tf.row hX
        have hix := h69 f[X] (Y : Int) (by omega)
        rw [u2] at hix
        rw [hgd, u2, z1]
        rw [z1] at hcl
        have hZ0 : 0 < Z.length := List.length_pos_of_mem ((z2 _).2 (.inl rfl))
        refine ⟨some (hd0 Z), rfl, Call.intro hp rfl (by simp) ?_⟩
        show wp _ _ c_spec_CommonMultiple.body (post [.t 6, .t 7] _ _ _) _
        simp [c_spec_CommonMultiple]
        refine callR (h41 f s hf hs) rfl rfl (fun _ => rfl) ?_
        simp [dec_true h]
        refine ⟨by omega, ?_⟩
        refine callR (h30 X 0 ((f.length : Int) - 1)) rfl rfl (fun _ => rfl) ?_
        simp [hxl]
        refine ⟨by omega, ?_⟩
        refine callR (h30 Y 0 ((f.length : Int) - 1)) rfl rfl (fun _ => rfl) ?_
        simp [hyl, hxy]
        refine callR (h350 f s hpm) rfl rfl (fun _ => rfl) ?_
        simp [h2.1]
        refine callR (h351 f s hpm) rfl rfl (fun _ => rfl) ?_
        simp [dec_true h2.2, hX]
        refine callR hix rfl rfl (fun _ => rfl) ?_
        simp
        refine callR hcl rfl rfl (fun _ => by simp [grpT]) ?_
        have e : hd0 Z = Z[0] := by simp [hd0, List.getD_eq_getElem?_getD, List.getElem?_eq_getElem hZ0]
        simp [grpT, ownI, hZ0, e]
      · have e1 : cmR f s x y = [] := by simp only [cmR, if_neg fun hh : isSol f s ∧ _ ∧ _ => h2 hh.2.2]
        have e2 : cmC f s x y = 5 := by simp only [cmC, if_pos h, if_pos h1, if_neg h2]
        refine ⟨none, by rw [e1]; rfl, Call.intro hp rfl (by simp) ?_⟩
        show wp _ _ c_spec_CommonMultiple.body (post [.t 6, .t 7] _ _ _) _
        simp [c_spec_CommonMultiple]
        refine callR (h41 f s hf hs) rfl rfl (fun _ => rfl) ?_
        simp [dec_true h]
        refine ⟨by omega, ?_⟩
        refine callR (h30 x 0 ((f.length : Int) - 1)) rfl rfl (fun _ => rfl) ?_
        simp [hxl]
        refine ⟨by omega, ?_⟩
        refine callR (h30 y 0 ((f.length : Int) - 1)) rfl rfl (fun _ => rfl) ?_
        simp [hyl, hxy]
        refine callR (h350 f s hpm) rfl rfl (fun _ => rfl) ?_
        by_cases hnd : nonDeg f s
        · have hni : ¬ isInv f s := fun hh => h2 ⟨hnd, hh⟩
          simp [hnd]
          refine callR (h351 f s hpm) rfl rfl (fun _ => rfl) ?_
          simp [dec_false hni, e2, ownI]
        · simp [hnd, undefV, e2, ownI]
    · have e1 : cmR f s x y = [] := by simp only [cmR, if_neg fun hh : isSol f s ∧ _ ∧ _ => h1 hh.2.1]
      have e2 : cmC f s x y = 2 := by simp only [cmC, if_pos h, if_neg h1]
      refine ⟨none, by rw [e1]; rfl, Call.intro hp rfl (by simp) ?_⟩
      show wp _ _ c_spec_CommonMultiple.body (post [.t 6, .t 7] _ _ _) _
      simp [c_spec_CommonMultiple]
      refine callR (h41 f s hf hs) rfl rfl (fun _ => rfl) ?_
      simp [dec_true h]
      refine ⟨by omega, ?_⟩
      refine callR (h30 x 0 ((f.length : Int) - 1)) rfl rfl (fun _ => rfl) ?_
      by_cases hx : 0 ≤ x ∧ x ≤ (f.length : Int) - 1
      · simp [hx]
        refine ⟨by omega, ?_⟩
        refine callR (h30 y 0 ((f.length : Int) - 1)) rfl rfl (fun _ => rfl) ?_
        by_cases hy : 0 ≤ y ∧ y ≤ (f.length : Int) - 1
        · have hxy : x = y := Classical.byContradiction fun hh => h1 ⟨by omega, by omega, hh⟩
          simp [hy, hxy, ownI]
          rw [← e2, hxy]
        · simp [hy, e2, ownI, undefV]
      · simp [hx, e2, ownI, undefV]
  · have e1 : cmR f s x y = [] := by simp only [cmR, if_neg fun hh : isSol f s ∧ _ ∧ _ => h hh.1]
    have e2 : cmC f s x y = 1 := by simp only [cmC, if_neg h]
    refine ⟨none, by rw [e1]; rfl, Call.intro hp rfl (by simp) ?_⟩
    show wp _ _ c_spec_CommonMultiple.body (post [.t 6, .t 7] _ _ _) _
    simp [c_spec_CommonMultiple]
    refine callR (h41 f s hf hs) rfl rfl (fun _ => rfl) ?_
    simp [dec_false h, e2, ownI]

def S_cm1 (pg : Pg) : Prop := ∀ (w : List Int) (y : Int), 0 < w.length → Call pg 353 [ix w, .mem .old none [I y]] [ix w, .mem .old none [I y]] (B (decide (w.getD 0 0 = y)))
theorem t_cm1 {pg : Pg} (hp : pg.fn 353 = some c_impl_CommonMultiple_1) : S_cm1 pg := by
  intro w y hw
  have e : w.getD 0 0 = w[0] := by rw [List.getD_eq_getElem?_getD, List.getElem?_eq_getElem hw]; rfl
  refine Call.intro hp rfl (by simp) ?_
  show wp _ _ c_impl_CommonMultiple_1.body (post [.t 3] _ _ _) _
  simp [c_impl_CommonMultiple_1, hw]
set_option maxRecDepth 10000 in
theorem t_cm_impl {pg : Pg} (hp : pg.fn 232 = some c_impl_CommonMultiple) (h42 : S_isSol pg 42) (h39 : S_areElements pg) (h285 : S_nonDeg pg 285) (h298 : S_twice pg 298) (h352 : S_wordClass pg) (h63 : S_containsFunc pg) (h353 : S_cm1 pg) : S_cm pg 232 := by
  intro f s x y hf hs
  by_cases h : isSol f s
  · have hpm := PM.of h.1
    have h0 := hpm.pos
    have h12 := hpm.small
    have hel : inR 0 ((f.length : Int) - 1) [x, y] ↔ (0 ≤ x ∧ x < f.length) ∧ (0 ≤ y ∧ y < f.length) := by
      simp only [inR, List.mem_cons, List.not_mem_nil, or_false]
      constructor
      · intro hh
        have a := hh x (.inl rfl)
        have b := hh y (.inr rfl)
        omega
      · rintro ⟨a, b⟩ v (rfl | rfl) <;> omega
    by_cases h1 : (0 ≤ x ∧ x < f.length) ∧ (0 ≤ y ∧ y < f.length) ∧ x ≠ y
    · have hxy := h1.2.2
      have hin := hel.2 ⟨h1.1, h1.2.1⟩
      by_cases h2 : nonDeg f s ∧ isInv f s
      · have e1 : cmR f s x y = hd0 (lso (cO f s [x, ixOf (f.getD x.toNat []) y] 1000)) := by simp only [cmR, if_pos (And.intro h (And.intro h1 h2))]
        have e2 : cmC f s x y = 0 := by simp only [cmC, if_pos h, if_pos h1, if_pos h2]
        rw [e1, e2]
        obtain ⟨X, rfl⟩ := Int.eq_ofNat_of_zero_le h1.1.1
        obtain ⟨Y, rfl⟩ := Int.eq_ofNat_of_zero_le h1.2.1.1
        have hX : X < f.length := by omega
        have hY : Y < f.length := by omega
        obtain ⟨u, u1, u2, u3, u4⟩ := row_at hpm h2.1 hX hY
        have hgd : f.getD ((X : Int)).toNat [] = f[X] := by rw [Int.toNat_natCast, List.getD_eq_getElem?_getD, List.getElem?_eq_getElem hX]; rfl
        rw [hgd, u2]
        refine ⟨some (hd0 (lso (cO f s [(X : Int), (u : Int)] 1000))), rfl, Call.intro hp rfl (by simp) ?_⟩
        show wp _ _ c_impl_CommonMultiple.body (post [.t 6, .t 7] _ _ _) _
        simp [c_impl_CommonMultiple]
        refine callR (h42 f s hf hs) rfl rfl (fun _ => rfl) ?_
        simp [dec_true h]
        refine callR (h39 f.length [(X : Int), (Y : Int)] (by simp) (by omega) (by omega)) rfl rfl (fun _ => rfl) ?_
        simp [hin, hxy]
        refine callR (h285 f s hpm) rfl rfl (fun _ => rfl) ?_
        simp [h2.1]
        refine callR (h298 f s hpm) rfl rfl (fun _ => rfl) ?_
        simp [dec_true h2.2]
        refine wpLoop_count (fun a e => a ≤ u ∧ e = fr [(1, some (.val (I X))), (3, some (.val (.mem .own none [tb f, tb s]))), (5, some (.val (.mem .fresh none [I Y]))), (37, some (.val (I f.length))), (38, some (.val (I a)))]) f.length ?_ ?_ 0 _ (by omega) ⟨by omega, by simp⟩
        · rintro a e ha ⟨hau, rfl⟩
          obtain ⟨Z, z1, z2⟩ := cls2 h h2.2 hX ha
          have hinw : inN f.length [(X : Int), (a : Int)] := fun v hv => by
            simp at hv
            omega
          have hcl := h352 f s [(X : Int), (a : Int)] 1000 hf hs h hinw (by simp) (by omega) (by omega)
          have hZl := cO_len h hinw z1
          have hct := h63 Z (fun w => decide (w.getD 0 0 = (Y : Int))) 353 [.mem .old none [I Y]] (by omega) (by simp) (by simp) fun r hr => h353 r Y (by have := (hZl.2.1 r hr).2; simp at this; omega)
          have hany : Z.any (fun w => decide (w.getD 0 0 = (Y : Int))) = decide (a = u) := by
            rw [Bool.eq_iff_iff, List.any_eq_true, decide_eq_true_iff]
            constructor
            · rintro ⟨w, hw, he⟩
              rw [decide_eq_true_iff] at he
              rcases (z2 w).1 hw with rfl | rfl
              · exact absurd he hxy
              · simp at he
                exact u4 a ha (by omega)
            · rintro rfl
              exact ⟨_, (z2 _).2 (.inr rfl), by simp [u3]⟩
          rw [hany] at hct
          have hZ0 : 0 < Z.length := List.length_pos_of_mem ((z2 _).2 (.inl rfl))
          have e : hd0 Z = Z[0] := by simp [hd0, List.getD_eq_getElem?_getD, List.getElem?_eq_getElem hZ0]
          rw [z1] at hcl
          simp [ha]
          refine callR hcl rfl rfl (fun _ => by simp [grpT]) ?_
          simp [grpT]
          refine callR hct rfl rfl (fun _ => rfl) ?_
          by_cases hau2 : a = u
          · subst hau2
            rw [z1]
            simp [ownI, hZ0, e]
          · simp [hau2]
            omega
        · rintro e ⟨hau, rfl⟩
          omega
      · have e1 : cmR f s x y = [] := by simp only [cmR, if_neg fun hh : isSol f s ∧ _ ∧ _ => h2 hh.2.2]
        have e2 : cmC f s x y = 5 := by simp only [cmC, if_pos h, if_pos h1, if_neg h2]
        refine ⟨none, by rw [e1]; rfl, Call.intro hp rfl (by simp) ?_⟩
        show wp _ _ c_impl_CommonMultiple.body (post [.t 6, .t 7] _ _ _) _
        simp [c_impl_CommonMultiple]
        refine callR (h42 f s hf hs) rfl rfl (fun _ => rfl) ?_
        simp [dec_true h]
        refine callR (h39 f.length [x, y] (by simp) (by omega) (by omega)) rfl rfl (fun _ => rfl) ?_
        simp [hin, hxy]
        refine callR (h285 f s hpm) rfl rfl (fun _ => rfl) ?_
        by_cases hnd : nonDeg f s
        · have hni : ¬ isInv f s := fun hh => h2 ⟨hnd, hh⟩
          simp [hnd]
          refine callR (h298 f s hpm) rfl rfl (fun _ => rfl) ?_
          simp [dec_false hni, e2, ownI]
        · simp [hnd, undefV, e2, ownI]
    · have e1 : cmR f s x y = [] := by simp only [cmR, if_neg fun hh : isSol f s ∧ _ ∧ _ => h1 hh.2.1]
      have e2 : cmC f s x y = 2 := by simp only [cmC, if_pos h, if_neg h1]
      refine ⟨none, by rw [e1]; rfl, Call.intro hp rfl (by simp) ?_⟩
      show wp _ _ c_impl_CommonMultiple.body (post [.t 6, .t 7] _ _ _) _
      simp [c_impl_CommonMultiple]
      refine callR (h42 f s hf hs) rfl rfl (fun _ => rfl) ?_
      simp [dec_true h]
      refine callR (h39 f.length [x, y] (by simp) (by omega) (by omega)) rfl rfl (fun _ => rfl) ?_
      by_cases hin : inR 0 ((f.length : Int) - 1) [x, y]
      · have hxy : x = y := Classical.byContradiction fun hh => h1 ⟨(hel.1 hin).1, (hel.1 hin).2, hh⟩
        rw [e2]
        clear e2 e1 h1
        subst hxy
        simp [hin, ownI]
      · simp [hin, e2, ownI, undefV]
  · have e1 : cmR f s x y = [] := by simp only [cmR, if_neg fun hh : isSol f s ∧ _ ∧ _ => h hh.1]
    have e2 : cmC f s x y = 1 := by simp only [cmC, if_neg h]
    refine ⟨none, by rw [e1]; rfl, Call.intro hp rfl (by simp) ?_⟩
    show wp _ _ c_impl_CommonMultiple.body (post [.t 6, .t 7] _ _ _) _
    simp [c_impl_CommonMultiple]
    refine callR (h42 f s hf hs) rfl rfl (fun _ => rfl) ?_
    simp [dec_false h, e2, ownI]
theorem cm_small (f s : List (List Int)) (x y : Int) (_ : fits f) (_ : fits s) : (cmR f s x y).length ≤ 1048576 := by
  unfold cmR
  split
  · rename_i h
    obtain ⟨h, ⟨⟨x0, x1⟩, ⟨y0, y1⟩, _⟩, h2⟩ := h
    have hpm := PM.of h.1
    obtain ⟨X, rfl⟩ := Int.eq_ofNat_of_zero_le x0
    obtain ⟨Y, rfl⟩ := Int.eq_ofNat_of_zero_le y0
    have hX : X < f.length := by omega
    have hY : Y < f.length := by omega
    obtain ⟨u, u1, u2, u3, u4⟩ := row_at hpm h2.1 hX hY
    have hgd : f.getD ((X : Int)).toNat [] = f[X] := by rw [Int.toNat_natCast, List.getD_eq_getElem?_getD, List.getElem?_eq_getElem hX]; rfl
    obtain ⟨Z, z1, z2⟩ := cls2 h h2.2 hX u1
    rw [hgd, u2, z1]
    show (hd0 Z).length ≤ 1048576
    have hne : Z ≠ [] := List.ne_nil_of_mem ((z2 _).2 (.inl rfl))
    rcases (z2 _).1 (hd0_mem hne) with e | e <;> rw [e] <;> simp
  · simp
end Go.Mch
/- The runs of the laws of CommonMultiple. -/
namespace Go.Mch
def S_law115 (pg : Pg) : Prop := S_lw_ppI pg 115
theorem t_law115 {pg : Pg} (hp : pg.fn 115 = some (lw_ppI 231 232)) (h231 : S_cm pg 231) (h232 : S_cm pg 232) (h14 : S_szSol pg) (h16 : S_toSol pg) (h18 : S_eqSol pg) (h9 : S_eqI pg) (h22 : S_markSol pg) (h12 : S_markI pg) (h13 : S_heldI pg) : S_law115 pg := by
  exact t_lw_ppI (R0 := cmR) (R1 := cmC) hp h231 h232 cm_small h14 h16 h18 h9 h22 h12 h13
end Go.Mch
