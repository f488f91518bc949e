/- Our texts YhA YkC YiW, end to end. -/
import Derived.Test.YtmfppjjjamemnaaP1
import Derived.Test.YtmfppjjjamemnaaP2
/- The runs of the exact laws, by their shapes: sol-tbl,int. -/
namespace Go.Mch
/-- The laws of this shape: sol to tbl, int. -/
def lw_T (a b : Nat) : F where
  np := 1
  rs := [.t 2]
  body :=
    (.seq
    (.region none [ ⟨some 1, none, .box (.t 0)⟩, ⟨some 2, none, .mv (.c (.bool false))⟩] [1]) (.seq
    (.region none [ ⟨some 3, none, .mv (.c (.int .i64 1048576))⟩] [1, 3]) (.seq
    (.region none [ ⟨some 14, none, .ld (some 2) (.t 1)⟩, ⟨some 15, none, .mv (.t 3)⟩, ⟨some 16, none, .call (.f 14) [((.t 14), .r), ((.t 15), .r)]⟩, ⟨some 3, none, .mv (.t 16)⟩] [1, 3]) (.seq (.seq
    (.region none [ ⟨some 17, none, .mv (.t 3)⟩, ⟨some 18, none, .bin .lss (.t 17) (.c (.int .i64 0))⟩] [1, 18]) (.cond (.t 18) (.seq
    (.region none [ ⟨some 2, none, .mv (.c (.bool true))⟩] [2]) .ret) .skip)) (.seq
    (.region none [ ⟨some 20, none, .ld (some 2) (.t 1)⟩, ⟨some 21, none, .call (.f 16) [((.t 20), .r)]⟩, ⟨some 22, none, .call (.f a) [((.t 21), .r)]⟩, ⟨some 19, none, .mv (.t 22)⟩, ⟨some 23, none, .ext (.t 19) 0⟩, ⟨some 24, none, .ext (.t 19) 1⟩, ⟨some 4, none, .asg (.t 23)⟩, ⟨some 5, none, .mv (.t 24)⟩] [1, 4, 5]) (.seq
    (.region none [ ⟨some 25, none, .ld (some 2) (.t 1)⟩, ⟨some 26, none, .call (.f 16) [((.t 25), .r)]⟩, ⟨some 6, none, .alloc [(.slice none 0 0), (.slice none 0 0)]⟩, ⟨none, none, .st (some 2) (.t 6) (.t 26)⟩] [1, 4, 5, 6]) (.seq
    (.region none [ ⟨some 28, none, .ld (some 2) (.t 6)⟩, ⟨some 29, none, .call (.f b) [((.t 28), .r)]⟩, ⟨some 27, none, .mv (.t 29)⟩, ⟨some 30, none, .ext (.t 27) 0⟩, ⟨some 31, none, .ext (.t 27) 1⟩, ⟨some 7, none, .asg (.t 30)⟩, ⟨some 8, none, .mv (.t 31)⟩] [1, 4, 5, 6, 7, 8]) (.seq (.seq
    (.region none [ ⟨some 32, none, .mv (.t 7)⟩, ⟨some 33, none, .mv (.t 4)⟩, ⟨some 34, none, .call (.f 21) [((.t 32), .r), ((.t 33), .r)]⟩, ⟨some 35, none, .un .not (.t 34)⟩, ⟨some 36, none, .mv (.t 35)⟩, ⟨some 37, (some (36, false)), .mv (.t 8)⟩, ⟨some 38, (some (36, false)), .mv (.t 5)⟩, ⟨some 39, (some (36, false)), .bin .neq (.t 37) (.t 38)⟩, ⟨some 40, none, .pick (.t 36) (.c (.bool true)) (.t 39)⟩] [1, 4, 5, 6, 7, 8, 40]) (.cond (.t 40) (.seq
    (.region none [ ⟨some 2, none, .mv (.c (.bool false))⟩] [2]) .ret) .skip)) (.seq (.seq
    (.region (some [41, 42, 43]) [ ⟨some 41, none, .ld (some 2) (.t 6)⟩, ⟨some 42, none, .ld (some 2) (.t 1)⟩, ⟨some 43, none, .call (.f 16) [((.t 42), .r)]⟩, ⟨some 44, none, .call (.f 18) [((.t 41), .r), ((.t 43), .r)]⟩, ⟨some 45, none, .un .not (.t 44)⟩] [1, 4, 5, 6, 7, 8, 45]) (.cond (.t 45) (.seq
    (.region none [ ⟨some 2, none, .mv (.c (.bool false))⟩] [2]) .ret) .skip)) (.seq
    (.region none [ ⟨some 9, none, .mv (.c (.int .i64 1))⟩] [1, 4, 5, 6, 7, 8, 9]) (.seq
    (.region none [ ⟨some 46, none, .ld (some 2) (.t 6)⟩, ⟨some 47, none, .mv (.t 9)⟩, ⟨some 48, none, .callm (.f 22) [((.t 46), true), ((.t 47), false)] []⟩, ⟨some 9, none, .mv (.t 48)⟩] [1, 4, 5, 7, 8, 9]) (.seq (.seq
    (.region none [ ⟨some 49, none, .mv (.t 9)⟩, ⟨some 50, none, .bin .lss (.t 49) (.c (.int .i64 0))⟩, ⟨some 51, none, .mv (.t 50)⟩, ⟨some 52, (some (51, false)), .mv (.t 7)⟩, ⟨some 53, (some (51, false)), .mv (.t 4)⟩, ⟨some 54, (some (51, false)), .call (.f 21) [((.t 52), .r), ((.t 53), .r)]⟩, ⟨some 55, (some (51, false)), .un .not (.t 54)⟩, ⟨some 56, none, .pick (.t 51) (.c (.bool true)) (.t 55)⟩, ⟨some 57, none, .mv (.t 56)⟩, ⟨some 58, (some (57, false)), .mv (.t 8)⟩, ⟨some 59, (some (57, false)), .mv (.t 5)⟩, ⟨some 60, (some (57, false)), .bin .neq (.t 58) (.t 59)⟩, ⟨some 61, none, .pick (.t 57) (.c (.bool true)) (.t 60)⟩] [1, 4, 5, 7, 61]) (.cond (.t 61) (.seq
    (.region none [ ⟨some 2, none, .mv (.c (.bool false))⟩] [2]) .ret) .skip)) (.seq
    (.region none [ ⟨some 10, none, .mv (.c (.int .i64 1))⟩] [1, 4, 5, 7, 10]) (.seq
    (.region none [ ⟨some 62, none, .mv (.t 7)⟩, ⟨some 63, none, .mv (.t 10)⟩, ⟨some 64, none, .callm (.f 23) [((.t 62), true), ((.t 63), false)] []⟩, ⟨some 10, none, .mv (.t 64)⟩] [1, 4, 5, 7, 10]) (.seq
    (.region none [ ⟨some 11, none, .mv (.c (.int .i64 1))⟩] [1, 4, 5, 7, 10, 11]) (.seq
    (.region none [ ⟨some 65, none, .mv (.t 7)⟩, ⟨some 66, none, .mv (.t 11)⟩, ⟨some 67, none, .call (.f 24) [((.t 65), .r), ((.t 66), .r)]⟩, ⟨some 11, none, .mv (.t 67)⟩] [1, 4, 5, 7, 10, 11]) (.seq (.seq
    (.region none [ ⟨some 68, none, .mv (.t 11)⟩, ⟨some 69, none, .bin .lss (.t 68) (.c (.int .i64 0))⟩] [1, 4, 5, 7, 10, 11, 69]) (.cond (.t 69) (.seq
    (.region none [ ⟨some 2, none, .mv (.c (.bool false))⟩] [2]) .ret) .skip)) (.seq (.seq
    (.region none [ ⟨some 70, none, .mv (.t 11)⟩, ⟨some 71, none, .mv (.t 10)⟩, ⟨some 72, none, .bin .neq (.t 70) (.t 71)⟩] [1, 4, 5, 7, 10, 72]) (.cond (.t 72) (.seq
    (.region none [ ⟨some 2, none, .mv (.c (.bool false))⟩] [2]) .ret) .skip)) (.seq
    (.region none [ ⟨some 74, none, .ld (some 2) (.t 1)⟩, ⟨some 75, none, .call (.f 16) [((.t 74), .r)]⟩, ⟨some 76, none, .call (.f b) [((.t 75), .r)]⟩, ⟨some 73, none, .mv (.t 76)⟩, ⟨some 77, none, .ext (.t 73) 0⟩, ⟨some 78, none, .ext (.t 73) 1⟩, ⟨some 12, none, .asg (.t 77)⟩, ⟨some 13, none, .mv (.t 78)⟩] [4, 5, 7, 10, 12, 13]) (.seq (.seq
    (.region none [ ⟨some 79, none, .mv (.t 12)⟩, ⟨some 80, none, .mv (.t 4)⟩, ⟨some 81, none, .call (.f 21) [((.t 79), .r), ((.t 80), .r)]⟩, ⟨some 82, none, .un .not (.t 81)⟩, ⟨some 83, none, .mv (.t 82)⟩, ⟨some 84, (some (83, false)), .mv (.t 13)⟩, ⟨some 85, (some (83, false)), .mv (.t 5)⟩, ⟨some 86, (some (83, false)), .bin .neq (.t 84) (.t 85)⟩, ⟨some 87, none, .pick (.t 83) (.c (.bool true)) (.t 86)⟩] [7, 10, 87]) (.cond (.t 87) (.seq
    (.region none [ ⟨some 2, none, .mv (.c (.bool false))⟩] [2]) .ret) .skip)) (.seq
    (.region none [ ⟨some 11, none, .mv (.c (.int .i64 1))⟩] [7, 10, 11]) (.seq
    (.region none [ ⟨some 88, none, .mv (.t 7)⟩, ⟨some 89, none, .mv (.t 11)⟩, ⟨some 90, none, .call (.f 24) [((.t 88), .r), ((.t 89), .r)]⟩, ⟨some 11, none, .mv (.t 90)⟩] [10, 11]) (.seq (.seq
    (.region none [ ⟨some 91, none, .mv (.t 11)⟩, ⟨some 92, none, .bin .lss (.t 91) (.c (.int .i64 0))⟩] [10, 11, 92]) (.cond (.t 92) (.seq
    (.region none [ ⟨some 2, none, .mv (.c (.bool false))⟩] [2]) .ret) .skip)) (.seq (.seq
    (.region none [ ⟨some 93, none, .mv (.t 11)⟩, ⟨some 94, none, .mv (.t 10)⟩, ⟨some 95, none, .bin .neq (.t 93) (.t 94)⟩] [95]) (.cond (.t 95) (.seq
    (.region none [ ⟨some 2, none, .mv (.c (.bool false))⟩] [2]) .ret) .skip)) (.seq
    (.region none [ ⟨some 2, none, .mv (.c (.bool true))⟩] [2]) .ret)))))))))))))))))))))))))
def S_sh_T (pg : Pg) (n : Nat) (R0 : List (List Int) → List (List Int) → List (List Int)) (R1 : List (List Int) → List (List Int) → Int) : Prop := ∀ (f0 s0 : List (List Int)), fits f0 → fits s0 → ∃ o0, lso o0 = R0 f0 s0 ∧ Call pg n [sol f0 s0] [sol f0 s0] (.tup [ownT o0, I (R1 f0 s0)])
def S_lw_T (pg : Pg) (n : Nat) : Prop := ∀ (a0 b0 : Rw (Rw Int)), small a0 → small b0 → ∃ args', Call pg n [.agg [rawT a0, rawT b0]] args' (B true)
set_option maxRecDepth 20000 in
theorem t_lw_T {pg : Pg} {n a b : Nat} {R0 : List (List Int) → List (List Int) → List (List Int)} {R1 : List (List Int) → List (List Int) → Int} (hp : pg.fn n = some (lw_T a b)) (hA : S_sh_T pg a R0 R1) (hB : S_sh_T pg b R0 R1) (hz0 : ∀ (f0 s0 : List (List Int)), fits f0 → fits s0 → smallT (R0 f0 s0)) (h14 : S_szSol pg) (h16 : S_toSol pg) (h18 : S_eqSol pg) (h22 : S_markSol pg) (h21 : S_eqT pg) (h23 : S_markT pg) (h24 : S_heldT pg) : S_lw_T pg n := by
  intro a0 b0 ha0 hb0
  refine ⟨[.agg [rawT a0, rawT b0]], Call.intro hp rfl (by simp) ?_⟩
  obtain ⟨r, hr1, hr2, hsz⟩ := h14 a0 b0 1048576 ha0 hb0 (by omega) (by omega)
  have hto0 := h16 a0 b0 ha0 hb0
  have hfa0 := fitsT_of ha0
  have hfb0 := fitsT_of hb0
  generalize hF0 : (lst a0).map lst = F0 at *
  generalize hS0 : (lst b0).map lst = S0 at *
  obtain ⟨o0, e0, hc1⟩ := hA F0 S0 hfa0 hfb0
  obtain ⟨q0, g0, hc2⟩ := hB F0 S0 hfa0 hfb0
  have hsm0 := hz0 F0 S0 hfa0 hfb0
  rw [← g0] at hsm0
  have heq0 := g0.trans e0.symm
  clear e0 g0
  generalize R1 F0 S0 = o1 at *
  have hk0a := kAt_le (k := (1 : Int)) hfa0 F0.length (Nat.le_refl _)
  have hk0b := kAt_le (k := (kAt (1 : Int) F0 F0.length)) hfb0 S0.length (Nat.le_refl _)
  have hfl0 := hfa0.1
  have hsl0 := hfb0.1
  have hkN : ¬ (kAt (kAt (1 : Int) F0 F0.length) S0 S0.length) < 0 := by omega
  show wp _ _ (lw_T a b).body (post [.t 2] _ _ _) _
  simp [lw_T]
  refine callR hsz rfl rfl (fun _ => rfl) ?_
  by_cases hneg : r < 0
  · simp [hneg]
  · simp [hneg]
    cases o0 with
    | some X0 =>
      cases q0 with
      | some Y0 =>
        simp only [ownT, lso_some] at *
        subst heq0
        have hm0 := kAt_le (k := (1 : Int)) hsm0 Y0.length (Nat.le_refl _)
        have hy0 := hsm0.1
        have hn0 : ¬ (kAt (1 : Int) Y0 Y0.length) < 0 := by omega
        refine callR hto0 rfl rfl (fun _ => by simp) ?_
        simp
        refine callR hc1 rfl rfl (fun _ => by simp) ?_
        simp
        refine callR hto0 rfl rfl (fun _ => by simp) ?_
        simp
        refine callR hc2 rfl rfl (fun _ => by simp) ?_
        simp
        refine callR (h21.o (some Y0) (some Y0) hsm0) rfl rfl (fun _ => rfl) ?_
        simp
        refine callR hto0 rfl rfl (fun _ => by simp) ?_
        simp
        refine callR (h18.o F0 S0 F0 S0 hfa0 hfb0) rfl rfl (fun _ => rfl) ?_
        simp
        refine callM (ts' := [.agg [.mem .own (some 1) (rows (upT (1 : Int) F0)), .mem .own (some 1) (rows (upT (kAt (1 : Int) F0 F0.length) S0))], I (1 : Int)]) (r := I (kAt (kAt (1 : Int) F0 F0.length) S0 S0.length)) ?_ ?_ ?_ ?_
        · simp
        · simpa using h22 F0 S0 (1 : Int) hfa0 hfb0 (by omega) (by omega)
        · simp
        simp [hkN]
        refine callR (h21.o (some Y0) (some Y0) hsm0) rfl rfl (fun _ => rfl) ?_
        simp
        refine callM (ts' := [.mem .own (some 1) (rows (upT (1 : Int) Y0)), I (1 : Int)]) (r := I (kAt (1 : Int) Y0 Y0.length)) ?_ ?_ ?_ ?_
        · simp
        · simpa using h23.at Y0 (1 : Int) hsm0 (by omega) (by omega)
        · simp
        simp
        refine callR (h24.o (some (upT (1 : Int) Y0)) (1 : Int) (upT_small hsm0 (1 : Int)) (by omega) (by omega)) rfl rfl (fun _ => rfl) ?_
        simp [heldL_all, hn0]
        refine callR hto0 rfl rfl (fun _ => by simp) ?_
        simp
        refine callR hc2 rfl rfl (fun _ => by simp) ?_
        simp
        refine callR (h21.o (some Y0) (some Y0) hsm0) rfl rfl (fun _ => rfl) ?_
        simp
        refine callR (h24.o (some (upT (1 : Int) Y0)) (1 : Int) (upT_small hsm0 (1 : Int)) (by omega) (by omega)) rfl rfl (fun _ => rfl) ?_
        simp [heldL_all, hn0]
      | none =>
        simp only [ownT, lso_some, lso_none] at *
        subst heq0
        refine callR hto0 rfl rfl (fun _ => by simp) ?_
        simp
        refine callR hc1 rfl rfl (fun _ => by simp) ?_
        simp
        refine callR hto0 rfl rfl (fun _ => by simp) ?_
        simp
        refine callR hc2 rfl rfl (fun _ => by simp) ?_
        simp
        refine callR (h21.o none (some []) hsm0) rfl rfl (fun _ => rfl) ?_
        simp
        refine callR hto0 rfl rfl (fun _ => by simp) ?_
        simp
        refine callR (h18.o F0 S0 F0 S0 hfa0 hfb0) rfl rfl (fun _ => rfl) ?_
        simp
        refine callM (ts' := [.agg [.mem .own (some 1) (rows (upT (1 : Int) F0)), .mem .own (some 1) (rows (upT (kAt (1 : Int) F0 F0.length) S0))], I (1 : Int)]) (r := I (kAt (kAt (1 : Int) F0 F0.length) S0 S0.length)) ?_ ?_ ?_ ?_
        · simp
        · simpa using h22 F0 S0 (1 : Int) hfa0 hfb0 (by omega) (by omega)
        · simp
        simp [hkN]
        refine callR (h21.o none (some []) hsm0) rfl rfl (fun _ => rfl) ?_
        simp
        refine callM (ts' := [nil, I (1 : Int)]) (r := I (1 : Int)) ?_ ?_ ?_ ?_
        · simp
        · simpa using h23.at0 (1 : Int) (by omega) (by omega)
        · simp
        simp
        refine callR (h24.o none (1 : Int) hsm0 (by omega) (by omega)) rfl rfl (fun _ => rfl) ?_
        simp [heldL]
        refine callR hto0 rfl rfl (fun _ => by simp) ?_
        simp
        refine callR hc2 rfl rfl (fun _ => by simp) ?_
        simp
        refine callR (h21.o none (some []) hsm0) rfl rfl (fun _ => rfl) ?_
        simp
        refine callR (h24.o none (1 : Int) hsm0 (by omega) (by omega)) rfl rfl (fun _ => rfl) ?_
        simp [heldL]
    | none =>
      cases q0 with
      | some Y0 =>
        simp only [ownT, lso_some, lso_none] at *
        subst heq0
        have hm0 := kAt_le (k := (1 : Int)) hsm0 ([] : List (List Int)).length (Nat.le_refl _)
        have hy0 := hsm0.1
        have hn0 : ¬ (kAt (1 : Int) ([] : List (List Int)) ([] : List (List Int)).length) < 0 := by omega
        refine callR hto0 rfl rfl (fun _ => by simp) ?_
        simp
        refine callR hc1 rfl rfl (fun _ => by simp) ?_
        simp
        refine callR hto0 rfl rfl (fun _ => by simp) ?_
        simp
        refine callR hc2 rfl rfl (fun _ => by simp) ?_
        simp
        refine callR (h21.o (some ([] : List (List Int))) none hsm0) rfl rfl (fun _ => rfl) ?_
        simp
        refine callR hto0 rfl rfl (fun _ => by simp) ?_
        simp
        refine callR (h18.o F0 S0 F0 S0 hfa0 hfb0) rfl rfl (fun _ => rfl) ?_
        simp
        refine callM (ts' := [.agg [.mem .own (some 1) (rows (upT (1 : Int) F0)), .mem .own (some 1) (rows (upT (kAt (1 : Int) F0 F0.length) S0))], I (1 : Int)]) (r := I (kAt (kAt (1 : Int) F0 F0.length) S0 S0.length)) ?_ ?_ ?_ ?_
        · simp
        · simpa using h22 F0 S0 (1 : Int) hfa0 hfb0 (by omega) (by omega)
        · simp
        simp [hkN]
        refine callR (h21.o (some ([] : List (List Int))) none hsm0) rfl rfl (fun _ => rfl) ?_
        simp
        refine callM (ts' := [.mem .own (some 1) (rows (upT (1 : Int) ([] : List (List Int)))), I (1 : Int)]) (r := I (kAt (1 : Int) ([] : List (List Int)) ([] : List (List Int)).length)) ?_ ?_ ?_ ?_
        · simp
        · simpa using h23.at ([] : List (List Int)) (1 : Int) hsm0 (by omega) (by omega)
        · simp
        simp
        refine callR (h24.o (some (upT (1 : Int) ([] : List (List Int)))) (1 : Int) (upT_small hsm0 (1 : Int)) (by omega) (by omega)) rfl rfl (fun _ => rfl) ?_
        simp [heldL_all, kAt_zero]
        refine callR hto0 rfl rfl (fun _ => by simp) ?_
        simp
        refine callR hc2 rfl rfl (fun _ => by simp) ?_
        simp
        refine callR (h21.o (some ([] : List (List Int))) none hsm0) rfl rfl (fun _ => rfl) ?_
        simp
        refine callR (h24.o (some (upT (1 : Int) ([] : List (List Int)))) (1 : Int) (upT_small hsm0 (1 : Int)) (by omega) (by omega)) rfl rfl (fun _ => rfl) ?_
        simp [heldL_all, kAt_zero]
      | none =>
        simp only [ownT, lso_none] at *
        refine callR hto0 rfl rfl (fun _ => by simp) ?_
        simp
        refine callR hc1 rfl rfl (fun _ => by simp) ?_
        simp
        refine callR hto0 rfl rfl (fun _ => by simp) ?_
        simp
        refine callR hc2 rfl rfl (fun _ => by simp) ?_
        simp
        refine callR (h21.o none none hsm0) rfl rfl (fun _ => rfl) ?_
        simp
        refine callR hto0 rfl rfl (fun _ => by simp) ?_
        simp
        refine callR (h18.o F0 S0 F0 S0 hfa0 hfb0) rfl rfl (fun _ => rfl) ?_
        simp
        refine callM (ts' := [.agg [.mem .own (some 1) (rows (upT (1 : Int) F0)), .mem .own (some 1) (rows (upT (kAt (1 : Int) F0 F0.length) S0))], I (1 : Int)]) (r := I (kAt (kAt (1 : Int) F0 F0.length) S0 S0.length)) ?_ ?_ ?_ ?_
        · simp
        · simpa using h22 F0 S0 (1 : Int) hfa0 hfb0 (by omega) (by omega)
        · simp
        simp [hkN]
        refine callR (h21.o none none hsm0) rfl rfl (fun _ => rfl) ?_
        simp
        refine callM (ts' := [nil, I (1 : Int)]) (r := I (1 : Int)) ?_ ?_ ?_ ?_
        · simp
        · simpa using h23.at0 (1 : Int) (by omega) (by omega)
        · simp
        simp
        refine callR (h24.o none (1 : Int) hsm0 (by omega) (by omega)) rfl rfl (fun _ => rfl) ?_
        simp [heldL]
        refine callR hto0 rfl rfl (fun _ => by simp) ?_
        simp
        refine callR hc2 rfl rfl (fun _ => by simp) ?_
        simp
        refine callR (h21.o none none hsm0) rfl rfl (fun _ => rfl) ?_
        simp
        refine callR (h24.o none (1 : Int) hsm0 (by omega) (by omega)) rfl rfl (fun _ => rfl) ?_
        simp [heldL]
end Go.Mch
/- Groups of permutations, of the program, and LeftGroup. -/
namespace Go.Mch

theorem sm_of {Q : List (List Int)} (hl : Q.length ≤ 1000000) (h : ∀ x ∈ Q, x.length ≤ 1048576) : Sm Q := ⟨hl, fun k => by
  by_cases hk : k < Q.length
  · rw [← gt_at hk]
    exact h _ (List.getElem_mem hk)
  · simp [gt, hk]⟩
def S_equalTo (pg : Pg) (n : Nat) : Prop := ∀ (w x : List Int), w.length ≤ 1048576 → x.length ≤ 1048576 → Call pg n [ix x, .mem .old none [ix w]] [ix x, .mem .old none [ix w]] (B (decide (x = w)))
theorem t_group1 {pg : Pg} (hp : pg.fn 382 = some c_impl_groupElements_1) (h276 : S_equal pg) : S_equalTo pg 382 := by
  intro w x hw hx
  refine Call.intro hp rfl (by simp) ?_
  show wp _ _ c_impl_groupElements_1.body (post [.t 3] _ _ _) _
  simp [c_impl_groupElements_1]
  refine callR (h276 x w hx) rfl rfl (fun _ => rfl) ?_
  simp
def S_group274 (pg : Pg) : Prop := ∀ (ms : List (List Int)) (n : Nat), Prms n ms → ms.length ≤ 1000 → 0 < n → n ≤ 12 → Call pg 274 [I n, tb ms] [I n, tb ms] (grpT (grpO ms n))
set_option maxRecDepth 10000 in
theorem t_groupElements {pg : Pg} (hp : pg.fn 274 = some c_impl_groupElements) (h335 : S_identity pg) (h277 : S_then pg 277) (h63 : S_containsFunc pg) (h382 : S_equalTo pg 382) (h313 : S_sort pg) : S_group274 pg := by
  intro ms n hm hml hn0 hn
  refine Call.intro hp rfl (by simp) ?_
  show wp _ _ c_impl_groupElements.body (post [.t 4, .t 5] _ _ _) _
  simp [c_impl_groupElements]
  refine callR (h335 n (by omega)) rfl rfl (fun _ => by simp) ?_
  simp
  refine wpLoop_lower (α := List (List Int) × Nat) (fun z => 1001 - z.2) (fun z e => (BF ms n z.1 z.2 0 ∧ z.2 ≤ z.1.length) ∧ e = fr [(1, some (.val (tb ms))), (6, some (.val (.mem .own (some 1) (rows z.1)))), (7, some (.val (I z.2)))]) ?_ ([idL n], 0) _ ⟨⟨BF.start ms n, by simp⟩, by simp [rows]⟩
  rintro ⟨Q, i⟩ e ⟨⟨g, gi⟩, rfl⟩
  simp only at g gi
  have hQl := g.le
  by_cases hi : i < Q.length
  · simp [hi]
    refine wpLoop_count (fun k e => ExT fun Q' => (BF ms n Q' i k ∧ i < Q'.length) ∧ e = fr [(1, some (.val (tb ms))), (6, some (.val (.mem .own (some 1) (rows Q')))), (7, some (.val (I i))), (20, some (.val (tb ms))), (21, some (.val (I ms.length))), (22, some (.val (I k)))]) ms.length ?_ ?_ 0 _ (by omega) (ExT.mk Q ⟨⟨g, hi⟩, by simp⟩)
    · clear g gi hi hQl
      rintro k e hk ⟨Q, ⟨g, hi⟩, rfl⟩
      have hQl := g.le
      have hpm : ms[k] ∈ ms := List.getElem_mem hk
      have hx := (g.gr _ (List.getElem_mem hi)).perm hm
      have hpl := (hm _ hpm).1
      have hth := h277 Q[i] ms[k] (by omega) (by rw [hpl]; exact hx.2)
      have hQr : ∀ x ∈ Q, x.length ≤ 1048576 := fun x hx => by have := ((g.gr x hx).perm hm).1; omega
      have hWl : (thenL Q[i] ms[k]).length ≤ 1048576 := by rw [thenL_length]; omega
      have hold := g.old hk hi
      have hnew := g.new hk hi
      simp [hi, hk]
      refine callR hth rfl rfl (fun _ => by simp) ?_
      generalize hW : thenL Q[i] ms[k] = W at *
      have hct := h63 Q (fun x => decide (x = W)) 382 [.mem .old none [ix W]] (by omega) (by simp) (by simp) fun r hr => h382 W r hWl (hQr r hr)
      have hany : Q.any (fun x => decide (x = W)) = decide (W ∈ Q) := by
        rw [Bool.eq_iff_iff, List.any_eq_true, decide_eq_true_iff]
        constructor
        · rintro ⟨y, hy, he⟩
          rw [decide_eq_true_iff] at he
          exact he ▸ hy
        · exact fun hh => ⟨W, hh, by simp⟩
      rw [hany] at hct
      simp
      refine callR hct rfl rfl (fun _ => rfl) ?_
      by_cases hin : W ∈ Q
      · simp [hin]
        refine ⟨by omega, ExT.mk Q ⟨⟨hold hin, hi⟩, by simp⟩⟩
      · obtain ⟨n1, n2, n3⟩ := hnew hin
        by_cases h1000 : Q.length = 1000
        · have hno : grpO ms n = none := grpO_none n1 n2 (by simp; omega)
          simp [hin, h1000, hno, grpT]
        · have h1000' : ¬ (Q.length : Int) = 1000 := by omega
          simp [hin, h1000, h1000', roomy]
          exact ⟨by omega, by omega, ExT.mk (Q ++ [W]) ⟨⟨n3 (by omega), by simp; omega⟩, by simp [rows]⟩⟩
    · rintro e ⟨Q, ⟨g, hi⟩, rfl⟩
      have hQl := g.le
      simp
      exact ⟨by omega, Q, i + 1, by omega, ⟨g.up hi, by omega⟩, by simp⟩
  · have hQr : ∀ x ∈ Q, x.length ≤ 1048576 := fun x hx => by have := ((g.gr x hx).perm hm).1; omega
    obtain ⟨Y, ⟨y1, y2⟩, hy⟩ := h313 Q (sm_of (by omega) hQr) (dj_of g.nd)
    have hYl := len_of_same y1.nodup g.nd y2
    have hres : grpO ms n = some Y := grpO_some ⟨y1, fun x => (y2 x).trans ⟨g.gr x, g.all hi x⟩⟩ (by omega)
    simp [hi]
    refine callM (ts' := [ownR Y, .fn 314 []]) (r := .tup []) ?_ ?_ ?_ ?_
    · simp
    · simpa using hy
    · simp
    · simp [hres, grpT]

noncomputable def lgO (f : List (List Int)) : Option (List (List Int)) := grpO f f.length
noncomputable def lgR (f s : List (List Int)) : List (List Int) := onReg [] (fun f _ => lso (lgO f)) f s
noncomputable def lgC (f s : List (List Int)) : Int := onReg 1 (fun f _ => cd3 (lgO f)) f s
def S_lg (pg : Pg) (n : Nat) : Prop := ∀ f s : List (List Int), fits f → fits s → ∃ o, lso o = lgR f s ∧ Call pg n [sol f s] [sol f s] (.tup [ownT o, I (lgC f s)])
theorem t_lg_spec {pg : Pg} (hp : pg.fn 222 = some c_spec_LeftGroup) (h264 : S_reg pg 264) (h343 : S_group pg) : S_lg pg 222 := by
  intro f s hf hs
  by_cases h : isReg f s
  · have hpm := PM.of h.1.1
    have h12 := hpm.small
    have hg := h343 f f.length (prmsL hpm h.2).1 (by omega) hpm.pos h12
    refine ⟨lgO f, by simp [lgR, onReg_true h], Call.intro hp rfl (by simp) ?_⟩
    show wp _ _ c_spec_LeftGroup.body (post [.t 2, .t 3] _ _ _) _
    simp [c_spec_LeftGroup]
    refine callR (h264 f s hf hs) rfl rfl (fun _ => rfl) ?_
    simp [dec_true h, lgC, onReg_true h, lgO]
    cases hgr : grpO f f.length with
    | none =>
      rw [hgr] at hg
      refine callR hg rfl rfl (fun _ => by simp [grpT]) ?_
      simp [grpT, ownT, cd3]
    | some X =>
      rw [hgr] at hg
      refine callR hg rfl rfl (fun _ => by simp [grpT]) ?_
      simp [grpT, ownT, cd3]
  · refine ⟨none, by simp [lgR, onReg_false h], Call.intro hp rfl (by simp) ?_⟩
    show wp _ _ c_spec_LeftGroup.body (post [.t 2, .t 3] _ _ _) _
    simp [c_spec_LeftGroup]
    refine callR (h264 f s hf hs) rfl rfl (fun _ => rfl) ?_
    simp [dec_false h, lgC, onReg_false h, ownT]
theorem t_lg_impl {pg : Pg} (hp : pg.fn 132 = some c_impl_LeftGroup) (h266 : S_reg pg 266) (h274 : S_group274 pg) : S_lg pg 132 := by
  intro f s hf hs
  by_cases h : isReg f s
  · have hpm := PM.of h.1.1
    have h12 := hpm.small
    have hg := h274 f f.length (prmsL hpm h.2).1 (by omega) hpm.pos h12
    refine ⟨lgO f, by simp [lgR, onReg_true h], Call.intro hp rfl (by simp) ?_⟩
    show wp _ _ c_impl_LeftGroup.body (post [.t 2, .t 3] _ _ _) _
    simp [c_impl_LeftGroup]
    refine callR (h266 f s hf hs) rfl rfl (fun _ => rfl) ?_
    simp [dec_true h, lgC, onReg_true h, lgO]
    cases hgr : grpO f f.length with
    | none =>
      rw [hgr] at hg
      refine callR hg rfl rfl (fun _ => by simp [grpT]) ?_
      simp [grpT, ownT, cd3]
    | some X =>
      rw [hgr] at hg
      refine callR hg rfl rfl (fun _ => by simp [grpT]) ?_
      simp [grpT, ownT, cd3]
  · refine ⟨none, by simp [lgR, onReg_false h], Call.intro hp rfl (by simp) ?_⟩
    show wp _ _ c_impl_LeftGroup.body (post [.t 2, .t 3] _ _ _) _
    simp [c_impl_LeftGroup]
    refine callR (h266 f s hf hs) rfl rfl (fun _ => rfl) ?_
    simp [dec_false h, lgC, onReg_false h, ownT]
theorem lg_small (f s : List (List Int)) (_ : fits f) (_ : fits s) : smallT (lgR f s) := by
  unfold lgR
  by_cases h : isReg f s
  · rw [onReg_true h]
    have hpm := PM.of h.1.1
    have h12 := hpm.small
    unfold lgO
    cases hg : grpO f f.length with
    | none => simp [lso, smallT]
    | some X =>
      have hx := grpO_le hg
      exact ⟨by show X.length ≤ 1048576; omega, fun r hr => by have := (((hx.2.mem r).1 hr).perm (prmsL hpm h.2).1).1; omega⟩
  · rw [onReg_false h]
    simp [smallT]
end Go.Mch
/- The runs of the laws of LeftGroup. -/
namespace Go.Mch
def S_law109 (pg : Pg) : Prop := S_lw_T pg 109
theorem t_law109 {pg : Pg} (hp : pg.fn 109 = some (lw_T 222 132)) (h222 : S_lg pg 222) (h132 : S_lg pg 132) (h14 : S_szSol pg) (h16 : S_toSol pg) (h18 : S_eqSol pg) (h22 : S_markSol pg) (h21 : S_eqT pg) (h23 : S_markT pg) (h24 : S_heldT pg) : S_law109 pg := by
  exact t_lw_T (R0 := lgR) (R1 := lgC) hp h222 h132 lg_small h14 h16 h18 h22 h21 h23 h24
end Go.Mch
