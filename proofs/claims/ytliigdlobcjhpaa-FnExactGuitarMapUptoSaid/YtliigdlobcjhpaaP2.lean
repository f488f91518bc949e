/- Our texts YhA YhB YhD YfU YiA, end to end. -/
import Derived.Test.YtliigdlobcjhpaaP1
/- The runs of the exact laws, by their shapes: sol-tbl,int. -/
namespace Go.Mch
/-- The laws of this shape: sol to tbl, int. -/
def lw_T (a b : Nat) : F where
  np := 1
  rs := [.t 2]
  body :=
    (.seq
    (.region none [ ⟨some 1, none, .box (.t 0)⟩, ⟨some 2, none, .mv (.c (.bool false))⟩] [1]) (.seq
    (.region none [ ⟨some 3, none, .mv (.c (.int .i64 1048576))⟩] [1, 3]) (.seq
    (.region none [ ⟨some 14, none, .ld (some 2) (.t 1)⟩, ⟨some 15, none, .mv (.t 3)⟩, ⟨some 16, none, .call (.f 14) [((.t 14), .r), ((.t 15), .r)]⟩, ⟨some 3, none, .mv (.t 16)⟩] [1, 3]) (.seq (.seq
    (.region none [ ⟨some 17, none, .mv (.t 3)⟩, ⟨some 18, none, .bin .lss (.t 17) (.c (.int .i64 0))⟩] [1, 18]) (.cond (.t 18) (.seq
    (.region none [ ⟨some 2, none, .mv (.c (.bool true))⟩] [2]) .ret) .skip)) (.seq
    (.region none [ ⟨some 20, none, .ld (some 2) (.t 1)⟩, ⟨some 21, none, .call (.f 16) [((.t 20), .r)]⟩, ⟨some 22, none, .call (.f a) [((.t 21), .r)]⟩, ⟨some 19, none, .mv (.t 22)⟩, ⟨some 23, none, .ext (.t 19) 0⟩, ⟨some 24, none, .ext (.t 19) 1⟩, ⟨some 4, none, .asg (.t 23)⟩, ⟨some 5, none, .mv (.t 24)⟩] [1, 4, 5]) (.seq
    (.region none [ ⟨some 25, none, .ld (some 2) (.t 1)⟩, ⟨some 26, none, .call (.f 16) [((.t 25), .r)]⟩, ⟨some 6, none, .alloc [(.slice none 0 0), (.slice none 0 0)]⟩, ⟨none, none, .st (some 2) (.t 6) (.t 26)⟩] [1, 4, 5, 6]) (.seq
    (.region none [ ⟨some 28, none, .ld (some 2) (.t 6)⟩, ⟨some 29, none, .call (.f b) [((.t 28), .r)]⟩, ⟨some 27, none, .mv (.t 29)⟩, ⟨some 30, none, .ext (.t 27) 0⟩, ⟨some 31, none, .ext (.t 27) 1⟩, ⟨some 7, none, .asg (.t 30)⟩, ⟨some 8, none, .mv (.t 31)⟩] [1, 4, 5, 6, 7, 8]) (.seq (.seq
    (.region none [ ⟨some 32, none, .mv (.t 7)⟩, ⟨some 33, none, .mv (.t 4)⟩, ⟨some 34, none, .call (.f 21) [((.t 32), .r), ((.t 33), .r)]⟩, ⟨some 35, none, .un .not (.t 34)⟩, ⟨some 36, none, .mv (.t 35)⟩, ⟨some 37, (some (36, false)), .mv (.t 8)⟩, ⟨some 38, (some (36, false)), .mv (.t 5)⟩, ⟨some 39, (some (36, false)), .bin .neq (.t 37) (.t 38)⟩, ⟨some 40, none, .pick (.t 36) (.c (.bool true)) (.t 39)⟩] [1, 4, 5, 6, 7, 8, 40]) (.cond (.t 40) (.seq
    (.region none [ ⟨some 2, none, .mv (.c (.bool false))⟩] [2]) .ret) .skip)) (.seq (.seq
    (.region (some [41, 42, 43]) [ ⟨some 41, none, .ld (some 2) (.t 6)⟩, ⟨some 42, none, .ld (some 2) (.t 1)⟩, ⟨some 43, none, .call (.f 16) [((.t 42), .r)]⟩, ⟨some 44, none, .call (.f 18) [((.t 41), .r), ((.t 43), .r)]⟩, ⟨some 45, none, .un .not (.t 44)⟩] [1, 4, 5, 6, 7, 8, 45]) (.cond (.t 45) (.seq
    (.region none [ ⟨some 2, none, .mv (.c (.bool false))⟩] [2]) .ret) .skip)) (.seq
    (.region none [ ⟨some 9, none, .mv (.c (.int .i64 1))⟩] [1, 4, 5, 6, 7, 8, 9]) (.seq
    (.region none [ ⟨some 46, none, .ld (some 2) (.t 6)⟩, ⟨some 47, none, .mv (.t 9)⟩, ⟨some 48, none, .callm (.f 22) [((.t 46), true), ((.t 47), false)] []⟩, ⟨some 9, none, .mv (.t 48)⟩] [1, 4, 5, 7, 8, 9]) (.seq (.seq
    (.region none [ ⟨some 49, none, .mv (.t 9)⟩, ⟨some 50, none, .bin .lss (.t 49) (.c (.int .i64 0))⟩, ⟨some 51, none, .mv (.t 50)⟩, ⟨some 52, (some (51, false)), .mv (.t 7)⟩, ⟨some 53, (some (51, false)), .mv (.t 4)⟩, ⟨some 54, (some (51, false)), .call (.f 21) [((.t 52), .r), ((.t 53), .r)]⟩, ⟨some 55, (some (51, false)), .un .not (.t 54)⟩, ⟨some 56, none, .pick (.t 51) (.c (.bool true)) (.t 55)⟩, ⟨some 57, none, .mv (.t 56)⟩, ⟨some 58, (some (57, false)), .mv (.t 8)⟩, ⟨some 59, (some (57, false)), .mv (.t 5)⟩, ⟨some 60, (some (57, false)), .bin .neq (.t 58) (.t 59)⟩, ⟨some 61, none, .pick (.t 57) (.c (.bool true)) (.t 60)⟩] [1, 4, 5, 7, 61]) (.cond (.t 61) (.seq
    (.region none [ ⟨some 2, none, .mv (.c (.bool false))⟩] [2]) .ret) .skip)) (.seq
    (.region none [ ⟨some 10, none, .mv (.c (.int .i64 1))⟩] [1, 4, 5, 7, 10]) (.seq
    (.region none [ ⟨some 62, none, .mv (.t 7)⟩, ⟨some 63, none, .mv (.t 10)⟩, ⟨some 64, none, .callm (.f 23) [((.t 62), true), ((.t 63), false)] []⟩, ⟨some 10, none, .mv (.t 64)⟩] [1, 4, 5, 7, 10]) (.seq
    (.region none [ ⟨some 11, none, .mv (.c (.int .i64 1))⟩] [1, 4, 5, 7, 10, 11]) (.seq
    (.region none [ ⟨some 65, none, .mv (.t 7)⟩, ⟨some 66, none, .mv (.t 11)⟩, ⟨some 67, none, .call (.f 24) [((.t 65), .r), ((.t 66), .r)]⟩, ⟨some 11, none, .mv (.t 67)⟩] [1, 4, 5, 7, 10, 11]) (.seq (.seq
    (.region none [ ⟨some 68, none, .mv (.t 11)⟩, ⟨some 69, none, .bin .lss (.t 68) (.c (.int .i64 0))⟩] [1, 4, 5, 7, 10, 11, 69]) (.cond (.t 69) (.seq
    (.region none [ ⟨some 2, none, .mv (.c (.bool false))⟩] [2]) .ret) .skip)) (.seq (.seq
    (.region none [ ⟨some 70, none, .mv (.t 11)⟩, ⟨some 71, none, .mv (.t 10)⟩, ⟨some 72, none, .bin .neq (.t 70) (.t 71)⟩] [1, 4, 5, 7, 10, 72]) (.cond (.t 72) (.seq
    (.region none [ ⟨some 2, none, .mv (.c (.bool false))⟩] [2]) .ret) .skip)) (.seq
    (.region none [ ⟨some 74, none, .ld (some 2) (.t 1)⟩, ⟨some 75, none, .call (.f 16) [((.t 74), .r)]⟩, ⟨some 76, none, .call (.f b) [((.t 75), .r)]⟩, ⟨some 73, none, .mv (.t 76)⟩, ⟨some 77, none, .ext (.t 73) 0⟩, ⟨some 78, none, .ext (.t 73) 1⟩, ⟨some 12, none, .asg (.t 77)⟩, ⟨some 13, none, .mv (.t 78)⟩] [4, 5, 7, 10, 12, 13]) (.seq (.seq
    (.region none [ ⟨some 79, none, .mv (.t 12)⟩, ⟨some 80, none, .mv (.t 4)⟩, ⟨some 81, none, .call (.f 21) [((.t 79), .r), ((.t 80), .r)]⟩, ⟨some 82, none, .un .not (.t 81)⟩, ⟨some 83, none, .mv (.t 82)⟩, ⟨some 84, (some (83, false)), .mv (.t 13)⟩, ⟨some 85, (some (83, false)), .mv (.t 5)⟩, ⟨some 86, (some (83, false)), .bin .neq (.t 84) (.t 85)⟩, ⟨some 87, none, .pick (.t 83) (.c (.bool true)) (.t 86)⟩] [7, 10, 87]) (.cond (.t 87) (.seq
    (.region none [ ⟨some 2, none, .mv (.c (.bool false))⟩] [2]) .ret) .skip)) (.seq
    (.region none [ ⟨some 11, none, .mv (.c (.int .i64 1))⟩] [7, 10, 11]) (.seq
    (.region none [ ⟨some 88, none, .mv (.t 7)⟩, ⟨some 89, none, .mv (.t 11)⟩, ⟨some 90, none, .call (.f 24) [((.t 88), .r), ((.t 89), .r)]⟩, ⟨some 11, none, .mv (.t 90)⟩] [10, 11]) (.seq (.seq
    (.region none [ ⟨some 91, none, .mv (.t 11)⟩, ⟨some 92, none, .bin .lss (.t 91) (.c (.int .i64 0))⟩] [10, 11, 92]) (.cond (.t 92) (.seq
    (.region none [ ⟨some 2, none, .mv (.c (.bool false))⟩] [2]) .ret) .skip)) (.seq (.seq
    (.region none [ ⟨some 93, none, .mv (.t 11)⟩, ⟨some 94, none, .mv (.t 10)⟩, ⟨some 95, none, .bin .neq (.t 93) (.t 94)⟩] [95]) (.cond (.t 95) (.seq
    (.region none [ ⟨some 2, none, .mv (.c (.bool false))⟩] [2]) .ret) .skip)) (.seq
    (.region none [ ⟨some 2, none, .mv (.c (.bool true))⟩] [2]) .ret)))))))))))))))))))))))))
def S_sh_T (pg : Pg) (n : Nat) (R0 : List (List Int) → List (List Int) → List (List Int)) (R1 : List (List Int) → List (List Int) → Int) : Prop := ∀ (f0 s0 : List (List Int)), fits f0 → fits s0 → ∃ o0, lso o0 = R0 f0 s0 ∧ Call pg n [sol f0 s0] [sol f0 s0] (.tup [ownT o0, I (R1 f0 s0)])
def S_lw_T (pg : Pg) (n : Nat) : Prop := ∀ (a0 b0 : Rw (Rw Int)), small a0 → small b0 → ∃ args', Call pg n [.agg [rawT a0, rawT b0]] args' (B true)
set_option maxRecDepth 20000 in
theorem t_lw_T {pg : Pg} {n a b : Nat} {R0 : List (List Int) → List (List Int) → List (List Int)} {R1 : List (List Int) → List (List Int) → Int} (hp : pg.fn n = some (lw_T a b)) (hA : S_sh_T pg a R0 R1) (hB : S_sh_T pg b R0 R1) (hz0 : ∀ (f0 s0 : List (List Int)), fits f0 → fits s0 → smallT (R0 f0 s0)) (h14 : S_szSol pg) (h16 : S_toSol pg) (h18 : S_eqSol pg) (h22 : S_markSol pg) (h21 : S_eqT pg) (h23 : S_markT pg) (h24 : S_heldT pg) : S_lw_T pg n := by
  intro a0 b0 ha0 hb0
  refine ⟨[.agg [rawT a0, rawT b0]], Call.intro hp rfl (by simp) ?_⟩
  obtain ⟨r, hr1, hr2, hsz⟩ := h14 a0 b0 1048576 ha0 hb0 (by omega) (by omega)
  have hto0 := h16 a0 b0 ha0 hb0
  have hfa0 := fitsT_of ha0
  have hfb0 := fitsT_of hb0
  generalize hF0 : (lst a0).map lst = F0 at *
  generalize hS0 : (lst b0).map lst = S0 at *
  obtain ⟨o0, e0, hc1⟩ := hA F0 S0 hfa0 hfb0
  obtain ⟨q0, g0, hc2⟩ := hB F0 S0 hfa0 hfb0
  have hsm0 := hz0 F0 S0 hfa0 hfb0
  rw [← g0] at hsm0
  have heq0 := g0.trans e0.symm
  clear e0 g0
  generalize R1 F0 S0 = o1 at *
  have hk0a := kAt_le (k := (1 : Int)) hfa0 F0.length (Nat.le_refl _)
  have hk0b := kAt_le (k := (kAt (1 : Int) F0 F0.length)) hfb0 S0.length (Nat.le_refl _)
  have hfl0 := hfa0.1
  have hsl0 := hfb0.1
  have hkN : ¬ (kAt (kAt (1 : Int) F0 F0.length) S0 S0.length) < 0 := by omega
  show wp _ _ (lw_T a b).body (post [.t 2] _ _ _) _
  simp [lw_T]
  refine callR hsz rfl rfl (fun _ => rfl) ?_
  by_cases hneg : r < 0
  · simp [hneg]
  · simp [hneg]
    cases o0 with
    | some X0 =>
      cases q0 with
      | some Y0 =>
        simp only [ownT, lso_some] at *
        subst heq0
        have hm0 := kAt_le (k := (1 : Int)) hsm0 Y0.length (Nat.le_refl _)
        have hy0 := hsm0.1
        have hn0 : ¬ (kAt (1 : Int) Y0 Y0.length) < 0 := by omega
        refine callR hto0 rfl rfl (fun _ => by simp) ?_
        simp
        refine callR hc1 rfl rfl (fun _ => by simp) ?_
        simp
        refine callR hto0 rfl rfl (fun _ => by simp) ?_
        simp
        refine callR hc2 rfl rfl (fun _ => by simp) ?_
        simp
        refine callR (h21.o (some Y0) (some Y0) hsm0) rfl rfl (fun _ => rfl) ?_
        simp
        refine callR hto0 rfl rfl (fun _ => by simp) ?_
        simp
        refine callR (h18.o F0 S0 F0 S0 hfa0 hfb0) rfl rfl (fun _ => rfl) ?_
        simp
        refine callM (ts' := [.agg [.mem .own (some 1) (rows (upT (1 : Int) F0)), .mem .own (some 1) (rows (upT (kAt (1 : Int) F0 F0.length) S0))], I (1 : Int)]) (r := I (kAt (kAt (1 : Int) F0 F0.length) S0 S0.length)) ?_ ?_ ?_ ?_
        · simp
        · simpa using h22 F0 S0 (1 : Int) hfa0 hfb0 (by omega) (by omega)
        · simp
        simp [hkN]
        refine callR (h21.o (some Y0) (some Y0) hsm0) rfl rfl (fun _ => rfl) ?_
        simp
        refine callM (ts' := [.mem .own (some 1) (rows (upT (1 : Int) Y0)), I (1 : Int)]) (r := I (kAt (1 : Int) Y0 Y0.length)) ?_ ?_ ?_ ?_
        · simp
        · simpa using h23.at Y0 (1 : Int) hsm0 (by omega) (by omega)
        · simp
        simp
        refine callR (h24.o (some (upT (1 : Int) Y0)) (1 : Int) (upT_small hsm0 (1 : Int)) (by omega) (by omega)) rfl rfl (fun _ => rfl) ?_
        simp [heldL_all, hn0]
        refine callR hto0 rfl rfl (fun _ => by simp) ?_
        simp
        refine callR hc2 rfl rfl (fun _ => by simp) ?_
        simp
        refine callR (h21.o (some Y0) (some Y0) hsm0) rfl rfl (fun _ => rfl) ?_
        simp
        refine callR (h24.o (some (upT (1 : Int) Y0)) (1 : Int) (upT_small hsm0 (1 : Int)) (by omega) (by omega)) rfl rfl (fun _ => rfl) ?_
        simp [heldL_all, hn0]
      | none =>
        simp only [ownT, lso_some, lso_none] at *
        subst heq0
        refine callR hto0 rfl rfl (fun _ => by simp) ?_
        simp
        refine callR hc1 rfl rfl (fun _ => by simp) ?_
        simp
        refine callR hto0 rfl rfl (fun _ => by simp) ?_
        simp
        refine callR hc2 rfl rfl (fun _ => by simp) ?_
        simp
        refine callR (h21.o none (some []) hsm0) rfl rfl (fun _ => rfl) ?_
        simp
        refine callR hto0 rfl rfl (fun _ => by simp) ?_
        simp
        refine callR (h18.o F0 S0 F0 S0 hfa0 hfb0) rfl rfl (fun _ => rfl) ?_
        simp
        refine callM (ts' := [.agg [.mem .own (some 1) (rows (upT (1 : Int) F0)), .mem .own (some 1) (rows (upT (kAt (1 : Int) F0 F0.length) S0))], I (1 : Int)]) (r := I (kAt (kAt (1 : Int) F0 F0.length) S0 S0.length)) ?_ ?_ ?_ ?_
        · simp
        · simpa using h22 F0 S0 (1 : Int) hfa0 hfb0 (by omega) (by omega)
        · simp
        simp [hkN]
        refine callR (h21.o none (some []) hsm0) rfl rfl (fun _ => rfl) ?_
        simp
        refine callM (ts' := [nil, I (1 : Int)]) (r := I (1 : Int)) ?_ ?_ ?_ ?_
        · simp
        · simpa using h23.at0 (1 : Int) (by omega) (by omega)
        · simp
        simp
        refine callR (h24.o none (1 : Int) hsm0 (by omega) (by omega)) rfl rfl (fun _ => rfl) ?_
        simp [heldL]
        refine callR hto0 rfl rfl (fun _ => by simp) ?_
        simp
        refine callR hc2 rfl rfl (fun _ => by simp) ?_
        simp
        refine callR (h21.o none (some []) hsm0) rfl rfl (fun _ => rfl) ?_
        simp
        refine callR (h24.o none (1 : Int) hsm0 (by omega) (by omega)) rfl rfl (fun _ => rfl) ?_
        simp [heldL]
    | none =>
      cases q0 with
      | some Y0 =>
        simp only [ownT, lso_some, lso_none] at *
        subst heq0
        have hm0 := kAt_le (k := (1 : Int)) hsm0 ([] : List (List Int)).length (Nat.le_refl _)
        have hy0 := hsm0.1
        have hn0 : ¬ (kAt (1 : Int) ([] : List (List Int)) ([] : List (List Int)).length) < 0 := by omega
        refine callR hto0 rfl rfl (fun _ => by simp) ?_
        simp
        refine callR hc1 rfl rfl (fun _ => by simp) ?_
        simp
        refine callR hto0 rfl rfl (fun _ => by simp) ?_
        simp
        refine callR hc2 rfl rfl (fun _ => by simp) ?_
        simp
        refine callR (h21.o (some ([] : List (List Int))) none hsm0) rfl rfl (fun _ => rfl) ?_
        simp
        refine callR hto0 rfl rfl (fun _ => by simp) ?_
        simp
        refine callR (h18.o F0 S0 F0 S0 hfa0 hfb0) rfl rfl (fun _ => rfl) ?_
        simp
        refine callM (ts' := [.agg [.mem .own (some 1) (rows (upT (1 : Int) F0)), .mem .own (some 1) (rows (upT (kAt (1 : Int) F0 F0.length) S0))], I (1 : Int)]) (r := I (kAt (kAt (1 : Int) F0 F0.length) S0 S0.length)) ?_ ?_ ?_ ?_
        · simp
        · simpa using h22 F0 S0 (1 : Int) hfa0 hfb0 (by omega) (by omega)
        · simp
        simp [hkN]
        refine callR (h21.o (some ([] : List (List Int))) none hsm0) rfl rfl (fun _ => rfl) ?_
        simp
        refine callM (ts' := [.mem .own (some 1) (rows (upT (1 : Int) ([] : List (List Int)))), I (1 : Int)]) (r := I (kAt (1 : Int) ([] : List (List Int)) ([] : List (List Int)).length)) ?_ ?_ ?_ ?_
        · simp
        · simpa using h23.at ([] : List (List Int)) (1 : Int) hsm0 (by omega) (by omega)
        · simp
        simp
        refine callR (h24.o (some (upT (1 : Int) ([] : List (List Int)))) (1 : Int) (upT_small hsm0 (1 : Int)) (by omega) (by omega)) rfl rfl (fun _ => rfl) ?_
        simp [heldL_all, kAt_zero]
        refine callR hto0 rfl rfl (fun _ => by simp) ?_
        simp
        refine callR hc2 rfl rfl (fun _ => by simp) ?_
        simp
        refine callR (h21.o (some ([] : List (List Int))) none hsm0) rfl rfl (fun _ => rfl) ?_
        simp
        refine callR (h24.o (some (upT (1 : Int) ([] : List (List Int)))) (1 : Int) (upT_small hsm0 (1 : Int)) (by omega) (by omega)) rfl rfl (fun _ => rfl) ?_
        simp [heldL_all, kAt_zero]
      | none =>
        simp only [ownT, lso_none] at *
        refine callR hto0 rfl rfl (fun _ => by simp) ?_
        simp
        refine callR hc1 rfl rfl (fun _ => by simp) ?_
        simp
        refine callR hto0 rfl rfl (fun _ => by simp) ?_
        simp
        refine callR hc2 rfl rfl (fun _ => by simp) ?_
        simp
        refine callR (h21.o none none hsm0) rfl rfl (fun _ => rfl) ?_
        simp
        refine callR hto0 rfl rfl (fun _ => by simp) ?_
        simp
        refine callR (h18.o F0 S0 F0 S0 hfa0 hfb0) rfl rfl (fun _ => rfl) ?_
        simp
        refine callM (ts' := [.agg [.mem .own (some 1) (rows (upT (1 : Int) F0)), .mem .own (some 1) (rows (upT (kAt (1 : Int) F0 F0.length) S0))], I (1 : Int)]) (r := I (kAt (kAt (1 : Int) F0 F0.length) S0 S0.length)) ?_ ?_ ?_ ?_
        · simp
        · simpa using h22 F0 S0 (1 : Int) hfa0 hfb0 (by omega) (by omega)
        · simp
        simp [hkN]
        refine callR (h21.o none none hsm0) rfl rfl (fun _ => rfl) ?_
        simp
        refine callM (ts' := [nil, I (1 : Int)]) (r := I (1 : Int)) ?_ ?_ ?_ ?_
        · simp
        · simpa using h23.at0 (1 : Int) (by omega) (by omega)
        · simp
        simp
        refine callR (h24.o none (1 : Int) hsm0 (by omega) (by omega)) rfl rfl (fun _ => rfl) ?_
        simp [heldL]
        refine callR hto0 rfl rfl (fun _ => by simp) ?_
        simp
        refine callR hc2 rfl rfl (fun _ => by simp) ?_
        simp
        refine callR (h21.o none none hsm0) rfl rfl (fun _ => rfl) ?_
        simp
        refine callR (h24.o none (1 : Int) hsm0 (by omega) (by omega)) rfl rfl (fun _ => rfl) ?_
        simp [heldL]
end Go.Mch
/- The runs of the exact laws, by their shapes: sol-bool,int, sol-int,int, sol,int-int,int, sol,ints,int-int,int, sol,ints,ints-bool,int. -/
namespace Go.Mch
/-- The laws of this shape: sol to bool, int. -/
def lw_B (a b : Nat) : F where
  np := 1
  rs := [.t 2]
  body :=
    (.seq
    (.region none [ ⟨some 1, none, .box (.t 0)⟩, ⟨some 2, none, .mv (.c (.bool false))⟩] [1]) (.seq
    (.region none [ ⟨some 3, none, .mv (.c (.int .i64 1048576))⟩] [1, 3]) (.seq
    (.region none [ ⟨some 9, none, .ld (some 2) (.t 1)⟩, ⟨some 10, none, .mv (.t 3)⟩, ⟨some 11, none, .call (.f 14) [((.t 9), .r), ((.t 10), .r)]⟩, ⟨some 3, none, .mv (.t 11)⟩] [1, 3]) (.seq (.seq
    (.region none [ ⟨some 12, none, .mv (.t 3)⟩, ⟨some 13, none, .bin .lss (.t 12) (.c (.int .i64 0))⟩] [1, 13]) (.cond (.t 13) (.seq
    (.region none [ ⟨some 2, none, .mv (.c (.bool true))⟩] [2]) .ret) .skip)) (.seq
    (.region none [ ⟨some 15, none, .ld (some 2) (.t 1)⟩, ⟨some 16, none, .call (.f 16) [((.t 15), .r)]⟩, ⟨some 17, none, .call (.f a) [((.t 16), .r)]⟩, ⟨some 14, none, .mv (.t 17)⟩, ⟨some 18, none, .ext (.t 14) 0⟩, ⟨some 19, none, .ext (.t 14) 1⟩, ⟨some 4, none, .mv (.t 18)⟩, ⟨some 5, none, .mv (.t 19)⟩] [1, 4, 5]) (.seq
    (.region none [ ⟨some 20, none, .ld (some 2) (.t 1)⟩, ⟨some 21, none, .call (.f 16) [((.t 20), .r)]⟩, ⟨some 6, none, .alloc [(.slice none 0 0), (.slice none 0 0)]⟩, ⟨none, none, .st (some 2) (.t 6) (.t 21)⟩] [1, 4, 5, 6]) (.seq
    (.region none [ ⟨some 23, none, .ld (some 2) (.t 6)⟩, ⟨some 24, none, .call (.f b) [((.t 23), .r)]⟩, ⟨some 22, none, .mv (.t 24)⟩, ⟨some 25, none, .ext (.t 22) 0⟩, ⟨some 26, none, .ext (.t 22) 1⟩, ⟨some 7, none, .mv (.t 25)⟩, ⟨some 8, none, .mv (.t 26)⟩] [1, 4, 5, 6, 7, 8]) (.seq (.seq
    (.region none [ ⟨some 27, none, .mv (.t 7)⟩, ⟨some 28, none, .mv (.t 4)⟩, ⟨some 29, none, .beq true (.t 27) (.t 28)⟩, ⟨some 30, none, .mv (.t 29)⟩, ⟨some 31, (some (30, false)), .mv (.t 8)⟩, ⟨some 32, (some (30, false)), .mv (.t 5)⟩, ⟨some 33, (some (30, false)), .bin .neq (.t 31) (.t 32)⟩, ⟨some 34, none, .pick (.t 30) (.c (.bool true)) (.t 33)⟩] [1, 6, 34]) (.cond (.t 34) (.seq
    (.region none [ ⟨some 2, none, .mv (.c (.bool false))⟩] [2]) .ret) .skip)) (.seq (.seq
    (.region (some [35, 36, 37]) [ ⟨some 35, none, .ld (some 2) (.t 6)⟩, ⟨some 36, none, .ld (some 2) (.t 1)⟩, ⟨some 37, none, .call (.f 16) [((.t 36), .r)]⟩, ⟨some 38, none, .call (.f 18) [((.t 35), .r), ((.t 37), .r)]⟩, ⟨some 39, none, .un .not (.t 38)⟩] [39]) (.cond (.t 39) (.seq
    (.region none [ ⟨some 2, none, .mv (.c (.bool false))⟩] [2]) .ret) .skip)) (.seq
    (.region none [ ⟨some 2, none, .mv (.c (.bool true))⟩] [2]) .ret))))))))))
def S_sh_B (pg : Pg) (n : Nat) (R0 : List (List Int) → List (List Int) → Bool) (R1 : List (List Int) → List (List Int) → Int) : Prop := ∀ (f0 s0 : List (List Int)), fits f0 → fits s0 → Call pg n [sol f0 s0] [sol f0 s0] (.tup [B (R0 f0 s0), I (R1 f0 s0)])
def S_lw_B (pg : Pg) (n : Nat) : Prop := ∀ (a0 b0 : Rw (Rw Int)), small a0 → small b0 → ∃ args', Call pg n [.agg [rawT a0, rawT b0]] args' (B true)
set_option maxRecDepth 20000 in
theorem t_lw_B {pg : Pg} {n a b : Nat} {R0 : List (List Int) → List (List Int) → Bool} {R1 : List (List Int) → List (List Int) → Int} (hp : pg.fn n = some (lw_B a b)) (hA : S_sh_B pg a R0 R1) (hB : S_sh_B pg b R0 R1)  (h14 : S_szSol pg) (h16 : S_toSol pg) (h18 : S_eqSol pg) : S_lw_B pg n := by
  intro a0 b0 ha0 hb0
  refine ⟨[.agg [rawT a0, rawT b0]], Call.intro hp rfl (by simp) ?_⟩
  obtain ⟨r, hr1, hr2, hsz⟩ := h14 a0 b0 1048576 ha0 hb0 (by omega) (by omega)
  have hto0 := h16 a0 b0 ha0 hb0
  have hfa0 := fitsT_of ha0
  have hfb0 := fitsT_of hb0
  generalize hF0 : (lst a0).map lst = F0 at *
  generalize hS0 : (lst b0).map lst = S0 at *
  have hc1 := hA F0 S0 hfa0 hfb0
  have hc2 := hB F0 S0 hfa0 hfb0
  generalize R0 F0 S0 = o0 at *
  generalize R1 F0 S0 = o1 at *
  show wp _ _ (lw_B a b).body (post [.t 2] _ _ _) _
  simp [lw_B]
  refine callR hsz rfl rfl (fun _ => rfl) ?_
  by_cases hneg : r < 0
  · simp [hneg]
  · simp [hneg]
    refine callR hto0 rfl rfl (fun _ => by simp) ?_
    simp
    refine callR hc1 rfl rfl (fun _ => by simp) ?_
    simp
    refine callR hto0 rfl rfl (fun _ => by simp) ?_
    simp
    refine callR hc2 rfl rfl (fun _ => by simp) ?_
    simp
    refine callR hto0 rfl rfl (fun _ => by simp) ?_
    simp
    refine callR (h18.o F0 S0 F0 S0 hfa0 hfb0) rfl rfl (fun _ => rfl) ?_
    simp
/-- The laws of this shape: sol to int, int. -/
def lw_N (a b : Nat) : F where
  np := 1
  rs := [.t 2]
  body :=
    (.seq
    (.region none [ ⟨some 1, none, .box (.t 0)⟩, ⟨some 2, none, .mv (.c (.bool false))⟩] [1]) (.seq
    (.region none [ ⟨some 3, none, .mv (.c (.int .i64 1048576))⟩] [1, 3]) (.seq
    (.region none [ ⟨some 9, none, .ld (some 2) (.t 1)⟩, ⟨some 10, none, .mv (.t 3)⟩, ⟨some 11, none, .call (.f 14) [((.t 9), .r), ((.t 10), .r)]⟩, ⟨some 3, none, .mv (.t 11)⟩] [1, 3]) (.seq (.seq
    (.region none [ ⟨some 12, none, .mv (.t 3)⟩, ⟨some 13, none, .bin .lss (.t 12) (.c (.int .i64 0))⟩] [1, 13]) (.cond (.t 13) (.seq
    (.region none [ ⟨some 2, none, .mv (.c (.bool true))⟩] [2]) .ret) .skip)) (.seq
    (.region none [ ⟨some 15, none, .ld (some 2) (.t 1)⟩, ⟨some 16, none, .call (.f 16) [((.t 15), .r)]⟩, ⟨some 17, none, .call (.f a) [((.t 16), .r)]⟩, ⟨some 14, none, .mv (.t 17)⟩, ⟨some 18, none, .ext (.t 14) 0⟩, ⟨some 19, none, .ext (.t 14) 1⟩, ⟨some 4, none, .mv (.t 18)⟩, ⟨some 5, none, .mv (.t 19)⟩] [1, 4, 5]) (.seq
    (.region none [ ⟨some 20, none, .ld (some 2) (.t 1)⟩, ⟨some 21, none, .call (.f 16) [((.t 20), .r)]⟩, ⟨some 6, none, .alloc [(.slice none 0 0), (.slice none 0 0)]⟩, ⟨none, none, .st (some 2) (.t 6) (.t 21)⟩] [1, 4, 5, 6]) (.seq
    (.region none [ ⟨some 23, none, .ld (some 2) (.t 6)⟩, ⟨some 24, none, .call (.f b) [((.t 23), .r)]⟩, ⟨some 22, none, .mv (.t 24)⟩, ⟨some 25, none, .ext (.t 22) 0⟩, ⟨some 26, none, .ext (.t 22) 1⟩, ⟨some 7, none, .mv (.t 25)⟩, ⟨some 8, none, .mv (.t 26)⟩] [1, 4, 5, 6, 7, 8]) (.seq (.seq
    (.region none [ ⟨some 27, none, .mv (.t 7)⟩, ⟨some 28, none, .mv (.t 4)⟩, ⟨some 29, none, .bin .neq (.t 27) (.t 28)⟩, ⟨some 30, none, .mv (.t 29)⟩, ⟨some 31, (some (30, false)), .mv (.t 8)⟩, ⟨some 32, (some (30, false)), .mv (.t 5)⟩, ⟨some 33, (some (30, false)), .bin .neq (.t 31) (.t 32)⟩, ⟨some 34, none, .pick (.t 30) (.c (.bool true)) (.t 33)⟩] [1, 6, 34]) (.cond (.t 34) (.seq
    (.region none [ ⟨some 2, none, .mv (.c (.bool false))⟩] [2]) .ret) .skip)) (.seq (.seq
    (.region (some [35, 36, 37]) [ ⟨some 35, none, .ld (some 2) (.t 6)⟩, ⟨some 36, none, .ld (some 2) (.t 1)⟩, ⟨some 37, none, .call (.f 16) [((.t 36), .r)]⟩, ⟨some 38, none, .call (.f 18) [((.t 35), .r), ((.t 37), .r)]⟩, ⟨some 39, none, .un .not (.t 38)⟩] [39]) (.cond (.t 39) (.seq
    (.region none [ ⟨some 2, none, .mv (.c (.bool false))⟩] [2]) .ret) .skip)) (.seq
    (.region none [ ⟨some 2, none, .mv (.c (.bool true))⟩] [2]) .ret))))))))))
def S_sh_N (pg : Pg) (n : Nat) (R0 : List (List Int) → List (List Int) → Int) (R1 : List (List Int) → List (List Int) → Int) : Prop := ∀ (f0 s0 : List (List Int)), fits f0 → fits s0 → Call pg n [sol f0 s0] [sol f0 s0] (.tup [I (R0 f0 s0), I (R1 f0 s0)])
def S_lw_N (pg : Pg) (n : Nat) : Prop := ∀ (a0 b0 : Rw (Rw Int)), small a0 → small b0 → ∃ args', Call pg n [.agg [rawT a0, rawT b0]] args' (B true)
set_option maxRecDepth 20000 in
theorem t_lw_N {pg : Pg} {n a b : Nat} {R0 : List (List Int) → List (List Int) → Int} {R1 : List (List Int) → List (List Int) → Int} (hp : pg.fn n = some (lw_N a b)) (hA : S_sh_N pg a R0 R1) (hB : S_sh_N pg b R0 R1)  (h14 : S_szSol pg) (h16 : S_toSol pg) (h18 : S_eqSol pg) : S_lw_N pg n := by
  intro a0 b0 ha0 hb0
  refine ⟨[.agg [rawT a0, rawT b0]], Call.intro hp rfl (by simp) ?_⟩
  obtain ⟨r, hr1, hr2, hsz⟩ := h14 a0 b0 1048576 ha0 hb0 (by omega) (by omega)
  have hto0 := h16 a0 b0 ha0 hb0
  have hfa0 := fitsT_of ha0
  have hfb0 := fitsT_of hb0
  generalize hF0 : (lst a0).map lst = F0 at *
  generalize hS0 : (lst b0).map lst = S0 at *
  have hc1 := hA F0 S0 hfa0 hfb0
  have hc2 := hB F0 S0 hfa0 hfb0
  generalize R0 F0 S0 = o0 at *
  generalize R1 F0 S0 = o1 at *
  show wp _ _ (lw_N a b).body (post [.t 2] _ _ _) _
  simp [lw_N]
  refine callR hsz rfl rfl (fun _ => rfl) ?_
  by_cases hneg : r < 0
  · simp [hneg]
  · simp [hneg]
    refine callR hto0 rfl rfl (fun _ => by simp) ?_
    simp
    refine callR hc1 rfl rfl (fun _ => by simp) ?_
    simp
    refine callR hto0 rfl rfl (fun _ => by simp) ?_
    simp
    refine callR hc2 rfl rfl (fun _ => by simp) ?_
    simp
    refine callR hto0 rfl rfl (fun _ => by simp) ?_
    simp
    refine callR (h18.o F0 S0 F0 S0 hfa0 hfb0) rfl rfl (fun _ => rfl) ?_
    simp
/-- The laws of this shape: sol, int to int, int. -/
def lw_pN (a b : Nat) : F where
  np := 2
  rs := [.t 4]
  body :=
    (.seq
    (.region none [ ⟨some 2, none, .box (.t 0)⟩, ⟨some 4, none, .mv (.c (.bool false))⟩] [1, 2]) (.seq
    (.region none [ ⟨some 5, none, .mv (.c (.int .i64 1048576))⟩] [1, 2, 5]) (.seq
    (.region none [ ⟨some 11, none, .ld (some 2) (.t 2)⟩, ⟨some 12, none, .mv (.t 5)⟩, ⟨some 13, none, .call (.f 14) [((.t 11), .r), ((.t 12), .r)]⟩, ⟨some 5, none, .mv (.t 13)⟩] [1, 2, 5]) (.seq (.seq
    (.region none [ ⟨some 14, none, .mv (.t 5)⟩, ⟨some 15, none, .bin .lss (.t 14) (.c (.int .i64 0))⟩] [1, 2, 15]) (.cond (.t 15) (.seq
    (.region none [ ⟨some 4, none, .mv (.c (.bool true))⟩] [4]) .ret) .skip)) (.seq
    (.region none [ ⟨some 17, none, .ld (some 2) (.t 2)⟩, ⟨some 18, none, .call (.f 16) [((.t 17), .r)]⟩, ⟨some 19, none, .mv (.t 1)⟩, ⟨some 20, none, .call (.f a) [((.t 18), .r), ((.t 19), .r)]⟩, ⟨some 16, none, .mv (.t 20)⟩, ⟨some 21, none, .ext (.t 16) 0⟩, ⟨some 22, none, .ext (.t 16) 1⟩, ⟨some 6, none, .mv (.t 21)⟩, ⟨some 7, none, .mv (.t 22)⟩] [1, 2, 6, 7]) (.seq
    (.region none [ ⟨some 23, none, .ld (some 2) (.t 2)⟩, ⟨some 24, none, .call (.f 16) [((.t 23), .r)]⟩, ⟨some 8, none, .alloc [(.slice none 0 0), (.slice none 0 0)]⟩, ⟨none, none, .st (some 2) (.t 8) (.t 24)⟩] [1, 2, 6, 7, 8]) (.seq
    (.region none [ ⟨some 26, none, .ld (some 2) (.t 8)⟩, ⟨some 27, none, .mv (.t 1)⟩, ⟨some 28, none, .call (.f b) [((.t 26), .r), ((.t 27), .r)]⟩, ⟨some 25, none, .mv (.t 28)⟩, ⟨some 29, none, .ext (.t 25) 0⟩, ⟨some 30, none, .ext (.t 25) 1⟩, ⟨some 9, none, .mv (.t 29)⟩, ⟨some 10, none, .mv (.t 30)⟩] [2, 6, 7, 8, 9, 10]) (.seq (.seq
    (.region none [ ⟨some 31, none, .mv (.t 9)⟩, ⟨some 32, none, .mv (.t 6)⟩, ⟨some 33, none, .bin .neq (.t 31) (.t 32)⟩, ⟨some 34, none, .mv (.t 33)⟩, ⟨some 35, (some (34, false)), .mv (.t 10)⟩, ⟨some 36, (some (34, false)), .mv (.t 7)⟩, ⟨some 37, (some (34, false)), .bin .neq (.t 35) (.t 36)⟩, ⟨some 38, none, .pick (.t 34) (.c (.bool true)) (.t 37)⟩] [2, 8, 38]) (.cond (.t 38) (.seq
    (.region none [ ⟨some 4, none, .mv (.c (.bool false))⟩] [4]) .ret) .skip)) (.seq (.seq
    (.region (some [39, 40, 41]) [ ⟨some 39, none, .ld (some 2) (.t 8)⟩, ⟨some 40, none, .ld (some 2) (.t 2)⟩, ⟨some 41, none, .call (.f 16) [((.t 40), .r)]⟩, ⟨some 42, none, .call (.f 18) [((.t 39), .r), ((.t 41), .r)]⟩, ⟨some 43, none, .un .not (.t 42)⟩] [43]) (.cond (.t 43) (.seq
    (.region none [ ⟨some 4, none, .mv (.c (.bool false))⟩] [4]) .ret) .skip)) (.seq
    (.region none [ ⟨some 4, none, .mv (.c (.bool true))⟩] [4]) .ret))))))))))
def S_sh_pN (pg : Pg) (n : Nat) (R0 : List (List Int) → List (List Int) → Int → Int) (R1 : List (List Int) → List (List Int) → Int → Int) : Prop := ∀ (f0 s0 : List (List Int)) (p1 : Int), fits f0 → fits s0 → Call pg n [sol f0 s0, I p1] [sol f0 s0, I p1] (.tup [I (R0 f0 s0 p1), I (R1 f0 s0 p1)])
def S_lw_pN (pg : Pg) (n : Nat) : Prop := ∀ (a0 b0 : Rw (Rw Int)) (p1 : Int), small a0 → small b0 → ∃ args', Call pg n [.agg [rawT a0, rawT b0], I p1] args' (B true)
set_option maxRecDepth 20000 in
theorem t_lw_pN {pg : Pg} {n a b : Nat} {R0 : List (List Int) → List (List Int) → Int → Int} {R1 : List (List Int) → List (List Int) → Int → Int} (hp : pg.fn n = some (lw_pN a b)) (hA : S_sh_pN pg a R0 R1) (hB : S_sh_pN pg b R0 R1)  (h14 : S_szSol pg) (h16 : S_toSol pg) (h18 : S_eqSol pg) : S_lw_pN pg n := by
  intro a0 b0 p1 ha0 hb0
  refine ⟨[.agg [rawT a0, rawT b0], I p1], Call.intro hp rfl (by simp) ?_⟩
  obtain ⟨r, hr1, hr2, hsz⟩ := h14 a0 b0 1048576 ha0 hb0 (by omega) (by omega)
  have hto0 := h16 a0 b0 ha0 hb0
  have hfa0 := fitsT_of ha0
  have hfb0 := fitsT_of hb0
  generalize hF0 : (lst a0).map lst = F0 at *
  generalize hS0 : (lst b0).map lst = S0 at *
  have hc1 := hA F0 S0 p1 hfa0 hfb0
  have hc2 := hB F0 S0 p1 hfa0 hfb0
  generalize R0 F0 S0 p1 = o0 at *
  generalize R1 F0 S0 p1 = o1 at *
  show wp _ _ (lw_pN a b).body (post [.t 4] _ _ _) _
  simp [lw_pN]
  refine callR hsz rfl rfl (fun _ => rfl) ?_
  by_cases hneg : r < 0
  · simp [hneg]
  · simp [hneg]
    refine callR hto0 rfl rfl (fun _ => by simp) ?_
    simp
    refine callR hc1 rfl rfl (fun _ => by simp) ?_
    simp
    refine callR hto0 rfl rfl (fun _ => by simp) ?_
    simp
    refine callR hc2 rfl rfl (fun _ => by simp) ?_
    simp
    refine callR hto0 rfl rfl (fun _ => by simp) ?_
    simp
    refine callR (h18.o F0 S0 F0 S0 hfa0 hfb0) rfl rfl (fun _ => rfl) ?_
    simp
/-- The laws of this shape: sol, ints, int to int, int. -/
def lw_wpN (a b : Nat) : F where
  np := 3
  rs := [.t 6]
  body :=
    (.seq
    (.region none [ ⟨some 3, none, .box (.t 0)⟩, ⟨some 6, none, .mv (.c (.bool false))⟩] [1, 2, 3]) (.seq (.seq
    (.region none [ ⟨some 14, none, .mv (.t 1)⟩, ⟨some 15, none, .len (.t 14)⟩, ⟨some 16, none, .bin .gtr (.t 15) (.c (.int .i64 1048576))⟩] [1, 2, 3, 16]) (.cond (.t 16) (.seq
    (.region none [ ⟨some 6, none, .mv (.c (.bool true))⟩] [6]) .ret) .skip)) (.seq
    (.region none [ ⟨some 7, none, .mv (.c (.int .i64 1048576))⟩] [1, 2, 3, 7]) (.seq
    (.region none [ ⟨some 17, none, .ld (some 2) (.t 3)⟩, ⟨some 18, none, .mv (.t 7)⟩, ⟨some 19, none, .call (.f 14) [((.t 17), .r), ((.t 18), .r)]⟩, ⟨some 7, none, .mv (.t 19)⟩] [1, 2, 3, 7]) (.seq (.seq
    (.region none [ ⟨some 20, none, .mv (.t 7)⟩, ⟨some 21, none, .bin .lss (.t 20) (.c (.int .i64 0))⟩] [1, 2, 3, 21]) (.cond (.t 21) (.seq
    (.region none [ ⟨some 6, none, .mv (.c (.bool true))⟩] [6]) .ret) .skip)) (.seq
    (.region none [ ⟨some 23, none, .ld (some 2) (.t 3)⟩, ⟨some 24, none, .call (.f 16) [((.t 23), .r)]⟩, ⟨some 25, none, .mv (.t 1)⟩, ⟨some 26, none, .call (.f 7) [((.t 25), .r)]⟩, ⟨some 27, none, .mv (.t 2)⟩, ⟨some 28, none, .call (.f a) [((.t 24), .r), ((.t 26), .r), ((.t 27), .r)]⟩, ⟨some 22, none, .mv (.t 28)⟩, ⟨some 29, none, .ext (.t 22) 0⟩, ⟨some 30, none, .ext (.t 22) 1⟩, ⟨some 8, none, .mv (.t 29)⟩, ⟨some 9, none, .mv (.t 30)⟩] [1, 2, 3, 8, 9]) (.seq
    (.region none [ ⟨some 31, none, .ld (some 2) (.t 3)⟩, ⟨some 32, none, .call (.f 16) [((.t 31), .r)]⟩, ⟨some 10, none, .alloc [(.slice none 0 0), (.slice none 0 0)]⟩, ⟨none, none, .st (some 2) (.t 10) (.t 32)⟩] [1, 2, 3, 8, 9, 10]) (.seq
    (.region none [ ⟨some 33, none, .mv (.t 1)⟩, ⟨some 34, none, .call (.f 7) [((.t 33), .r)]⟩, ⟨some 11, none, .asg (.t 34)⟩] [1, 2, 3, 8, 9, 10, 11]) (.seq
    (.region none [ ⟨some 36, none, .ld (some 2) (.t 10)⟩, ⟨some 37, none, .mv (.t 11)⟩, ⟨some 38, none, .mv (.t 2)⟩, ⟨some 39, none, .call (.f b) [((.t 36), .r), ((.t 37), .r), ((.t 38), .r)]⟩, ⟨some 35, none, .mv (.t 39)⟩, ⟨some 40, none, .ext (.t 35) 0⟩, ⟨some 41, none, .ext (.t 35) 1⟩, ⟨some 12, none, .mv (.t 40)⟩, ⟨some 13, none, .mv (.t 41)⟩] [1, 3, 8, 9, 10, 11, 12, 13]) (.seq (.seq
    (.region none [ ⟨some 42, none, .mv (.t 12)⟩, ⟨some 43, none, .mv (.t 8)⟩, ⟨some 44, none, .bin .neq (.t 42) (.t 43)⟩, ⟨some 45, none, .mv (.t 44)⟩, ⟨some 46, (some (45, false)), .mv (.t 13)⟩, ⟨some 47, (some (45, false)), .mv (.t 9)⟩, ⟨some 48, (some (45, false)), .bin .neq (.t 46) (.t 47)⟩, ⟨some 49, none, .pick (.t 45) (.c (.bool true)) (.t 48)⟩] [1, 3, 10, 11, 49]) (.cond (.t 49) (.seq
    (.region none [ ⟨some 6, none, .mv (.c (.bool false))⟩] [6]) .ret) .skip)) (.seq (.seq
    (.region (some [50, 51, 52]) [ ⟨some 50, none, .ld (some 2) (.t 10)⟩, ⟨some 51, none, .ld (some 2) (.t 3)⟩, ⟨some 52, none, .call (.f 16) [((.t 51), .r)]⟩, ⟨some 53, none, .call (.f 18) [((.t 50), .r), ((.t 52), .r)]⟩, ⟨some 54, none, .un .not (.t 53)⟩] [1, 11, 54]) (.cond (.t 54) (.seq
    (.region none [ ⟨some 6, none, .mv (.c (.bool false))⟩] [6]) .ret) .skip)) (.seq (.seq
    (.region none [ ⟨some 55, none, .mv (.t 11)⟩, ⟨some 56, none, .mv (.t 1)⟩, ⟨some 57, none, .call (.f 7) [((.t 56), .r)]⟩, ⟨some 58, none, .call (.f 9) [((.t 55), .r), ((.t 57), .r)]⟩, ⟨some 59, none, .un .not (.t 58)⟩] [59]) (.cond (.t 59) (.seq
    (.region none [ ⟨some 6, none, .mv (.c (.bool false))⟩] [6]) .ret) .skip)) (.seq
    (.region none [ ⟨some 6, none, .mv (.c (.bool true))⟩] [6]) .ret)))))))))))))
def S_sh_wpN (pg : Pg) (n : Nat) (R0 : List (List Int) → List (List Int) → List Int → Int → Int) (R1 : List (List Int) → List (List Int) → List Int → Int → Int) : Prop := ∀ (f0 s0 : List (List Int)) (w1 : List Int) (p2 : Int), fits f0 → fits s0 → w1.length ≤ 1048576 → Call pg n [sol f0 s0, ix w1, I p2] [sol f0 s0, ix w1, I p2] (.tup [I (R0 f0 s0 w1 p2), I (R1 f0 s0 w1 p2)])
def S_lw_wpN (pg : Pg) (n : Nat) : Prop := ∀ (a0 b0 : Rw (Rw Int)) (c1 : Rw Int) (p2 : Int), small a0 → small b0 → (lst c1).length ≤ 1048576 → ∃ args', Call pg n [.agg [rawT a0, rawT b0], rawI c1, I p2] args' (B true)
set_option maxRecDepth 20000 in
theorem t_lw_wpN {pg : Pg} {n a b : Nat} {R0 : List (List Int) → List (List Int) → List Int → Int → Int} {R1 : List (List Int) → List (List Int) → List Int → Int → Int} (hp : pg.fn n = some (lw_wpN a b)) (hA : S_sh_wpN pg a R0 R1) (hB : S_sh_wpN pg b R0 R1)  (h14 : S_szSol pg) (h16 : S_toSol pg) (h18 : S_eqSol pg) (h7 : S_toI pg) (h9 : S_eqI pg) : S_lw_wpN pg n := by
  intro a0 b0 c1 p2 ha0 hb0 hl1
  refine ⟨[.agg [rawT a0, rawT b0], rawI c1, I p2], Call.intro hp rfl (by simp) ?_⟩
  obtain ⟨r, hr1, hr2, hsz⟩ := h14 a0 b0 1048576 ha0 hb0 (by omega) (by omega)
  have hto0 := h16 a0 b0 ha0 hb0
  have hfa0 := fitsT_of ha0
  have hfb0 := fitsT_of hb0
  generalize hF0 : (lst a0).map lst = F0 at *
  generalize hS0 : (lst b0).map lst = S0 at *
  have hto1 := h7.at c1 hl1
  have hcl1 : ¬ ((lst c1).length : Int) > 1048576 := by omega
  generalize hwe1 : lst c1 = w1 at *
  have hw1 : w1.length ≤ 1048576 := hl1
  have hc1 := hA F0 S0 w1 p2 hfa0 hfb0 hw1
  have hc2 := hB F0 S0 w1 p2 hfa0 hfb0 hw1
  generalize R0 F0 S0 w1 p2 = o0 at *
  generalize R1 F0 S0 w1 p2 = o1 at *
  show wp _ _ (lw_wpN a b).body (post [.t 6] _ _ _) _
  simp [lw_wpN, hcl1, hwe1]
  refine callR hsz rfl rfl (fun _ => rfl) ?_
  by_cases hneg : r < 0
  · simp [hneg]
  · simp [hneg]
    refine callR hto0 rfl rfl (fun _ => by simp) ?_
    simp
    refine callR hto1 rfl rfl (fun _ => by simp) ?_
    simp
    refine callR hc1 rfl rfl (fun _ => by simp) ?_
    simp
    refine callR hto0 rfl rfl (fun _ => by simp) ?_
    simp
    refine callR hto1 rfl rfl (fun _ => by simp) ?_
    simp
    refine callR hc2 rfl rfl (fun _ => by simp) ?_
    simp
    refine callR hto0 rfl rfl (fun _ => by simp) ?_
    simp
    refine callR (h18.o F0 S0 F0 S0 hfa0 hfb0) rfl rfl (fun _ => rfl) ?_
    simp
    refine callR hto1 rfl rfl (fun _ => by simp) ?_
    simp
    refine callR (h9.o (some w1) (some w1) hw1) rfl rfl (fun _ => rfl) ?_
    simp
/-- The laws of this shape: sol, ints, ints to bool, int. -/
def lw_wwB (a b : Nat) : F where
  np := 3
  rs := [.t 6]
  body :=
    (.seq
    (.region none [ ⟨some 3, none, .box (.t 0)⟩, ⟨some 6, none, .mv (.c (.bool false))⟩] [1, 2, 3]) (.seq (.seq
    (.region none [ ⟨some 15, none, .mv (.t 1)⟩, ⟨some 16, none, .len (.t 15)⟩, ⟨some 17, none, .bin .gtr (.t 16) (.c (.int .i64 1048576))⟩] [1, 2, 3, 17]) (.cond (.t 17) (.seq
    (.region none [ ⟨some 6, none, .mv (.c (.bool true))⟩] [6]) .ret) .skip)) (.seq (.seq
    (.region none [ ⟨some 18, none, .mv (.t 2)⟩, ⟨some 19, none, .len (.t 18)⟩, ⟨some 20, none, .bin .gtr (.t 19) (.c (.int .i64 1048576))⟩] [1, 2, 3, 20]) (.cond (.t 20) (.seq
    (.region none [ ⟨some 6, none, .mv (.c (.bool true))⟩] [6]) .ret) .skip)) (.seq
    (.region none [ ⟨some 7, none, .mv (.c (.int .i64 1048576))⟩] [1, 2, 3, 7]) (.seq
    (.region none [ ⟨some 21, none, .ld (some 2) (.t 3)⟩, ⟨some 22, none, .mv (.t 7)⟩, ⟨some 23, none, .call (.f 14) [((.t 21), .r), ((.t 22), .r)]⟩, ⟨some 7, none, .mv (.t 23)⟩] [1, 2, 3, 7]) (.seq (.seq
    (.region none [ ⟨some 24, none, .mv (.t 7)⟩, ⟨some 25, none, .bin .lss (.t 24) (.c (.int .i64 0))⟩] [1, 2, 3, 25]) (.cond (.t 25) (.seq
    (.region none [ ⟨some 6, none, .mv (.c (.bool true))⟩] [6]) .ret) .skip)) (.seq
    (.region none [ ⟨some 27, none, .ld (some 2) (.t 3)⟩, ⟨some 28, none, .call (.f 16) [((.t 27), .r)]⟩, ⟨some 29, none, .mv (.t 1)⟩, ⟨some 30, none, .call (.f 7) [((.t 29), .r)]⟩, ⟨some 31, none, .mv (.t 2)⟩, ⟨some 32, none, .call (.f 7) [((.t 31), .r)]⟩, ⟨some 33, none, .call (.f a) [((.t 28), .r), ((.t 30), .r), ((.t 32), .r)]⟩, ⟨some 26, none, .mv (.t 33)⟩, ⟨some 34, none, .ext (.t 26) 0⟩, ⟨some 35, none, .ext (.t 26) 1⟩, ⟨some 8, none, .mv (.t 34)⟩, ⟨some 9, none, .mv (.t 35)⟩] [1, 2, 3, 8, 9]) (.seq
    (.region none [ ⟨some 36, none, .ld (some 2) (.t 3)⟩, ⟨some 37, none, .call (.f 16) [((.t 36), .r)]⟩, ⟨some 10, none, .alloc [(.slice none 0 0), (.slice none 0 0)]⟩, ⟨none, none, .st (some 2) (.t 10) (.t 37)⟩] [1, 2, 3, 8, 9, 10]) (.seq
    (.region none [ ⟨some 38, none, .mv (.t 1)⟩, ⟨some 39, none, .call (.f 7) [((.t 38), .r)]⟩, ⟨some 11, none, .asg (.t 39)⟩] [1, 2, 3, 8, 9, 10, 11]) (.seq
    (.region none [ ⟨some 40, none, .mv (.t 2)⟩, ⟨some 41, none, .call (.f 7) [((.t 40), .r)]⟩, ⟨some 12, none, .asg (.t 41)⟩] [1, 2, 3, 8, 9, 10, 11, 12]) (.seq
    (.region none [ ⟨some 43, none, .ld (some 2) (.t 10)⟩, ⟨some 44, none, .mv (.t 11)⟩, ⟨some 45, none, .mv (.t 12)⟩, ⟨some 46, none, .call (.f b) [((.t 43), .r), ((.t 44), .r), ((.t 45), .r)]⟩, ⟨some 42, none, .mv (.t 46)⟩, ⟨some 47, none, .ext (.t 42) 0⟩, ⟨some 48, none, .ext (.t 42) 1⟩, ⟨some 13, none, .mv (.t 47)⟩, ⟨some 14, none, .mv (.t 48)⟩] [1, 2, 3, 8, 9, 10, 11, 12, 13, 14]) (.seq (.seq
    (.region none [ ⟨some 49, none, .mv (.t 13)⟩, ⟨some 50, none, .mv (.t 8)⟩, ⟨some 51, none, .beq true (.t 49) (.t 50)⟩, ⟨some 52, none, .mv (.t 51)⟩, ⟨some 53, (some (52, false)), .mv (.t 14)⟩, ⟨some 54, (some (52, false)), .mv (.t 9)⟩, ⟨some 55, (some (52, false)), .bin .neq (.t 53) (.t 54)⟩, ⟨some 56, none, .pick (.t 52) (.c (.bool true)) (.t 55)⟩] [1, 2, 3, 10, 11, 12, 56]) (.cond (.t 56) (.seq
    (.region none [ ⟨some 6, none, .mv (.c (.bool false))⟩] [6]) .ret) .skip)) (.seq (.seq
    (.region (some [57, 58, 59]) [ ⟨some 57, none, .ld (some 2) (.t 10)⟩, ⟨some 58, none, .ld (some 2) (.t 3)⟩, ⟨some 59, none, .call (.f 16) [((.t 58), .r)]⟩, ⟨some 60, none, .call (.f 18) [((.t 57), .r), ((.t 59), .r)]⟩, ⟨some 61, none, .un .not (.t 60)⟩] [1, 2, 11, 12, 61]) (.cond (.t 61) (.seq
    (.region none [ ⟨some 6, none, .mv (.c (.bool false))⟩] [6]) .ret) .skip)) (.seq (.seq
    (.region none [ ⟨some 62, none, .mv (.t 11)⟩, ⟨some 63, none, .mv (.t 1)⟩, ⟨some 64, none, .call (.f 7) [((.t 63), .r)]⟩, ⟨some 65, none, .call (.f 9) [((.t 62), .r), ((.t 64), .r)]⟩, ⟨some 66, none, .un .not (.t 65)⟩] [2, 12, 66]) (.cond (.t 66) (.seq
    (.region none [ ⟨some 6, none, .mv (.c (.bool false))⟩] [6]) .ret) .skip)) (.seq (.seq
    (.region none [ ⟨some 67, none, .mv (.t 12)⟩, ⟨some 68, none, .mv (.t 2)⟩, ⟨some 69, none, .call (.f 7) [((.t 68), .r)]⟩, ⟨some 70, none, .call (.f 9) [((.t 67), .r), ((.t 69), .r)]⟩, ⟨some 71, none, .un .not (.t 70)⟩] [71]) (.cond (.t 71) (.seq
    (.region none [ ⟨some 6, none, .mv (.c (.bool false))⟩] [6]) .ret) .skip)) (.seq
    (.region none [ ⟨some 6, none, .mv (.c (.bool true))⟩] [6]) .ret))))))))))))))))
def S_sh_wwB (pg : Pg) (n : Nat) (R0 : List (List Int) → List (List Int) → List Int → List Int → Bool) (R1 : List (List Int) → List (List Int) → List Int → List Int → Int) : Prop := ∀ (f0 s0 : List (List Int)) (w1 : List Int) (w2 : List Int), fits f0 → fits s0 → w1.length ≤ 1048576 → w2.length ≤ 1048576 → Call pg n [sol f0 s0, ix w1, ix w2] [sol f0 s0, ix w1, ix w2] (.tup [B (R0 f0 s0 w1 w2), I (R1 f0 s0 w1 w2)])
def S_lw_wwB (pg : Pg) (n : Nat) : Prop := ∀ (a0 b0 : Rw (Rw Int)) (c1 : Rw Int) (c2 : Rw Int), small a0 → small b0 → (lst c1).length ≤ 1048576 → (lst c2).length ≤ 1048576 → ∃ args', Call pg n [.agg [rawT a0, rawT b0], rawI c1, rawI c2] args' (B true)
set_option maxRecDepth 20000 in
theorem t_lw_wwB {pg : Pg} {n a b : Nat} {R0 : List (List Int) → List (List Int) → List Int → List Int → Bool} {R1 : List (List Int) → List (List Int) → List Int → List Int → Int} (hp : pg.fn n = some (lw_wwB a b)) (hA : S_sh_wwB pg a R0 R1) (hB : S_sh_wwB pg b R0 R1)  (h14 : S_szSol pg) (h16 : S_toSol pg) (h18 : S_eqSol pg) (h7 : S_toI pg) (h9 : S_eqI pg) : S_lw_wwB pg n := by
  intro a0 b0 c1 c2 ha0 hb0 hl1 hl2
  refine ⟨[.agg [rawT a0, rawT b0], rawI c1, rawI c2], Call.intro hp rfl (by simp) ?_⟩
  obtain ⟨r, hr1, hr2, hsz⟩ := h14 a0 b0 1048576 ha0 hb0 (by omega) (by omega)
  have hto0 := h16 a0 b0 ha0 hb0
  have hfa0 := fitsT_of ha0
  have hfb0 := fitsT_of hb0
  generalize hF0 : (lst a0).map lst = F0 at *
  generalize hS0 : (lst b0).map lst = S0 at *
  have hto1 := h7.at c1 hl1
  have hcl1 : ¬ ((lst c1).length : Int) > 1048576 := by omega
  generalize hwe1 : lst c1 = w1 at *
  have hw1 : w1.length ≤ 1048576 := hl1
  have hto2 := h7.at c2 hl2
  have hcl2 : ¬ ((lst c2).length : Int) > 1048576 := by omega
  generalize hwe2 : lst c2 = w2 at *
  have hw2 : w2.length ≤ 1048576 := hl2
  have hc1 := hA F0 S0 w1 w2 hfa0 hfb0 hw1 hw2
  have hc2 := hB F0 S0 w1 w2 hfa0 hfb0 hw1 hw2
  generalize R0 F0 S0 w1 w2 = o0 at *
  generalize R1 F0 S0 w1 w2 = o1 at *
  show wp _ _ (lw_wwB a b).body (post [.t 6] _ _ _) _
  simp [lw_wwB, hcl1, hwe1, hcl2, hwe2]
  refine callR hsz rfl rfl (fun _ => rfl) ?_
  by_cases hneg : r < 0
  · simp [hneg]
  · simp [hneg]
    refine callR hto0 rfl rfl (fun _ => by simp) ?_
    simp
    refine callR hto1 rfl rfl (fun _ => by simp) ?_
    simp
    refine callR hto2 rfl rfl (fun _ => by simp) ?_
    simp
    refine callR hc1 rfl rfl (fun _ => by simp) ?_
    simp
    refine callR hto0 rfl rfl (fun _ => by simp) ?_
    simp
    refine callR hto1 rfl rfl (fun _ => by simp) ?_
    simp
    refine callR hto2 rfl rfl (fun _ => by simp) ?_
    simp
    refine callR hc2 rfl rfl (fun _ => by simp) ?_
    simp
    refine callR hto0 rfl rfl (fun _ => by simp) ?_
    simp
    refine callR (h18.o F0 S0 F0 S0 hfa0 hfb0) rfl rfl (fun _ => rfl) ?_
    simp
    refine callR hto1 rfl rfl (fun _ => by simp) ?_
    simp
    refine callR (h9.o (some w1) (some w1) hw1) rfl rfl (fun _ => rfl) ?_
    simp
    refine callR hto2 rfl rfl (fun _ => by simp) ?_
    simp
    refine callR (h9.o (some w2) (some w2) hw2) rfl rfl (fun _ => rfl) ?_
    simp
end Go.Mch
/- The runs of the exact laws, by their shapes: sol-sol,int, sol-rack,int, sol,int-sol,int. -/
namespace Go.Mch
/-- The laws of this shape: sol to sol, int. -/
def lw_S (a b : Nat) : F where
  np := 1
  rs := [.t 2]
  body :=
    (.seq
    (.region none [ ⟨some 1, none, .box (.t 0)⟩, ⟨some 2, none, .mv (.c (.bool false))⟩] [1]) (.seq
    (.region none [ ⟨some 3, none, .mv (.c (.int .i64 1048576))⟩] [1, 3]) (.seq
    (.region none [ ⟨some 14, none, .ld (some 2) (.t 1)⟩, ⟨some 15, none, .mv (.t 3)⟩, ⟨some 16, none, .call (.f 14) [((.t 14), .r), ((.t 15), .r)]⟩, ⟨some 3, none, .mv (.t 16)⟩] [1, 3]) (.seq (.seq
    (.region none [ ⟨some 17, none, .mv (.t 3)⟩, ⟨some 18, none, .bin .lss (.t 17) (.c (.int .i64 0))⟩] [1, 18]) (.cond (.t 18) (.seq
    (.region none [ ⟨some 2, none, .mv (.c (.bool true))⟩] [2]) .ret) .skip)) (.seq
    (.region none [ ⟨some 20, none, .ld (some 2) (.t 1)⟩, ⟨some 21, none, .call (.f 16) [((.t 20), .r)]⟩, ⟨some 22, none, .call (.f a) [((.t 21), .r)]⟩, ⟨some 19, none, .mv (.t 22)⟩, ⟨some 23, none, .ext (.t 19) 0⟩, ⟨some 24, none, .ext (.t 19) 1⟩, ⟨some 4, none, .alloc [(.slice none 0 0), (.slice none 0 0)]⟩, ⟨none, none, .st (some 2) (.t 4) (.t 23)⟩, ⟨some 5, none, .mv (.t 24)⟩] [1, 4, 5]) (.seq
    (.region none [ ⟨some 25, none, .ld (some 2) (.t 1)⟩, ⟨some 26, none, .call (.f 16) [((.t 25), .r)]⟩, ⟨some 6, none, .alloc [(.slice none 0 0), (.slice none 0 0)]⟩, ⟨none, none, .st (some 2) (.t 6) (.t 26)⟩] [1, 4, 5, 6]) (.seq
    (.region none [ ⟨some 28, none, .ld (some 2) (.t 6)⟩, ⟨some 29, none, .call (.f b) [((.t 28), .r)]⟩, ⟨some 27, none, .mv (.t 29)⟩, ⟨some 30, none, .ext (.t 27) 0⟩, ⟨some 31, none, .ext (.t 27) 1⟩, ⟨some 7, none, .alloc [(.slice none 0 0), (.slice none 0 0)]⟩, ⟨none, none, .st (some 2) (.t 7) (.t 30)⟩, ⟨some 8, none, .mv (.t 31)⟩] [1, 4, 5, 6, 7, 8]) (.seq (.seq
    (.region none [ ⟨some 32, none, .ld (some 2) (.t 7)⟩, ⟨some 33, none, .ld (some 2) (.t 4)⟩, ⟨some 34, none, .call (.f 18) [((.t 32), .r), ((.t 33), .r)]⟩, ⟨some 35, none, .un .not (.t 34)⟩, ⟨some 36, none, .mv (.t 35)⟩, ⟨some 37, (some (36, false)), .mv (.t 8)⟩, ⟨some 38, (some (36, false)), .mv (.t 5)⟩, ⟨some 39, (some (36, false)), .bin .neq (.t 37) (.t 38)⟩, ⟨some 40, none, .pick (.t 36) (.c (.bool true)) (.t 39)⟩] [1, 4, 5, 6, 7, 8, 40]) (.cond (.t 40) (.seq
    (.region none [ ⟨some 2, none, .mv (.c (.bool false))⟩] [2]) .ret) .skip)) (.seq (.seq
    (.region (some [41, 42, 43]) [ ⟨some 41, none, .ld (some 2) (.t 6)⟩, ⟨some 42, none, .ld (some 2) (.t 1)⟩, ⟨some 43, none, .call (.f 16) [((.t 42), .r)]⟩, ⟨some 44, none, .call (.f 18) [((.t 41), .r), ((.t 43), .r)]⟩, ⟨some 45, none, .un .not (.t 44)⟩] [1, 4, 5, 6, 7, 8, 45]) (.cond (.t 45) (.seq
    (.region none [ ⟨some 2, none, .mv (.c (.bool false))⟩] [2]) .ret) .skip)) (.seq
    (.region none [ ⟨some 9, none, .mv (.c (.int .i64 1))⟩] [1, 4, 5, 6, 7, 8, 9]) (.seq
    (.region none [ ⟨some 46, none, .ld (some 2) (.t 6)⟩, ⟨some 47, none, .mv (.t 9)⟩, ⟨some 48, none, .callm (.f 22) [((.t 46), true), ((.t 47), false)] []⟩, ⟨some 9, none, .mv (.t 48)⟩] [1, 4, 5, 7, 8, 9]) (.seq (.seq
    (.region none [ ⟨some 49, none, .mv (.t 9)⟩, ⟨some 50, none, .bin .lss (.t 49) (.c (.int .i64 0))⟩, ⟨some 51, none, .mv (.t 50)⟩, ⟨some 52, (some (51, false)), .ld (some 2) (.t 7)⟩, ⟨some 53, (some (51, false)), .ld (some 2) (.t 4)⟩, ⟨some 54, (some (51, false)), .call (.f 18) [((.t 52), .r), ((.t 53), .r)]⟩, ⟨some 55, (some (51, false)), .un .not (.t 54)⟩, ⟨some 56, none, .pick (.t 51) (.c (.bool true)) (.t 55)⟩, ⟨some 57, none, .mv (.t 56)⟩, ⟨some 58, (some (57, false)), .mv (.t 8)⟩, ⟨some 59, (some (57, false)), .mv (.t 5)⟩, ⟨some 60, (some (57, false)), .bin .neq (.t 58) (.t 59)⟩, ⟨some 61, none, .pick (.t 57) (.c (.bool true)) (.t 60)⟩] [1, 4, 5, 7, 61]) (.cond (.t 61) (.seq
    (.region none [ ⟨some 2, none, .mv (.c (.bool false))⟩] [2]) .ret) .skip)) (.seq
    (.region none [ ⟨some 10, none, .mv (.c (.int .i64 1))⟩] [1, 4, 5, 7, 10]) (.seq
    (.region none [ ⟨some 62, none, .ld (some 2) (.t 7)⟩, ⟨some 63, none, .mv (.t 10)⟩, ⟨some 64, none, .callm (.f 22) [((.t 62), true), ((.t 63), false)] []⟩, ⟨some 10, none, .mv (.t 64)⟩] [1, 4, 5, 7, 10]) (.seq
    (.region none [ ⟨some 11, none, .mv (.c (.int .i64 1))⟩] [1, 4, 5, 7, 10, 11]) (.seq
    (.region none [ ⟨some 65, none, .ld (some 2) (.t 7)⟩, ⟨some 66, none, .mv (.t 11)⟩, ⟨some 67, none, .call (.f 172) [((.t 65), .r), ((.t 66), .r)]⟩, ⟨some 11, none, .mv (.t 67)⟩] [1, 4, 5, 7, 10, 11]) (.seq (.seq
    (.region none [ ⟨some 68, none, .mv (.t 11)⟩, ⟨some 69, none, .bin .lss (.t 68) (.c (.int .i64 0))⟩] [1, 4, 5, 7, 10, 11, 69]) (.cond (.t 69) (.seq
    (.region none [ ⟨some 2, none, .mv (.c (.bool false))⟩] [2]) .ret) .skip)) (.seq (.seq
    (.region none [ ⟨some 70, none, .mv (.t 11)⟩, ⟨some 71, none, .mv (.t 10)⟩, ⟨some 72, none, .bin .neq (.t 70) (.t 71)⟩] [1, 4, 5, 7, 10, 72]) (.cond (.t 72) (.seq
    (.region none [ ⟨some 2, none, .mv (.c (.bool false))⟩] [2]) .ret) .skip)) (.seq
    (.region none [ ⟨some 74, none, .ld (some 2) (.t 1)⟩, ⟨some 75, none, .call (.f 16) [((.t 74), .r)]⟩, ⟨some 76, none, .call (.f b) [((.t 75), .r)]⟩, ⟨some 73, none, .mv (.t 76)⟩, ⟨some 77, none, .ext (.t 73) 0⟩, ⟨some 78, none, .ext (.t 73) 1⟩, ⟨some 12, none, .alloc [(.slice none 0 0), (.slice none 0 0)]⟩, ⟨none, none, .st (some 2) (.t 12) (.t 77)⟩, ⟨some 13, none, .mv (.t 78)⟩] [4, 5, 7, 10, 12, 13]) (.seq (.seq
    (.region none [ ⟨some 79, none, .ld (some 2) (.t 12)⟩, ⟨some 80, none, .ld (some 2) (.t 4)⟩, ⟨some 81, none, .call (.f 18) [((.t 79), .r), ((.t 80), .r)]⟩, ⟨some 82, none, .un .not (.t 81)⟩, ⟨some 83, none, .mv (.t 82)⟩, ⟨some 84, (some (83, false)), .mv (.t 13)⟩, ⟨some 85, (some (83, false)), .mv (.t 5)⟩, ⟨some 86, (some (83, false)), .bin .neq (.t 84) (.t 85)⟩, ⟨some 87, none, .pick (.t 83) (.c (.bool true)) (.t 86)⟩] [7, 10, 87]) (.cond (.t 87) (.seq
    (.region none [ ⟨some 2, none, .mv (.c (.bool false))⟩] [2]) .ret) .skip)) (.seq
    (.region none [ ⟨some 11, none, .mv (.c (.int .i64 1))⟩] [7, 10, 11]) (.seq
    (.region none [ ⟨some 88, none, .ld (some 2) (.t 7)⟩, ⟨some 89, none, .mv (.t 11)⟩, ⟨some 90, none, .call (.f 172) [((.t 88), .r), ((.t 89), .r)]⟩, ⟨some 11, none, .mv (.t 90)⟩] [10, 11]) (.seq (.seq
    (.region none [ ⟨some 91, none, .mv (.t 11)⟩, ⟨some 92, none, .bin .lss (.t 91) (.c (.int .i64 0))⟩] [10, 11, 92]) (.cond (.t 92) (.seq
    (.region none [ ⟨some 2, none, .mv (.c (.bool false))⟩] [2]) .ret) .skip)) (.seq (.seq
    (.region none [ ⟨some 93, none, .mv (.t 11)⟩, ⟨some 94, none, .mv (.t 10)⟩, ⟨some 95, none, .bin .neq (.t 93) (.t 94)⟩] [95]) (.cond (.t 95) (.seq
    (.region none [ ⟨some 2, none, .mv (.c (.bool false))⟩] [2]) .ret) .skip)) (.seq
    (.region none [ ⟨some 2, none, .mv (.c (.bool true))⟩] [2]) .ret)))))))))))))))))))))))))
def S_sh_S (pg : Pg) (n : Nat) (R0 : List (List Int) → List (List Int) → Option (List (List Int) × List (List Int))) (R1 : List (List Int) → List (List Int) → Int) : Prop := ∀ (f0 s0 : List (List Int)), fits f0 → fits s0 → Call pg n [sol f0 s0] [sol f0 s0] (.tup [solT (R0 f0 s0), I (R1 f0 s0)])
def S_lw_S (pg : Pg) (n : Nat) : Prop := ∀ (a0 b0 : Rw (Rw Int)), small a0 → small b0 → ∃ args', Call pg n [.agg [rawT a0, rawT b0]] args' (B true)
set_option maxRecDepth 20000 in
theorem t_lw_S {pg : Pg} {n a b : Nat} {R0 : List (List Int) → List (List Int) → Option (List (List Int) × List (List Int))} {R1 : List (List Int) → List (List Int) → Int} (hp : pg.fn n = some (lw_S a b)) (hA : S_sh_S pg a R0 R1) (hB : S_sh_S pg b R0 R1) (hz0 : ∀ (f0 s0 : List (List Int)), fits f0 → fits s0 → ∀ X Y, R0 f0 s0 = some (X, Y) → smallT X ∧ smallT Y) (h14 : S_szSol pg) (h16 : S_toSol pg) (h18 : S_eqSol pg) (h22 : S_markSol pg) (h22z : S_markSol0 pg) (h172 : S_heldSol pg) : S_lw_S pg n := by
  intro a0 b0 ha0 hb0
  refine ⟨[.agg [rawT a0, rawT b0]], Call.intro hp rfl (by simp) ?_⟩
  obtain ⟨r, hr1, hr2, hsz⟩ := h14 a0 b0 1048576 ha0 hb0 (by omega) (by omega)
  have hto0 := h16 a0 b0 ha0 hb0
  have hfa0 := fitsT_of ha0
  have hfb0 := fitsT_of hb0
  generalize hF0 : (lst a0).map lst = F0 at *
  generalize hS0 : (lst b0).map lst = S0 at *
  have hc1 := hA F0 S0 hfa0 hfb0
  have hc2 := hB F0 S0 hfa0 hfb0
  have hsm0 := hz0 F0 S0 hfa0 hfb0
  generalize R0 F0 S0 = o0 at *
  generalize R1 F0 S0 = o1 at *
  have hk0a := kAt_le (k := (1 : Int)) hfa0 F0.length (Nat.le_refl _)
  have hk0b := kAt_le (k := (kAt (1 : Int) F0 F0.length)) hfb0 S0.length (Nat.le_refl _)
  have hfl0 := hfa0.1
  have hsl0 := hfb0.1
  have hkN : ¬ (kAt (kAt (1 : Int) F0 F0.length) S0 S0.length) < 0 := by omega
  show wp _ _ (lw_S a b).body (post [.t 2] _ _ _) _
  simp [lw_S]
  refine callR hsz rfl rfl (fun _ => rfl) ?_
  by_cases hneg : r < 0
  · simp [hneg]
  · simp [hneg]
    cases o0 with
    | some P0 =>
      obtain ⟨X0, Y0⟩ := P0
      simp only [solT] at *
      obtain ⟨hx0, hy0⟩ := hsm0 _ _ rfl
      have hm0 := kAt_le (k := (1 : Int)) hx0 X0.length (Nat.le_refl _)
      have hl0 := hx0.1
      have hm0b := kAt_le (k := (kAt (1 : Int) X0 X0.length)) hy0 Y0.length (Nat.le_refl _)
      have hl0b := hy0.1
      have hn0 : ¬ (kAt (kAt (1 : Int) X0 X0.length) Y0 Y0.length) < 0 := by omega
      refine callR hto0 rfl rfl (fun _ => by simp) ?_
      simp
      refine callR hc1 rfl rfl (fun _ => by simp) ?_
      simp
      refine callR hto0 rfl rfl (fun _ => by simp) ?_
      simp
      refine callR hc2 rfl rfl (fun _ => by simp) ?_
      simp
      refine callR (h18.oo (some (X0, Y0)) hsm0) rfl rfl (fun _ => rfl) ?_
      simp
      refine callR hto0 rfl rfl (fun _ => by simp) ?_
      simp
      refine callR (h18.o F0 S0 F0 S0 hfa0 hfb0) rfl rfl (fun _ => rfl) ?_
      simp
      refine callM (ts' := [.agg [.mem .own (some 1) (rows (upT (1 : Int) F0)), .mem .own (some 1) (rows (upT (kAt (1 : Int) F0 F0.length) S0))], I (1 : Int)]) (r := I (kAt (kAt (1 : Int) F0 F0.length) S0 S0.length)) ?_ ?_ ?_ ?_
      · simp
      · simpa using h22 F0 S0 (1 : Int) hfa0 hfb0 (by omega) (by omega)
      · simp
      simp [hkN]
      refine callR (h18.oo (some (X0, Y0)) hsm0) rfl rfl (fun _ => rfl) ?_
      simp
      refine callM (ts' := [.agg [.mem .own (some 1) (rows (upT (1 : Int) X0)), .mem .own (some 1) (rows (upT (kAt (1 : Int) X0 X0.length) Y0))], I (1 : Int)]) (r := I (kAt (kAt (1 : Int) X0 X0.length) Y0 Y0.length)) ?_ ?_ ?_ ?_
      · simp
      · simpa using h22 X0 Y0 (1 : Int) hx0 hy0 (by omega) (by omega)
      · simp
      simp
      refine callR (h172.at X0 Y0 (1 : Int) hx0 hy0 (by omega) (by omega)) rfl rfl (fun _ => rfl) ?_
      simp [hn0]
      refine callR hto0 rfl rfl (fun _ => by simp) ?_
      simp
      refine callR hc2 rfl rfl (fun _ => by simp) ?_
      simp
      refine callR (h18.oo (some (X0, Y0)) hsm0) rfl rfl (fun _ => rfl) ?_
      simp
      refine callR (h172.at X0 Y0 (1 : Int) hx0 hy0 (by omega) (by omega)) rfl rfl (fun _ => rfl) ?_
      simp [hn0]
    | none =>
      simp only [solT] at *
      refine callR hto0 rfl rfl (fun _ => by simp) ?_
      simp
      refine callR hc1 rfl rfl (fun _ => by simp) ?_
      simp
      refine callR hto0 rfl rfl (fun _ => by simp) ?_
      simp
      refine callR hc2 rfl rfl (fun _ => by simp) ?_
      simp
      refine callR (h18.oo none hsm0) rfl rfl (fun _ => rfl) ?_
      simp
      refine callR hto0 rfl rfl (fun _ => by simp) ?_
      simp
      refine callR (h18.o F0 S0 F0 S0 hfa0 hfb0) rfl rfl (fun _ => rfl) ?_
      simp
      refine callM (ts' := [.agg [.mem .own (some 1) (rows (upT (1 : Int) F0)), .mem .own (some 1) (rows (upT (kAt (1 : Int) F0 F0.length) S0))], I (1 : Int)]) (r := I (kAt (kAt (1 : Int) F0 F0.length) S0 S0.length)) ?_ ?_ ?_ ?_
      · simp
      · simpa using h22 F0 S0 (1 : Int) hfa0 hfb0 (by omega) (by omega)
      · simp
      simp [hkN]
      refine callR (h18.oo none hsm0) rfl rfl (fun _ => rfl) ?_
      simp
      refine callM (ts' := [.agg [nil, nil], I (1 : Int)]) (r := I (1 : Int)) ?_ ?_ ?_ ?_
      · simp
      · simpa using h22z (1 : Int) (by omega) (by omega)
      · simp
      simp
      refine callR (h172.at0 (1 : Int) (by omega) (by omega)) rfl rfl (fun _ => rfl) ?_
      simp
      refine callR hto0 rfl rfl (fun _ => by simp) ?_
      simp
      refine callR hc2 rfl rfl (fun _ => by simp) ?_
      simp
      refine callR (h18.oo none hsm0) rfl rfl (fun _ => rfl) ?_
      simp
      refine callR (h172.at0 (1 : Int) (by omega) (by omega)) rfl rfl (fun _ => rfl) ?_
      simp
/-- The laws of this shape: sol to rack, int. -/
def lw_K (a b : Nat) : F where
  np := 1
  rs := [.t 2]
  body :=
    (.seq
    (.region none [ ⟨some 1, none, .box (.t 0)⟩, ⟨some 2, none, .mv (.c (.bool false))⟩] [1]) (.seq
    (.region none [ ⟨some 3, none, .mv (.c (.int .i64 1048576))⟩] [1, 3]) (.seq
    (.region none [ ⟨some 14, none, .ld (some 2) (.t 1)⟩, ⟨some 15, none, .mv (.t 3)⟩, ⟨some 16, none, .call (.f 14) [((.t 14), .r), ((.t 15), .r)]⟩, ⟨some 3, none, .mv (.t 16)⟩] [1, 3]) (.seq (.seq
    (.region none [ ⟨some 17, none, .mv (.t 3)⟩, ⟨some 18, none, .bin .lss (.t 17) (.c (.int .i64 0))⟩] [1, 18]) (.cond (.t 18) (.seq
    (.region none [ ⟨some 2, none, .mv (.c (.bool true))⟩] [2]) .ret) .skip)) (.seq
    (.region none [ ⟨some 20, none, .ld (some 2) (.t 1)⟩, ⟨some 21, none, .call (.f 16) [((.t 20), .r)]⟩, ⟨some 22, none, .call (.f a) [((.t 21), .r)]⟩, ⟨some 19, none, .mv (.t 22)⟩, ⟨some 23, none, .ext (.t 19) 0⟩, ⟨some 24, none, .ext (.t 19) 1⟩, ⟨some 4, none, .alloc [(.slice none 0 0)]⟩, ⟨none, none, .st (some 1) (.t 4) (.t 23)⟩, ⟨some 5, none, .mv (.t 24)⟩] [1, 4, 5]) (.seq
    (.region none [ ⟨some 25, none, .ld (some 2) (.t 1)⟩, ⟨some 26, none, .call (.f 16) [((.t 25), .r)]⟩, ⟨some 6, none, .alloc [(.slice none 0 0), (.slice none 0 0)]⟩, ⟨none, none, .st (some 2) (.t 6) (.t 26)⟩] [1, 4, 5, 6]) (.seq
    (.region none [ ⟨some 28, none, .ld (some 2) (.t 6)⟩, ⟨some 29, none, .call (.f b) [((.t 28), .r)]⟩, ⟨some 27, none, .mv (.t 29)⟩, ⟨some 30, none, .ext (.t 27) 0⟩, ⟨some 31, none, .ext (.t 27) 1⟩, ⟨some 7, none, .alloc [(.slice none 0 0)]⟩, ⟨none, none, .st (some 1) (.t 7) (.t 30)⟩, ⟨some 8, none, .mv (.t 31)⟩] [1, 4, 5, 6, 7, 8]) (.seq (.seq
    (.region none [ ⟨some 32, none, .ld (some 1) (.t 7)⟩, ⟨some 33, none, .ld (some 1) (.t 4)⟩, ⟨some 34, none, .call (.f 10) [((.t 32), .r), ((.t 33), .r)]⟩, ⟨some 35, none, .un .not (.t 34)⟩, ⟨some 36, none, .mv (.t 35)⟩, ⟨some 37, (some (36, false)), .mv (.t 8)⟩, ⟨some 38, (some (36, false)), .mv (.t 5)⟩, ⟨some 39, (some (36, false)), .bin .neq (.t 37) (.t 38)⟩, ⟨some 40, none, .pick (.t 36) (.c (.bool true)) (.t 39)⟩] [1, 4, 5, 6, 7, 8, 40]) (.cond (.t 40) (.seq
    (.region none [ ⟨some 2, none, .mv (.c (.bool false))⟩] [2]) .ret) .skip)) (.seq (.seq
    (.region (some [41, 42, 43]) [ ⟨some 41, none, .ld (some 2) (.t 6)⟩, ⟨some 42, none, .ld (some 2) (.t 1)⟩, ⟨some 43, none, .call (.f 16) [((.t 42), .r)]⟩, ⟨some 44, none, .call (.f 18) [((.t 41), .r), ((.t 43), .r)]⟩, ⟨some 45, none, .un .not (.t 44)⟩] [1, 4, 5, 6, 7, 8, 45]) (.cond (.t 45) (.seq
    (.region none [ ⟨some 2, none, .mv (.c (.bool false))⟩] [2]) .ret) .skip)) (.seq
    (.region none [ ⟨some 9, none, .mv (.c (.int .i64 1))⟩] [1, 4, 5, 6, 7, 8, 9]) (.seq
    (.region none [ ⟨some 46, none, .ld (some 2) (.t 6)⟩, ⟨some 47, none, .mv (.t 9)⟩, ⟨some 48, none, .callm (.f 22) [((.t 46), true), ((.t 47), false)] []⟩, ⟨some 9, none, .mv (.t 48)⟩] [1, 4, 5, 7, 8, 9]) (.seq (.seq
    (.region none [ ⟨some 49, none, .mv (.t 9)⟩, ⟨some 50, none, .bin .lss (.t 49) (.c (.int .i64 0))⟩, ⟨some 51, none, .mv (.t 50)⟩, ⟨some 52, (some (51, false)), .ld (some 1) (.t 7)⟩, ⟨some 53, (some (51, false)), .ld (some 1) (.t 4)⟩, ⟨some 54, (some (51, false)), .call (.f 10) [((.t 52), .r), ((.t 53), .r)]⟩, ⟨some 55, (some (51, false)), .un .not (.t 54)⟩, ⟨some 56, none, .pick (.t 51) (.c (.bool true)) (.t 55)⟩, ⟨some 57, none, .mv (.t 56)⟩, ⟨some 58, (some (57, false)), .mv (.t 8)⟩, ⟨some 59, (some (57, false)), .mv (.t 5)⟩, ⟨some 60, (some (57, false)), .bin .neq (.t 58) (.t 59)⟩, ⟨some 61, none, .pick (.t 57) (.c (.bool true)) (.t 60)⟩] [1, 4, 5, 7, 61]) (.cond (.t 61) (.seq
    (.region none [ ⟨some 2, none, .mv (.c (.bool false))⟩] [2]) .ret) .skip)) (.seq
    (.region none [ ⟨some 10, none, .mv (.c (.int .i64 1))⟩] [1, 4, 5, 7, 10]) (.seq
    (.region none [ ⟨some 62, none, .ld (some 1) (.t 7)⟩, ⟨some 63, none, .mv (.t 10)⟩, ⟨some 64, none, .callm (.f 11) [((.t 62), true), ((.t 63), false)] []⟩, ⟨some 10, none, .mv (.t 64)⟩] [1, 4, 5, 7, 10]) (.seq
    (.region none [ ⟨some 11, none, .mv (.c (.int .i64 1))⟩] [1, 4, 5, 7, 10, 11]) (.seq
    (.region none [ ⟨some 65, none, .ld (some 1) (.t 7)⟩, ⟨some 66, none, .mv (.t 11)⟩, ⟨some 67, none, .call (.f 149) [((.t 65), .r), ((.t 66), .r)]⟩, ⟨some 11, none, .mv (.t 67)⟩] [1, 4, 5, 7, 10, 11]) (.seq (.seq
    (.region none [ ⟨some 68, none, .mv (.t 11)⟩, ⟨some 69, none, .bin .lss (.t 68) (.c (.int .i64 0))⟩] [1, 4, 5, 7, 10, 11, 69]) (.cond (.t 69) (.seq
    (.region none [ ⟨some 2, none, .mv (.c (.bool false))⟩] [2]) .ret) .skip)) (.seq (.seq
    (.region none [ ⟨some 70, none, .mv (.t 11)⟩, ⟨some 71, none, .mv (.t 10)⟩, ⟨some 72, none, .bin .neq (.t 70) (.t 71)⟩] [1, 4, 5, 7, 10, 72]) (.cond (.t 72) (.seq
    (.region none [ ⟨some 2, none, .mv (.c (.bool false))⟩] [2]) .ret) .skip)) (.seq
    (.region none [ ⟨some 74, none, .ld (some 2) (.t 1)⟩, ⟨some 75, none, .call (.f 16) [((.t 74), .r)]⟩, ⟨some 76, none, .call (.f b) [((.t 75), .r)]⟩, ⟨some 73, none, .mv (.t 76)⟩, ⟨some 77, none, .ext (.t 73) 0⟩, ⟨some 78, none, .ext (.t 73) 1⟩, ⟨some 12, none, .alloc [(.slice none 0 0)]⟩, ⟨none, none, .st (some 1) (.t 12) (.t 77)⟩, ⟨some 13, none, .mv (.t 78)⟩] [4, 5, 7, 10, 12, 13]) (.seq (.seq
    (.region none [ ⟨some 79, none, .ld (some 1) (.t 12)⟩, ⟨some 80, none, .ld (some 1) (.t 4)⟩, ⟨some 81, none, .call (.f 10) [((.t 79), .r), ((.t 80), .r)]⟩, ⟨some 82, none, .un .not (.t 81)⟩, ⟨some 83, none, .mv (.t 82)⟩, ⟨some 84, (some (83, false)), .mv (.t 13)⟩, ⟨some 85, (some (83, false)), .mv (.t 5)⟩, ⟨some 86, (some (83, false)), .bin .neq (.t 84) (.t 85)⟩, ⟨some 87, none, .pick (.t 83) (.c (.bool true)) (.t 86)⟩] [7, 10, 87]) (.cond (.t 87) (.seq
    (.region none [ ⟨some 2, none, .mv (.c (.bool false))⟩] [2]) .ret) .skip)) (.seq
    (.region none [ ⟨some 11, none, .mv (.c (.int .i64 1))⟩] [7, 10, 11]) (.seq
    (.region none [ ⟨some 88, none, .ld (some 1) (.t 7)⟩, ⟨some 89, none, .mv (.t 11)⟩, ⟨some 90, none, .call (.f 149) [((.t 88), .r), ((.t 89), .r)]⟩, ⟨some 11, none, .mv (.t 90)⟩] [10, 11]) (.seq (.seq
    (.region none [ ⟨some 91, none, .mv (.t 11)⟩, ⟨some 92, none, .bin .lss (.t 91) (.c (.int .i64 0))⟩] [10, 11, 92]) (.cond (.t 92) (.seq
    (.region none [ ⟨some 2, none, .mv (.c (.bool false))⟩] [2]) .ret) .skip)) (.seq (.seq
    (.region none [ ⟨some 93, none, .mv (.t 11)⟩, ⟨some 94, none, .mv (.t 10)⟩, ⟨some 95, none, .bin .neq (.t 93) (.t 94)⟩] [95]) (.cond (.t 95) (.seq
    (.region none [ ⟨some 2, none, .mv (.c (.bool false))⟩] [2]) .ret) .skip)) (.seq
    (.region none [ ⟨some 2, none, .mv (.c (.bool true))⟩] [2]) .ret)))))))))))))))))))))))))
def S_sh_K (pg : Pg) (n : Nat) (R0 : List (List Int) → List (List Int) → Option (List (List Int))) (R1 : List (List Int) → List (List Int) → Int) : Prop := ∀ (f0 s0 : List (List Int)), fits f0 → fits s0 → Call pg n [sol f0 s0] [sol f0 s0] (.tup [.agg [ownT (R0 f0 s0)], I (R1 f0 s0)])
def S_lw_K (pg : Pg) (n : Nat) : Prop := ∀ (a0 b0 : Rw (Rw Int)), small a0 → small b0 → ∃ args', Call pg n [.agg [rawT a0, rawT b0]] args' (B true)
set_option maxRecDepth 20000 in
theorem t_lw_K {pg : Pg} {n a b : Nat} {R0 : List (List Int) → List (List Int) → Option (List (List Int))} {R1 : List (List Int) → List (List Int) → Int} (hp : pg.fn n = some (lw_K a b)) (hA : S_sh_K pg a R0 R1) (hB : S_sh_K pg b R0 R1) (hz0 : ∀ (f0 s0 : List (List Int)), fits f0 → fits s0 → smallT (lso (R0 f0 s0))) (h14 : S_szSol pg) (h16 : S_toSol pg) (h18 : S_eqSol pg) (h22 : S_markSol pg) (h11 : S_markRack pg) (h11z : S_markRack0 pg) (h149 : S_heldRack pg) (h10 : S_eqRack pg) : S_lw_K pg n := by
  intro a0 b0 ha0 hb0
  refine ⟨[.agg [rawT a0, rawT b0]], Call.intro hp rfl (by simp) ?_⟩
  obtain ⟨r, hr1, hr2, hsz⟩ := h14 a0 b0 1048576 ha0 hb0 (by omega) (by omega)
  have hto0 := h16 a0 b0 ha0 hb0
  have hfa0 := fitsT_of ha0
  have hfb0 := fitsT_of hb0
  generalize hF0 : (lst a0).map lst = F0 at *
  generalize hS0 : (lst b0).map lst = S0 at *
  have hc1 := hA F0 S0 hfa0 hfb0
  have hc2 := hB F0 S0 hfa0 hfb0
  have hsm0 := hz0 F0 S0 hfa0 hfb0
  generalize R0 F0 S0 = o0 at *
  generalize R1 F0 S0 = o1 at *
  have hk0a := kAt_le (k := (1 : Int)) hfa0 F0.length (Nat.le_refl _)
  have hk0b := kAt_le (k := (kAt (1 : Int) F0 F0.length)) hfb0 S0.length (Nat.le_refl _)
  have hfl0 := hfa0.1
  have hsl0 := hfb0.1
  have hkN : ¬ (kAt (kAt (1 : Int) F0 F0.length) S0 S0.length) < 0 := by omega
  show wp _ _ (lw_K a b).body (post [.t 2] _ _ _) _
  simp [lw_K]
  refine callR hsz rfl rfl (fun _ => rfl) ?_
  by_cases hneg : r < 0
  · simp [hneg]
  · simp [hneg]
    cases o0 with
    | some Y0 =>
      simp only [ownT, lso_some] at *
      have hm0 := kAt_le (k := (1 : Int)) hsm0 Y0.length (Nat.le_refl _)
      have hy0 := hsm0.1
      have hn0 : ¬ (kAt (1 : Int) Y0 Y0.length) < 0 := by omega
      refine callR hto0 rfl rfl (fun _ => by simp) ?_
      simp
      refine callR hc1 rfl rfl (fun _ => by simp) ?_
      simp
      refine callR hto0 rfl rfl (fun _ => by simp) ?_
      simp
      refine callR hc2 rfl rfl (fun _ => by simp) ?_
      simp
      refine callR (h10.oo (some Y0) (some Y0) hsm0) rfl rfl (fun _ => rfl) ?_
      simp
      refine callR hto0 rfl rfl (fun _ => by simp) ?_
      simp
      refine callR (h18.o F0 S0 F0 S0 hfa0 hfb0) rfl rfl (fun _ => rfl) ?_
      simp
      refine callM (ts' := [.agg [.mem .own (some 1) (rows (upT (1 : Int) F0)), .mem .own (some 1) (rows (upT (kAt (1 : Int) F0 F0.length) S0))], I (1 : Int)]) (r := I (kAt (kAt (1 : Int) F0 F0.length) S0 S0.length)) ?_ ?_ ?_ ?_
      · simp
      · simpa using h22 F0 S0 (1 : Int) hfa0 hfb0 (by omega) (by omega)
      · simp
      simp [hkN]
      refine callR (h10.oo (some Y0) (some Y0) hsm0) rfl rfl (fun _ => rfl) ?_
      simp
      refine callM (ts' := [.agg [.mem .own (some 1) (rows (upT (1 : Int) Y0))], I (1 : Int)]) (r := I (kAt (1 : Int) Y0 Y0.length)) ?_ ?_ ?_ ?_
      · simp
      · simpa using h11 Y0 (1 : Int) hsm0 (by omega) (by omega)
      · simp
      simp
      refine callR (h149.at Y0 (1 : Int) hsm0 (by omega) (by omega)) rfl rfl (fun _ => rfl) ?_
      simp [hn0]
      refine callR hto0 rfl rfl (fun _ => by simp) ?_
      simp
      refine callR hc2 rfl rfl (fun _ => by simp) ?_
      simp
      refine callR (h10.oo (some Y0) (some Y0) hsm0) rfl rfl (fun _ => rfl) ?_
      simp
      refine callR (h149.at Y0 (1 : Int) hsm0 (by omega) (by omega)) rfl rfl (fun _ => rfl) ?_
      simp [hn0]
    | none =>
      simp only [ownT, lso_none] at *
      refine callR hto0 rfl rfl (fun _ => by simp) ?_
      simp
      refine callR hc1 rfl rfl (fun _ => by simp) ?_
      simp
      refine callR hto0 rfl rfl (fun _ => by simp) ?_
      simp
      refine callR hc2 rfl rfl (fun _ => by simp) ?_
      simp
      refine callR (h10.oo none none hsm0) rfl rfl (fun _ => rfl) ?_
      simp
      refine callR hto0 rfl rfl (fun _ => by simp) ?_
      simp
      refine callR (h18.o F0 S0 F0 S0 hfa0 hfb0) rfl rfl (fun _ => rfl) ?_
      simp
      refine callM (ts' := [.agg [.mem .own (some 1) (rows (upT (1 : Int) F0)), .mem .own (some 1) (rows (upT (kAt (1 : Int) F0 F0.length) S0))], I (1 : Int)]) (r := I (kAt (kAt (1 : Int) F0 F0.length) S0 S0.length)) ?_ ?_ ?_ ?_
      · simp
      · simpa using h22 F0 S0 (1 : Int) hfa0 hfb0 (by omega) (by omega)
      · simp
      simp [hkN]
      refine callR (h10.oo none none hsm0) rfl rfl (fun _ => rfl) ?_
      simp
      refine callM (ts' := [.agg [nil], I (1 : Int)]) (r := I (1 : Int)) ?_ ?_ ?_ ?_
      · simp
      · simpa using h11z (1 : Int) (by omega) (by omega)
      · simp
      simp
      refine callR (h149.at0 (1 : Int) (by omega) (by omega)) rfl rfl (fun _ => rfl) ?_
      simp
      refine callR hto0 rfl rfl (fun _ => by simp) ?_
      simp
      refine callR hc2 rfl rfl (fun _ => by simp) ?_
      simp
      refine callR (h10.oo none none hsm0) rfl rfl (fun _ => rfl) ?_
      simp
      refine callR (h149.at0 (1 : Int) (by omega) (by omega)) rfl rfl (fun _ => rfl) ?_
      simp
/-- The laws of this shape: sol, int to sol, int. -/
def lw_pS (a b : Nat) : F where
  np := 2
  rs := [.t 4]
  body :=
    (.seq
    (.region none [ ⟨some 2, none, .box (.t 0)⟩, ⟨some 4, none, .mv (.c (.bool false))⟩] [1, 2]) (.seq
    (.region none [ ⟨some 5, none, .mv (.c (.int .i64 1048576))⟩] [1, 2, 5]) (.seq
    (.region none [ ⟨some 16, none, .ld (some 2) (.t 2)⟩, ⟨some 17, none, .mv (.t 5)⟩, ⟨some 18, none, .call (.f 14) [((.t 16), .r), ((.t 17), .r)]⟩, ⟨some 5, none, .mv (.t 18)⟩] [1, 2, 5]) (.seq (.seq
    (.region none [ ⟨some 19, none, .mv (.t 5)⟩, ⟨some 20, none, .bin .lss (.t 19) (.c (.int .i64 0))⟩] [1, 2, 20]) (.cond (.t 20) (.seq
    (.region none [ ⟨some 4, none, .mv (.c (.bool true))⟩] [4]) .ret) .skip)) (.seq
    (.region none [ ⟨some 22, none, .ld (some 2) (.t 2)⟩, ⟨some 23, none, .call (.f 16) [((.t 22), .r)]⟩, ⟨some 24, none, .mv (.t 1)⟩, ⟨some 25, none, .call (.f a) [((.t 23), .r), ((.t 24), .r)]⟩, ⟨some 21, none, .mv (.t 25)⟩, ⟨some 26, none, .ext (.t 21) 0⟩, ⟨some 27, none, .ext (.t 21) 1⟩, ⟨some 6, none, .alloc [(.slice none 0 0), (.slice none 0 0)]⟩, ⟨none, none, .st (some 2) (.t 6) (.t 26)⟩, ⟨some 7, none, .mv (.t 27)⟩] [1, 2, 6, 7]) (.seq
    (.region none [ ⟨some 28, none, .ld (some 2) (.t 2)⟩, ⟨some 29, none, .call (.f 16) [((.t 28), .r)]⟩, ⟨some 8, none, .alloc [(.slice none 0 0), (.slice none 0 0)]⟩, ⟨none, none, .st (some 2) (.t 8) (.t 29)⟩] [1, 2, 6, 7, 8]) (.seq
    (.region none [ ⟨some 31, none, .ld (some 2) (.t 8)⟩, ⟨some 32, none, .mv (.t 1)⟩, ⟨some 33, none, .call (.f b) [((.t 31), .r), ((.t 32), .r)]⟩, ⟨some 30, none, .mv (.t 33)⟩, ⟨some 34, none, .ext (.t 30) 0⟩, ⟨some 35, none, .ext (.t 30) 1⟩, ⟨some 9, none, .alloc [(.slice none 0 0), (.slice none 0 0)]⟩, ⟨none, none, .st (some 2) (.t 9) (.t 34)⟩, ⟨some 10, none, .mv (.t 35)⟩] [1, 2, 6, 7, 8, 9, 10]) (.seq (.seq
    (.region none [ ⟨some 36, none, .ld (some 2) (.t 9)⟩, ⟨some 37, none, .ld (some 2) (.t 6)⟩, ⟨some 38, none, .call (.f 18) [((.t 36), .r), ((.t 37), .r)]⟩, ⟨some 39, none, .un .not (.t 38)⟩, ⟨some 40, none, .mv (.t 39)⟩, ⟨some 41, (some (40, false)), .mv (.t 10)⟩, ⟨some 42, (some (40, false)), .mv (.t 7)⟩, ⟨some 43, (some (40, false)), .bin .neq (.t 41) (.t 42)⟩, ⟨some 44, none, .pick (.t 40) (.c (.bool true)) (.t 43)⟩] [1, 2, 6, 7, 8, 9, 10, 44]) (.cond (.t 44) (.seq
    (.region none [ ⟨some 4, none, .mv (.c (.bool false))⟩] [4]) .ret) .skip)) (.seq (.seq
    (.region (some [45, 46, 47]) [ ⟨some 45, none, .ld (some 2) (.t 8)⟩, ⟨some 46, none, .ld (some 2) (.t 2)⟩, ⟨some 47, none, .call (.f 16) [((.t 46), .r)]⟩, ⟨some 48, none, .call (.f 18) [((.t 45), .r), ((.t 47), .r)]⟩, ⟨some 49, none, .un .not (.t 48)⟩] [1, 2, 6, 7, 8, 9, 10, 49]) (.cond (.t 49) (.seq
    (.region none [ ⟨some 4, none, .mv (.c (.bool false))⟩] [4]) .ret) .skip)) (.seq
    (.region none [ ⟨some 11, none, .mv (.c (.int .i64 1))⟩] [1, 2, 6, 7, 8, 9, 10, 11]) (.seq
    (.region none [ ⟨some 50, none, .ld (some 2) (.t 8)⟩, ⟨some 51, none, .mv (.t 11)⟩, ⟨some 52, none, .callm (.f 22) [((.t 50), true), ((.t 51), false)] []⟩, ⟨some 11, none, .mv (.t 52)⟩] [1, 2, 6, 7, 9, 10, 11]) (.seq (.seq
    (.region none [ ⟨some 53, none, .mv (.t 11)⟩, ⟨some 54, none, .bin .lss (.t 53) (.c (.int .i64 0))⟩, ⟨some 55, none, .mv (.t 54)⟩, ⟨some 56, (some (55, false)), .ld (some 2) (.t 9)⟩, ⟨some 57, (some (55, false)), .ld (some 2) (.t 6)⟩, ⟨some 58, (some (55, false)), .call (.f 18) [((.t 56), .r), ((.t 57), .r)]⟩, ⟨some 59, (some (55, false)), .un .not (.t 58)⟩, ⟨some 60, none, .pick (.t 55) (.c (.bool true)) (.t 59)⟩, ⟨some 61, none, .mv (.t 60)⟩, ⟨some 62, (some (61, false)), .mv (.t 10)⟩, ⟨some 63, (some (61, false)), .mv (.t 7)⟩, ⟨some 64, (some (61, false)), .bin .neq (.t 62) (.t 63)⟩, ⟨some 65, none, .pick (.t 61) (.c (.bool true)) (.t 64)⟩] [1, 2, 6, 7, 9, 65]) (.cond (.t 65) (.seq
    (.region none [ ⟨some 4, none, .mv (.c (.bool false))⟩] [4]) .ret) .skip)) (.seq
    (.region none [ ⟨some 12, none, .mv (.c (.int .i64 1))⟩] [1, 2, 6, 7, 9, 12]) (.seq
    (.region none [ ⟨some 66, none, .ld (some 2) (.t 9)⟩, ⟨some 67, none, .mv (.t 12)⟩, ⟨some 68, none, .callm (.f 22) [((.t 66), true), ((.t 67), false)] []⟩, ⟨some 12, none, .mv (.t 68)⟩] [1, 2, 6, 7, 9, 12]) (.seq
    (.region none [ ⟨some 13, none, .mv (.c (.int .i64 1))⟩] [1, 2, 6, 7, 9, 12, 13]) (.seq
    (.region none [ ⟨some 69, none, .ld (some 2) (.t 9)⟩, ⟨some 70, none, .mv (.t 13)⟩, ⟨some 71, none, .call (.f 172) [((.t 69), .r), ((.t 70), .r)]⟩, ⟨some 13, none, .mv (.t 71)⟩] [1, 2, 6, 7, 9, 12, 13]) (.seq (.seq
    (.region none [ ⟨some 72, none, .mv (.t 13)⟩, ⟨some 73, none, .bin .lss (.t 72) (.c (.int .i64 0))⟩] [1, 2, 6, 7, 9, 12, 13, 73]) (.cond (.t 73) (.seq
    (.region none [ ⟨some 4, none, .mv (.c (.bool false))⟩] [4]) .ret) .skip)) (.seq (.seq
    (.region none [ ⟨some 74, none, .mv (.t 13)⟩, ⟨some 75, none, .mv (.t 12)⟩, ⟨some 76, none, .bin .neq (.t 74) (.t 75)⟩] [1, 2, 6, 7, 9, 12, 76]) (.cond (.t 76) (.seq
    (.region none [ ⟨some 4, none, .mv (.c (.bool false))⟩] [4]) .ret) .skip)) (.seq
    (.region none [ ⟨some 78, none, .ld (some 2) (.t 2)⟩, ⟨some 79, none, .call (.f 16) [((.t 78), .r)]⟩, ⟨some 80, none, .mv (.t 1)⟩, ⟨some 81, none, .call (.f b) [((.t 79), .r), ((.t 80), .r)]⟩, ⟨some 77, none, .mv (.t 81)⟩, ⟨some 82, none, .ext (.t 77) 0⟩, ⟨some 83, none, .ext (.t 77) 1⟩, ⟨some 14, none, .alloc [(.slice none 0 0), (.slice none 0 0)]⟩, ⟨none, none, .st (some 2) (.t 14) (.t 82)⟩, ⟨some 15, none, .mv (.t 83)⟩] [6, 7, 9, 12, 14, 15]) (.seq (.seq
    (.region none [ ⟨some 84, none, .ld (some 2) (.t 14)⟩, ⟨some 85, none, .ld (some 2) (.t 6)⟩, ⟨some 86, none, .call (.f 18) [((.t 84), .r), ((.t 85), .r)]⟩, ⟨some 87, none, .un .not (.t 86)⟩, ⟨some 88, none, .mv (.t 87)⟩, ⟨some 89, (some (88, false)), .mv (.t 15)⟩, ⟨some 90, (some (88, false)), .mv (.t 7)⟩, ⟨some 91, (some (88, false)), .bin .neq (.t 89) (.t 90)⟩, ⟨some 92, none, .pick (.t 88) (.c (.bool true)) (.t 91)⟩] [9, 12, 92]) (.cond (.t 92) (.seq
    (.region none [ ⟨some 4, none, .mv (.c (.bool false))⟩] [4]) .ret) .skip)) (.seq
    (.region none [ ⟨some 13, none, .mv (.c (.int .i64 1))⟩] [9, 12, 13]) (.seq
    (.region none [ ⟨some 93, none, .ld (some 2) (.t 9)⟩, ⟨some 94, none, .mv (.t 13)⟩, ⟨some 95, none, .call (.f 172) [((.t 93), .r), ((.t 94), .r)]⟩, ⟨some 13, none, .mv (.t 95)⟩] [12, 13]) (.seq (.seq
    (.region none [ ⟨some 96, none, .mv (.t 13)⟩, ⟨some 97, none, .bin .lss (.t 96) (.c (.int .i64 0))⟩] [12, 13, 97]) (.cond (.t 97) (.seq
    (.region none [ ⟨some 4, none, .mv (.c (.bool false))⟩] [4]) .ret) .skip)) (.seq (.seq
    (.region none [ ⟨some 98, none, .mv (.t 13)⟩, ⟨some 99, none, .mv (.t 12)⟩, ⟨some 100, none, .bin .neq (.t 98) (.t 99)⟩] [100]) (.cond (.t 100) (.seq
    (.region none [ ⟨some 4, none, .mv (.c (.bool false))⟩] [4]) .ret) .skip)) (.seq
    (.region none [ ⟨some 4, none, .mv (.c (.bool true))⟩] [4]) .ret)))))))))))))))))))))))))
def S_sh_pS (pg : Pg) (n : Nat) (R0 : List (List Int) → List (List Int) → Int → Option (List (List Int) × List (List Int))) (R1 : List (List Int) → List (List Int) → Int → Int) : Prop := ∀ (f0 s0 : List (List Int)) (p1 : Int), fits f0 → fits s0 → Call pg n [sol f0 s0, I p1] [sol f0 s0, I p1] (.tup [solT (R0 f0 s0 p1), I (R1 f0 s0 p1)])
def S_lw_pS (pg : Pg) (n : Nat) : Prop := ∀ (a0 b0 : Rw (Rw Int)) (p1 : Int), small a0 → small b0 → ∃ args', Call pg n [.agg [rawT a0, rawT b0], I p1] args' (B true)
set_option maxRecDepth 20000 in
theorem t_lw_pS {pg : Pg} {n a b : Nat} {R0 : List (List Int) → List (List Int) → Int → Option (List (List Int) × List (List Int))} {R1 : List (List Int) → List (List Int) → Int → Int} (hp : pg.fn n = some (lw_pS a b)) (hA : S_sh_pS pg a R0 R1) (hB : S_sh_pS pg b R0 R1) (hz0 : ∀ (f0 s0 : List (List Int)) (p1 : Int), fits f0 → fits s0 → ∀ X Y, R0 f0 s0 p1 = some (X, Y) → smallT X ∧ smallT Y) (h14 : S_szSol pg) (h16 : S_toSol pg) (h18 : S_eqSol pg) (h22 : S_markSol pg) (h22z : S_markSol0 pg) (h172 : S_heldSol pg) : S_lw_pS pg n := by
  intro a0 b0 p1 ha0 hb0
  refine ⟨[.agg [rawT a0, rawT b0], I p1], Call.intro hp rfl (by simp) ?_⟩
  obtain ⟨r, hr1, hr2, hsz⟩ := h14 a0 b0 1048576 ha0 hb0 (by omega) (by omega)
  have hto0 := h16 a0 b0 ha0 hb0
  have hfa0 := fitsT_of ha0
  have hfb0 := fitsT_of hb0
  generalize hF0 : (lst a0).map lst = F0 at *
  generalize hS0 : (lst b0).map lst = S0 at *
  have hc1 := hA F0 S0 p1 hfa0 hfb0
  have hc2 := hB F0 S0 p1 hfa0 hfb0
  have hsm0 := hz0 F0 S0 p1 hfa0 hfb0
  generalize R0 F0 S0 p1 = o0 at *
  generalize R1 F0 S0 p1 = o1 at *
  have hk0a := kAt_le (k := (1 : Int)) hfa0 F0.length (Nat.le_refl _)
  have hk0b := kAt_le (k := (kAt (1 : Int) F0 F0.length)) hfb0 S0.length (Nat.le_refl _)
  have hfl0 := hfa0.1
  have hsl0 := hfb0.1
  have hkN : ¬ (kAt (kAt (1 : Int) F0 F0.length) S0 S0.length) < 0 := by omega
  show wp _ _ (lw_pS a b).body (post [.t 4] _ _ _) _
  simp [lw_pS]
  refine callR hsz rfl rfl (fun _ => rfl) ?_
  by_cases hneg : r < 0
  · simp [hneg]
  · simp [hneg]
    cases o0 with
    | some P0 =>
      obtain ⟨X0, Y0⟩ := P0
      simp only [solT] at *
      obtain ⟨hx0, hy0⟩ := hsm0 _ _ rfl
      have hm0 := kAt_le (k := (1 : Int)) hx0 X0.length (Nat.le_refl _)
      have hl0 := hx0.1
      have hm0b := kAt_le (k := (kAt (1 : Int) X0 X0.length)) hy0 Y0.length (Nat.le_refl _)
      have hl0b := hy0.1
      have hn0 : ¬ (kAt (kAt (1 : Int) X0 X0.length) Y0 Y0.length) < 0 := by omega
      refine callR hto0 rfl rfl (fun _ => by simp) ?_
      simp
      refine callR hc1 rfl rfl (fun _ => by simp) ?_
      simp
      refine callR hto0 rfl rfl (fun _ => by simp) ?_
      simp
      refine callR hc2 rfl rfl (fun _ => by simp) ?_
      simp
      refine callR (h18.oo (some (X0, Y0)) hsm0) rfl rfl (fun _ => rfl) ?_
      simp
      refine callR hto0 rfl rfl (fun _ => by simp) ?_
      simp
      refine callR (h18.o F0 S0 F0 S0 hfa0 hfb0) rfl rfl (fun _ => rfl) ?_
      simp
      refine callM (ts' := [.agg [.mem .own (some 1) (rows (upT (1 : Int) F0)), .mem .own (some 1) (rows (upT (kAt (1 : Int) F0 F0.length) S0))], I (1 : Int)]) (r := I (kAt (kAt (1 : Int) F0 F0.length) S0 S0.length)) ?_ ?_ ?_ ?_
      · simp
      · simpa using h22 F0 S0 (1 : Int) hfa0 hfb0 (by omega) (by omega)
      · simp
      simp [hkN]
      refine callR (h18.oo (some (X0, Y0)) hsm0) rfl rfl (fun _ => rfl) ?_
      simp
      refine callM (ts' := [.agg [.mem .own (some 1) (rows (upT (1 : Int) X0)), .mem .own (some 1) (rows (upT (kAt (1 : Int) X0 X0.length) Y0))], I (1 : Int)]) (r := I (kAt (kAt (1 : Int) X0 X0.length) Y0 Y0.length)) ?_ ?_ ?_ ?_
      · simp
      · simpa using h22 X0 Y0 (1 : Int) hx0 hy0 (by omega) (by omega)
      · simp
      simp
      refine callR (h172.at X0 Y0 (1 : Int) hx0 hy0 (by omega) (by omega)) rfl rfl (fun _ => rfl) ?_
      simp [hn0]
      refine callR hto0 rfl rfl (fun _ => by simp) ?_
      simp
      refine callR hc2 rfl rfl (fun _ => by simp) ?_
      simp
      refine callR (h18.oo (some (X0, Y0)) hsm0) rfl rfl (fun _ => rfl) ?_
      simp
      refine callR (h172.at X0 Y0 (1 : Int) hx0 hy0 (by omega) (by omega)) rfl rfl (fun _ => rfl) ?_
      simp [hn0]
    | none =>
      simp only [solT] at *
      refine callR hto0 rfl rfl (fun _ => by simp) ?_
      simp
      refine callR hc1 rfl rfl (fun _ => by simp) ?_
      simp
      refine callR hto0 rfl rfl (fun _ => by simp) ?_
      simp
      refine callR hc2 rfl rfl (fun _ => by simp) ?_
      simp
      refine callR (h18.oo none hsm0) rfl rfl (fun _ => rfl) ?_
      simp
      refine callR hto0 rfl rfl (fun _ => by simp) ?_
      simp
      refine callR (h18.o F0 S0 F0 S0 hfa0 hfb0) rfl rfl (fun _ => rfl) ?_
      simp
      refine callM (ts' := [.agg [.mem .own (some 1) (rows (upT (1 : Int) F0)), .mem .own (some 1) (rows (upT (kAt (1 : Int) F0 F0.length) S0))], I (1 : Int)]) (r := I (kAt (kAt (1 : Int) F0 F0.length) S0 S0.length)) ?_ ?_ ?_ ?_
      · simp
      · simpa using h22 F0 S0 (1 : Int) hfa0 hfb0 (by omega) (by omega)
      · simp
      simp [hkN]
      refine callR (h18.oo none hsm0) rfl rfl (fun _ => rfl) ?_
      simp
      refine callM (ts' := [.agg [nil, nil], I (1 : Int)]) (r := I (1 : Int)) ?_ ?_ ?_ ?_
      · simp
      · simpa using h22z (1 : Int) (by omega) (by omega)
      · simp
      simp
      refine callR (h172.at0 (1 : Int) (by omega) (by omega)) rfl rfl (fun _ => rfl) ?_
      simp
      refine callR hto0 rfl rfl (fun _ => by simp) ?_
      simp
      refine callR hc2 rfl rfl (fun _ => by simp) ?_
      simp
      refine callR (h18.oo none hsm0) rfl rfl (fun _ => rfl) ?_
      simp
      refine callR (h172.at0 (1 : Int) (by omega) (by omega)) rfl rfl (fun _ => rfl) ?_
      simp
end Go.Mch
/- What the first laws of solutions return is small. -/
namespace Go.Mch
theorem lam_small (f s : List (List Int)) (hf : fits f) (_ : fits s) : smallT (onReg [] (fun f _ => f) f s) := by
  unfold onReg
  split
  · exact hf
  · simp [smallT]
theorem rho_small (f s : List (List Int)) (_ : fits f) (hs : fits s) : smallT (onReg [] (fun _ s => turnL s) f s) := by
  unfold onReg
  split
  · exact ⟨by have := hs.1; simpa using this, fun r hr => by rw [tabL_row hr]; exact hs.1⟩
  · simp [smallT]
theorem gm_small (f s : List (List Int)) (w : List Int) (_ : fits f) (_ : fits s) (hw : w.length ≤ 1048576) : (gmR f s w).length ≤ 1048576 := by
  unfold gmR
  split
  · simpa [gmL] using hw
  · simp
theorem gb_small (f s : List (List Int)) (w : List Int) (_ : fits f) (_ : fits s) (hw : w.length ≤ 1048576) : (gbR f s w).length ≤ 1048576 := by
  unfold gbR
  split
  · simpa using hw
  · simp
theorem dr_small (f s : List (List Int)) (hf : fits f) (_ : fits s) : smallT (lso (drR f s)) := by
  unfold drR
  split
  · exact ⟨by have := hf.1; simpa using this, fun r hr => by have := tabL_row hr; have := hf.1; omega⟩
  · simp [smallT]
end Go.Mch
/- The runs of the laws of LambdaMaps, RhoMaps, IsAbelianLeft, GuitarMap, GuitarBack, DerivedRack. -/
namespace Go.Mch
def S_law75 (pg : Pg) : Prop := S_lw_T pg 75
theorem t_law75 {pg : Pg} (hp : pg.fn 75 = some (lw_T 144 135)) (h144 : S_lambda pg 144) (h135 : S_lambda pg 135) (h14 : S_szSol pg) (h16 : S_toSol pg) (h18 : S_eqSol pg) (h22 : S_markSol pg) (h21 : S_eqT pg) (h23 : S_markT pg) (h24 : S_heldT pg) : S_law75 pg := by
  exact t_lw_T (R0 := (onReg [] fun f _ => f)) (R1 := (onReg 1 fun _ _ => 0)) hp h144 h135 lam_small h14 h16 h18 h22 h21 h23 h24
def S_law72 (pg : Pg) : Prop := S_lw_T pg 72
theorem t_law72 {pg : Pg} (hp : pg.fn 72 = some (lw_T 126 127)) (h126 : S_rho pg 126) (h127 : S_rho pg 127) (h14 : S_szSol pg) (h16 : S_toSol pg) (h18 : S_eqSol pg) (h22 : S_markSol pg) (h21 : S_eqT pg) (h23 : S_markT pg) (h24 : S_heldT pg) : S_law72 pg := by
  exact t_lw_T (R0 := (onReg [] fun _ s => turnL s)) (R1 := (onReg 1 fun _ _ => 0)) hp h126 h127 rho_small h14 h16 h18 h22 h21 h23 h24
def S_law74 (pg : Pg) : Prop := S_lw_B pg 74
theorem t_law74 {pg : Pg} (hp : pg.fn 74 = some (lw_B 143 136)) (h143 : S_abel pg 143) (h136 : S_abel pg 136) (h14 : S_szSol pg) (h16 : S_toSol pg) (h18 : S_eqSol pg) : S_law74 pg := by
  exact t_lw_B (R0 := (onReg false fun f _ => decide (abel f))) (R1 := (onReg 1 fun _ _ => 0)) hp h143 h136  h14 h16 h18
def S_law76 (pg : Pg) : Prop := S_lw_wI pg 76
theorem t_law76 {pg : Pg} (hp : pg.fn 76 = some (lw_wI 145 146)) (h145 : S_gm pg 145) (h146 : S_gm pg 146) (h14 : S_szSol pg) (h16 : S_toSol pg) (h18 : S_eqSol pg) (h7 : S_toI pg) (h9 : S_eqI pg) (h22 : S_markSol pg) (h12 : S_markI pg) (h13 : S_heldI pg) : S_law76 pg := by
  exact t_lw_wI (R0 := gmR) (R1 := gC) hp h145 h146 gm_small h14 h16 h18 h7 h9 h22 h12 h13
def S_law78 (pg : Pg) : Prop := S_lw_wI pg 78
theorem t_law78 {pg : Pg} (hp : pg.fn 78 = some (lw_wI 150 151)) (h150 : S_gb pg 150) (h151 : S_gb pg 151) (h14 : S_szSol pg) (h16 : S_toSol pg) (h18 : S_eqSol pg) (h7 : S_toI pg) (h9 : S_eqI pg) (h22 : S_markSol pg) (h12 : S_markI pg) (h13 : S_heldI pg) : S_law78 pg := by
  exact t_lw_wI (R0 := gbR) (R1 := gC) hp h150 h151 gb_small h14 h16 h18 h7 h9 h22 h12 h13
def S_law77 (pg : Pg) : Prop := S_lw_K pg 77
theorem t_law77 {pg : Pg} (hp : pg.fn 77 = some (lw_K 147 148)) (h147 : S_dr pg 147) (h148 : S_dr pg 148) (h14 : S_szSol pg) (h16 : S_toSol pg) (h18 : S_eqSol pg) (h22 : S_markSol pg) (h11 : S_markRack pg) (h11z : S_markRack0 pg) (h149 : S_heldRack pg) (h10 : S_eqRack pg) : S_law77 pg := by
  exact t_lw_K (R0 := drR) (R1 := drC) hp h147 h148 dr_small h14 h16 h18 h22 h11 h11z h149 h10
end Go.Mch
