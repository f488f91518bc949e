/- The law of FixedPairs. -/
import Derived.Test.YtkdoegjnnfmpaaaYfH
namespace Go.Mch

/-- An own table or nil, as one that is only read. -/
def eT : Option (List (List Int)) → T
  | none => nil
  | some X => tb X
def ryT (o : Option (List (List Int))) : Rw (Rw Int) := Rw.ofO (o.map fun X => X.map .of)
theorem rawT_ry (o : Option (List (List Int))) : rawT (ryT o) = eT o := by
  cases o with
  | none => rfl
  | some X => exact rawT_tb X
theorem map_lst_of {α : Type} (X : List (List α)) : (X.map Rw.of).map lst = X := by simp [Function.comp_def]
theorem lst_ry (o : Option (List (List Int))) : (lst (ryT o)).map lst = lso o := by
  cases o with
  | none => rfl
  | some X => exact map_lst_of X
theorem small_ry {o : Option (List (List Int))} (h : smallT (lso o)) : small (ryT o) := by
  cases o with
  | none => exact ⟨by simp [ryT, Rw.ofO, lst], by simp [ryT, Rw.ofO, lst]⟩
  | some X => exact ⟨by simpa [ryT, Rw.ofO] using h.1, by simpa [ryT, Rw.ofO] using h.2⟩
theorem S_eqT.o {pg : Pg} (h : S_eqT pg) (o o' : Option (List (List Int))) (hs : smallT (lso o)) : Call pg 21 [eT o, eT o'] [eT o, eT o'] (B (decide (lso o = lso o'))) := by
  have := h (ryT o) (ryT o') (small_ry hs)
  simp only [rawT_ry, lst_ry] at this
  exact this
theorem S_heldT.o {pg : Pg} (h : S_heldT pg) (o : Option (List (List Int))) (k : Int) (hs : smallT (lso o)) (h1 : -1 ≤ k) (h2 : k ≤ 2305843009213693952) : Call pg 24 [eT o, I k] [eT o, I k] (I (heldL (lso o) k)) := by
  have := h (ryT o) k (small_ry hs) h1 h2
  simp only [rawT_ry, lst_ry] at this
  exact this
theorem S_eqSol.o {pg : Pg} (h : S_eqSol pg) (X Y Z W : List (List Int)) (hX : smallT X) (hY : smallT Y) : Call pg 18 [.agg [tb X, tb Y], .agg [tb Z, tb W]] [.agg [tb X, tb Y], .agg [tb Z, tb W]] (B (decide (X = Z ∧ Y = W))) := by
  have := h (ryT (some X)) (ryT (some Y)) (ryT (some Z)) (ryT (some W)) (small_ry hX) (small_ry hY)
  simp only [rawT_ry, lst_ry] at this
  exact this

theorem fitsT_of {a : Rw (Rw Int)} (h : small a) : fits ((lst a).map lst) := ⟨by simpa using h.1, by simpa using h.2⟩
theorem smallT_of {X : List (List Int)} (h : fits X) : smallT X := h

theorem fixP_small (f s : List (List Int)) : smallT (fixP f s) := by
  unfold fixP
  split
  · next h =>
    have hpm := PM.of h.1
    have := fixL_len f s f.length
    have h2 : f.length * f.length ≤ 12 * 12 := Nat.mul_le_mul hpm.small hpm.small
    exact ⟨by omega, fun r hr => by rw [fixL_row f s _ r hr]; omega⟩
  · exact ⟨by simp, by simp⟩

theorem upT_small {X : List (List Int)} (h : smallT X) (k : Int) : smallT (upT k X) := by
  refine ⟨by simpa [upT] using h.1, fun r hr => ?_⟩
  simp only [upT, List.mem_map, List.mem_range] at hr
  obtain ⟨j, hj, rfl⟩ := hr
  rw [up_length]
  have := h.2 X[j] (List.getElem_mem hj)
  simpa [List.getD_eq_getElem?_getD, hj] using this

def S_law2 (pg : Pg) : Prop := ∀ a b : Rw (Rw Int), small a → small b → ∃ args', Call pg 2 [.agg [rawT a, rawT b]] args' (B true)
set_option maxRecDepth 10000 in
theorem t_law2 {pg : Pg} (hp : pg.fn 2 = some c_laws_FnExactFixedPairs) (h14 : S_szSol pg) (h16 : S_toSol pg) (h19 : S_fp pg 19) (h20 : S_fp pg 20) (h21 : S_eqT pg) (h18 : S_eqSol pg) (h22 : S_markSol pg) (h23 : S_markT pg) (h24 : S_heldT pg) : S_law2 pg := by
  intro a b ha hb
  refine ⟨[.agg [rawT a, rawT b]], Call.intro hp rfl (by simp) ?_⟩
  obtain ⟨r, hr1, hr2, hsz⟩ := h14 a b 1048576 ha hb (by omega) (by omega)
  have hto := h16 a b ha hb
  have hfa := fitsT_of ha
  have hfb := fitsT_of hb
  generalize hF : (lst a).map lst = F at *
  generalize hS : (lst b).map lst = S at *
  obtain ⟨o, ho, hc1⟩ := h19 F S hfa hfb
  obtain ⟨o', ho', hc2⟩ := h20 F S hfa hfb
  have hsm : smallT (lso o) := by rw [ho]; exact fixP_small F S
  have hsm' : smallT (lso o') := by rw [ho']; exact fixP_small F S
  have heq : lso o' = lso o := ho'.trans ho.symm
  show wp _ _ c_laws_FnExactFixedPairs.body (post [.t 2] _ _ _) _
  simp [c_laws_FnExactFixedPairs]
  refine callR hsz rfl rfl (fun _ => rfl) ?_
  by_cases hneg : r < 0
  · simp [hneg]
  · simp [hneg]
    have hk1 := kAt_le (k := 1) hfa F.length (Nat.le_refl _)
    have hk2 := kAt_le (k := kAt 1 F F.length) hfb S.length (Nat.le_refl _)
    have hk3 : ¬ kAt (kAt 1 F F.length) S S.length < 0 := by omega
    cases o with
    | some X =>
      cases o' with
      | some Y =>
        simp only [ownT, lso_some] at *
        subst heq
        have hk4 := kAt_le (k := 1) hsm' Y.length (Nat.le_refl _)
        have hk5 : ¬ kAt 1 Y Y.length < 0 := by omega
        refine callR hto rfl rfl (fun _ => by simp) ?_
        simp
        refine callR hc1 rfl rfl (fun _ => by simp) ?_
        simp
        refine callR hto rfl rfl (fun _ => by simp) ?_
        simp
        refine callR hc2 rfl rfl (fun _ => by simp) ?_
        simp
        refine callR (h21.o (some Y) (some Y) hsm') rfl rfl (fun _ => rfl) ?_
        simp
        refine callR hto rfl rfl (fun _ => by simp) ?_
        simp
        refine callR (h18.o F S F S hfa hfb) rfl rfl (fun _ => rfl) ?_
        simp
        refine callM (ts' := [.agg [.mem .own (some 1) (rows (upT 1 F)), .mem .own (some 1) (rows (upT (kAt 1 F F.length) S))], I 1]) (r := I (kAt (kAt 1 F F.length) S S.length)) ?_ ?_ ?_ ?_
        · simp
        · simpa using h22 F S 1 hfa hfb (by omega) (by omega)
        · simp
        simp [hk3]
        refine callR (h21.o (some Y) (some Y) hsm') rfl rfl (fun _ => rfl) ?_
        simp
        refine callM (ts' := [.mem .own (some 1) (rows (upT 1 Y)), I 1]) (r := I (kAt 1 Y Y.length)) ?_ ?_ ?_ ?_
        · simp
        · simpa using h23.at Y 1 hsm' (by omega) (by omega)
        · simp
        simp
        refine callR (h24.o (some (upT 1 Y)) 1 (upT_small hsm' 1) (by omega) (by omega)) rfl rfl (fun _ => rfl) ?_
        simp [heldL_all, hk5]
        refine callR hto rfl rfl (fun _ => by simp) ?_
        simp
        refine callR hc2 rfl rfl (fun _ => by simp) ?_
        simp
        refine callR (h21.o (some Y) (some Y) hsm') rfl rfl (fun _ => rfl) ?_
        simp
        refine callR (h24.o (some (upT 1 Y)) 1 (upT_small hsm' 1) (by omega) (by omega)) rfl rfl (fun _ => rfl) ?_
        simp [heldL_all, hk5]
      | none =>
        simp only [ownT, lso_some, lso_none] at *
        subst heq
        refine callR hto rfl rfl (fun _ => by simp) ?_
        simp
        refine callR hc1 rfl rfl (fun _ => by simp) ?_
        simp
        refine callR hto rfl rfl (fun _ => by simp) ?_
        simp
        refine callR hc2 rfl rfl (fun _ => by simp) ?_
        simp
        refine callR (h21.o none (some []) hsm') rfl rfl (fun _ => rfl) ?_
        simp
        refine callR hto rfl rfl (fun _ => by simp) ?_
        simp
        refine callR (h18.o F S F S hfa hfb) rfl rfl (fun _ => rfl) ?_
        simp
        refine callM (ts' := [.agg [.mem .own (some 1) (rows (upT 1 F)), .mem .own (some 1) (rows (upT (kAt 1 F F.length) S))], I 1]) (r := I (kAt (kAt 1 F F.length) S S.length)) ?_ ?_ ?_ ?_
        · simp
        · simpa using h22 F S 1 hfa hfb (by omega) (by omega)
        · simp
        simp [hk3]
        refine callR (h21.o none (some []) hsm') rfl rfl (fun _ => rfl) ?_
        simp
        refine callM (ts' := [nil, I 1]) (r := I 1) ?_ ?_ ?_ ?_
        · simp
        · simpa using h23.at0 1 (by omega) (by omega)
        · simp
        simp
        refine callR (h24.o none 1 hsm' (by omega) (by omega)) rfl rfl (fun _ => rfl) ?_
        simp [heldL]
        refine callR hto rfl rfl (fun _ => by simp) ?_
        simp
        refine callR hc2 rfl rfl (fun _ => by simp) ?_
        simp
        refine callR (h21.o none (some []) hsm') rfl rfl (fun _ => rfl) ?_
        simp
        refine callR (h24.o none 1 hsm' (by omega) (by omega)) rfl rfl (fun _ => rfl) ?_
        simp [heldL]
    | none =>
      cases o' with
      | some Y =>
        simp only [ownT, lso_some, lso_none] at *
        subst heq
        have hk4 := kAt_le (k := 1) hsm' ([] : List (List Int)).length (Nat.le_refl _)
        have hk5 : ¬ kAt 1 ([] : List (List Int)) ([] : List (List Int)).length < 0 := by omega
        refine callR hto rfl rfl (fun _ => by simp) ?_
        simp
        refine callR hc1 rfl rfl (fun _ => by simp) ?_
        simp
        refine callR hto rfl rfl (fun _ => by simp) ?_
        simp
        refine callR hc2 rfl rfl (fun _ => by simp) ?_
        simp
        refine callR (h21.o (some ([] : List (List Int))) none hsm') rfl rfl (fun _ => rfl) ?_
        simp
        refine callR hto rfl rfl (fun _ => by simp) ?_
        simp
        refine callR (h18.o F S F S hfa hfb) rfl rfl (fun _ => rfl) ?_
        simp
        refine callM (ts' := [.agg [.mem .own (some 1) (rows (upT 1 F)), .mem .own (some 1) (rows (upT (kAt 1 F F.length) S))], I 1]) (r := I (kAt (kAt 1 F F.length) S S.length)) ?_ ?_ ?_ ?_
        · simp
        · simpa using h22 F S 1 hfa hfb (by omega) (by omega)
        · simp
        simp [hk3]
        refine callR (h21.o (some ([] : List (List Int))) none hsm') rfl rfl (fun _ => rfl) ?_
        simp
        refine callM (ts' := [.mem .own (some 1) (rows (upT 1 ([] : List (List Int)))), I 1]) (r := I (kAt 1 ([] : List (List Int)) ([] : List (List Int)).length)) ?_ ?_ ?_ ?_
        · simp
        · simpa using h23.at ([] : List (List Int)) 1 hsm' (by omega) (by omega)
        · simp
        simp
        refine callR (h24.o (some (upT 1 ([] : List (List Int)))) 1 (upT_small hsm' 1) (by omega) (by omega)) rfl rfl (fun _ => rfl) ?_
        simp [heldL_all, kAt_zero]
        refine callR hto rfl rfl (fun _ => by simp) ?_
        simp
        refine callR hc2 rfl rfl (fun _ => by simp) ?_
        simp
        refine callR (h21.o (some ([] : List (List Int))) none hsm') rfl rfl (fun _ => rfl) ?_
        simp
        refine callR (h24.o (some (upT 1 ([] : List (List Int)))) 1 (upT_small hsm' 1) (by omega) (by omega)) rfl rfl (fun _ => rfl) ?_
        simp [heldL_all, kAt_zero]
      | none =>
        simp only [ownT, lso_none] at *
        refine callR hto rfl rfl (fun _ => by simp) ?_
        simp
        refine callR hc1 rfl rfl (fun _ => by simp) ?_
        simp
        refine callR hto rfl rfl (fun _ => by simp) ?_
        simp
        refine callR hc2 rfl rfl (fun _ => by simp) ?_
        simp
        refine callR (h21.o none none hsm') rfl rfl (fun _ => rfl) ?_
        simp
        refine callR hto rfl rfl (fun _ => by simp) ?_
        simp
        refine callR (h18.o F S F S hfa hfb) rfl rfl (fun _ => rfl) ?_
        simp
        refine callM (ts' := [.agg [.mem .own (some 1) (rows (upT 1 F)), .mem .own (some 1) (rows (upT (kAt 1 F F.length) S))], I 1]) (r := I (kAt (kAt 1 F F.length) S S.length)) ?_ ?_ ?_ ?_
        · simp
        · simpa using h22 F S 1 hfa hfb (by omega) (by omega)
        · simp
        simp [hk3]
        refine callR (h21.o none none hsm') rfl rfl (fun _ => rfl) ?_
        simp
        refine callM (ts' := [nil, I 1]) (r := I 1) ?_ ?_ ?_ ?_
        · simp
        · simpa using h23.at0 1 (by omega) (by omega)
        · simp
        simp
        refine callR (h24.o none 1 hsm' (by omega) (by omega)) rfl rfl (fun _ => rfl) ?_
        simp [heldL]
        refine callR hto rfl rfl (fun _ => by simp) ?_
        simp
        refine callR hc2 rfl rfl (fun _ => by simp) ?_
        simp
        refine callR (h21.o none none hsm') rfl rfl (fun _ => rfl) ?_
        simp
        refine callR (h24.o none 1 hsm' (by omega) (by omega)) rfl rfl (fun _ => rfl) ?_
        simp [heldL]
end Go.Mch
