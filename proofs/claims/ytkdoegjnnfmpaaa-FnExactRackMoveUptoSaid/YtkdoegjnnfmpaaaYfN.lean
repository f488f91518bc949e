/- RackMove, of the reference and of the program. -/
import Derived.Test.YtkdoegjnnfmpaaaYfM
namespace Go.Mch

/-- A tuple, moved at a place by a rack. -/
def rW (t : List (List Int)) (w : List Int) (i : Nat) : List Int := (w.set i (w.getD (i + 1) 0)).set (i + 1) (g2 t (w.getD (i + 1) 0) (w.getD i 0))
open Classical in
noncomputable def rmR (t : List (List Int)) (w : List Int) (p : Int) : Option (List Int) := if isRk t then if tmOk t w p then some (rW t w p.toNat) else none else none
open Classical in
noncomputable def rmC (t : List (List Int)) (w : List Int) (p : Int) : Int := if isRk t then if tmOk t w p then 0 else 2 else 1
def S_rm (pg : Pg) (n : Nat) : Prop := ∀ (t : List (List Int)) (w : List Int) (p : Int), fits t → w.length ≤ 1048576 → Call pg n [rk t, ix w, I p] [rk t, ix w, I p] (.tup [ownI (rmR t w p), I (rmC t w p)])

set_option maxRecDepth 10000 in
theorem t_rm5 {pg : Pg} (hp : pg.fn 5 = some c_spec_RackMove) (h28 : S_isRk pg 28) (h29 : S_tuple pg 29) (h30 : S_in pg 30) (h31 : S_own pg) : S_rm pg 5 := by
  intro t w p hf hl
  refine Call.intro hp rfl (by simp) ?_
  show wp _ _ c_spec_RackMove.body (post [.t 6, .t 7] _ _ _) _
  simp [c_spec_RackMove]
  refine callR (h28 t hf) rfl rfl (fun _ => rfl) ?_
  by_cases h : isRk t
  · have h0 := h.1.1
    have h12 := h.1.2.1
    have ht := h.1.2.2
    simp [dec_true h]
    refine callR (h29 _ w hl (by omega) (by omega)) rfl rfl (fun _ => rfl) ?_
    by_cases h1 : isTup t.length w
    · simp [h1]
      refine ⟨by omega, ?_⟩
      refine callR (h30 p 0 _) rfl rfl (fun _ => rfl) ?_
      by_cases h2 : 0 ≤ p ∧ p ≤ (w.length : Int) - 2
      · have hok : tmOk t w p := ⟨h1, h2⟩
        have e1 : rmR t w p = some (rW t w p.toNat) := by simp [rmR, h, hok]
        have e2 : rmC t w p = 0 := by simp [rmC, h, hok]
        simp [h2]
        refine callR (h31 w hl) rfl rfl (fun _ => by simp) ?_
        rw [e1, e2]
        obtain ⟨i, rfl⟩ := Int.eq_ofNat_of_zero_le h2.1
        have hi : i + 1 < w.length := by omega
        have hi0 : i < w.length := by omega
        have w1 := h1.2 _ (List.getElem_mem hi0)
        have w2 := h1.2 _ (List.getElem_mem hi)
        have w3 : 0 ≤ w[i] ∧ w[i] < t.length := by omega
        have w4 : 0 ≤ w[i + 1] ∧ w[i + 1] < t.length := by omega
        have fr' := fun x hx => ht.row (x := x) hx
        have hiI : (i : Int) + 1 < w.length := by omega
        have e3 : ((i : Int) + 1).toNat = i + 1 := by omega
        have t1 : (w[i]).toNat < t.length := by omega
        have t2 : (w[i + 1]).toNat < t.length := by omega
        have hb : -9223372036854775808 ≤ (i : Int) + 1 ∧ (i : Int) + 1 ≤ 9223372036854775807 := by omega
        have hb0 : 0 ≤ (i : Int) + 1 := by omega
        simp [hi, hb, hb0, hi0, hiI, e3, w3, w4, t1, t2, fr', get_g2, ownI]
        refine ⟨by omega, by omega, ?_⟩
        simp [rW, hi, hi0]
      · have hok : ¬ tmOk t w p := fun hh => h2 hh.2
        have e1 : rmR t w p = none := by simp [rmR, h, hok]
        have e2 : rmC t w p = 2 := by simp [rmC, h, hok]
        simp [h2, e1, e2, ownI]
    · have hok : ¬ tmOk t w p := fun hh => h1 hh.1
      have e1 : rmR t w p = none := by simp [rmR, h, hok]
      have e2 : rmC t w p = 2 := by simp [rmC, h, hok]
      simp [h1, e1, e2, ownI, undefV]
  · have e1 : rmR t w p = none := by simp [rmR, h]
    have e2 : rmC t w p = 1 := by simp [rmC, h]
    simp [dec_false h, e1, e2, ownI]

set_option maxRecDepth 10000 in
theorem t_rm8 {pg : Pg} (hp : pg.fn 8 = some c_impl_RackMove) (h33 : S_isRk pg 33) (h34 : S_tuple pg 34) (h35 : S_in pg 35) (h36 : S_clone pg) : S_rm pg 8 := by
  intro t w p hf hl
  refine Call.intro hp rfl (by simp) ?_
  show wp _ _ c_impl_RackMove.body (post [.t 6, .t 7] _ _ _) _
  simp [c_impl_RackMove]
  refine callR (h33 t hf) rfl rfl (fun _ => rfl) ?_
  by_cases h : isRk t
  · have h0 := h.1.1
    have h12 := h.1.2.1
    have ht := h.1.2.2
    simp [dec_true h]
    refine callR (h34 _ w hl (by omega) (by omega)) rfl rfl (fun _ => rfl) ?_
    by_cases h1 : isTup t.length w
    · simp [h1]
      refine ⟨by omega, ?_⟩
      refine callR (h35 p 0 _) rfl rfl (fun _ => rfl) ?_
      by_cases h2 : 0 ≤ p ∧ p ≤ (w.length : Int) - 2
      · have hok : tmOk t w p := ⟨h1, h2⟩
        have e1 : rmR t w p = some (rW t w p.toNat) := by simp [rmR, h, hok]
        have e2 : rmC t w p = 0 := by simp [rmC, h, hok]
        simp [h2]
        refine callR (h36 w hl) rfl rfl (fun _ => by simp) ?_
        rw [e1, e2]
        obtain ⟨i, rfl⟩ := Int.eq_ofNat_of_zero_le h2.1
        have hi : i + 1 < w.length := by omega
        have hi0 : i < w.length := by omega
        have w1 := h1.2 _ (List.getElem_mem hi0)
        have w2 := h1.2 _ (List.getElem_mem hi)
        have w3 : 0 ≤ w[i] ∧ w[i] < t.length := by omega
        have w4 : 0 ≤ w[i + 1] ∧ w[i + 1] < t.length := by omega
        have fr' := fun x hx => ht.row (x := x) hx
        have hiI : (i : Int) + 1 < w.length := by omega
        have e3 : ((i : Int) + 1).toNat = i + 1 := by omega
        have t1 : (w[i]).toNat < t.length := by omega
        have t2 : (w[i + 1]).toNat < t.length := by omega
        have hb : -9223372036854775808 ≤ (i : Int) + 1 ∧ (i : Int) + 1 ≤ 9223372036854775807 := by omega
        have hb0 : 0 ≤ (i : Int) + 1 := by omega
        simp [hi, hb, hb0, hi0, hiI, e3, w3, w4, t1, t2, fr', get_g2, ownI]
        refine ⟨by omega, by omega, ?_⟩
        simp [rW, hi, hi0]
      · have hok : ¬ tmOk t w p := fun hh => h2 hh.2
        have e1 : rmR t w p = none := by simp [rmR, h, hok]
        have e2 : rmC t w p = 2 := by simp [rmC, h, hok]
        simp [h2, e1, e2, ownI]
    · have hok : ¬ tmOk t w p := fun hh => h1 hh.1
      have e1 : rmR t w p = none := by simp [rmR, h, hok]
      have e2 : rmC t w p = 2 := by simp [rmC, h, hok]
      simp [h1, e1, e2, ownI, undefV]
  · have e1 : rmR t w p = none := by simp [rmR, h]
    have e2 : rmC t w p = 1 := by simp [rmC, h]
    simp [dec_false h, e1, e2, ownI]

theorem rmR_small (t : List (List Int)) {w : List Int} (hw : w.length ≤ 1048576) (p : Int) : (lso (rmR t w p)).length ≤ 1048576 := by
  unfold rmR
  split
  · split
    · simpa [rW] using hw
    · simp
  · simp
theorem S_eqRack.o {pg : Pg} (h : S_eqRack pg) (X Z : List (List Int)) (hX : smallT X) : Call pg 10 [.agg [tb X], .agg [tb Z]] [.agg [tb X], .agg [tb Z]] (B (decide (X = Z))) := by
  have := h (ryT (some X)) (ryT (some Z)) (small_ry hX)
  simp only [rawT_ry, lst_ry] at this
  exact this

def S_law0 (pg : Pg) : Prop := ∀ (a : Rw (Rw Int)) (c : Rw Int) (p : Int), small a → (lst c).length ≤ 1048576 → ∃ args', Call pg 0 [.agg [rawT a], rawI c, I p] args' (B true)
set_option maxRecDepth 10000 in
theorem t_law0 {pg : Pg} (hp : pg.fn 0 = some c_laws_FnExactRackMove) (h4 : S_szRack pg) (h6 : S_toRack pg) (h7 : S_toI pg) (h5 : S_rm pg 5) (h8 : S_rm pg 8) (h9 : S_eqI pg) (h10 : S_eqRack pg) (h11 : S_markRack pg) (h12 : S_markI pg) (h13 : S_heldI pg) : S_law0 pg := by
  intro a c p ha hcl
  refine ⟨[.agg [rawT a], rawI c, I p], Call.intro hp rfl (by simp) ?_⟩
  obtain ⟨r, hr1, hr2, hsz⟩ := h4 a 1048576 ha (by omega) (by omega)
  have hto := h6 a ha
  have hti := h7.at c hcl
  have hfa := fitsT_of ha
  generalize hF : (lst a).map lst = F at *
  have hcl2 : ¬ ((lst c).length : Int) > 1048576 := by omega
  generalize hwe : lst c = w at *
  have hw : w.length ≤ 1048576 := hcl
  have hc1 := h5 F w p hfa hw
  have hc2 := h8 F w p hfa hw
  have hsm := rmR_small F hw p
  have hk1 := kAt_le (k := 1) hfa F.length (Nat.le_refl _)
  have hfl := hfa.1
  have hk3 : ¬ kAt 1 F F.length + w.length < 0 := by omega
  show wp _ _ c_laws_FnExactRackMove.body (post [.t 6] _ _ _) _
  simp [c_laws_FnExactRackMove, hwe, hcl2]
  refine callR hsz rfl rfl (fun _ => rfl) ?_
  by_cases hneg : r < 0
  · simp [hneg]
  · simp [hneg]
    cases hR : rmR F w p with
    | some D =>
      rw [hR] at hc1 hc2 hsm
      have hD : D.length ≤ 1048576 := hsm
      have hk5 : ¬ (1 : Int) + D.length < 0 := by omega
      simp only [ownI] at hc1 hc2
      refine callR hto rfl rfl (fun _ => by simp) ?_
      simp
      refine callR hti rfl rfl (fun _ => by simp) ?_
      simp
      refine callR hc1 rfl rfl (fun _ => by simp) ?_
      simp
      refine callR hto rfl rfl (fun _ => by simp) ?_
      simp
      refine callR hti rfl rfl (fun _ => by simp) ?_
      simp
      refine callR hc2 rfl rfl (fun _ => by simp) ?_
      simp
      refine callR (h9.o (some D) (some D) hsm) rfl rfl (fun _ => rfl) ?_
      simp
      refine callR hto rfl rfl (fun _ => by simp) ?_
      simp
      refine callR (h10.o F F hfa) rfl rfl (fun _ => rfl) ?_
      simp
      refine callR hti rfl rfl (fun _ => by simp) ?_
      simp
      refine callR (h9.o (some w) (some w) hw) rfl rfl (fun _ => rfl) ?_
      simp
      refine callM (ts' := [.agg [.mem .own (some 1) (rows (upT 1 F))], I 1]) (r := I (kAt 1 F F.length)) ?_ ?_ ?_ ?_
      · simp
      · simpa using h11 F 1 hfa (by omega) (by omega)
      · simp
      simp
      refine callM (ts' := [.mem .own (some 1) ((up (kAt 1 F F.length) w.length).map I), I (kAt 1 F F.length)]) (r := I (kAt 1 F F.length + w.length)) ?_ ?_ ?_ ?_
      · simp
      · simpa using h12.at w _ hw (by omega) (by omega)
      · simp
      simp [hk3]
      refine callR (h9.o (some D) (some D) hsm) rfl rfl (fun _ => rfl) ?_
      simp
      refine callM (ts' := [.mem .own (some 1) ((up 1 D.length).map I), I 1]) (r := I (1 + D.length)) ?_ ?_ ?_ ?_
      · simp
      · simpa using h12.at D 1 hD (by omega) (by omega)
      · simp
      simp
      refine callR (h13.o (some (up 1 D.length)) 1 (by simpa using hD) (by omega) (by omega)) rfl rfl (fun _ => rfl) ?_
      simp [held_up, hk5]
      refine callR hto rfl rfl (fun _ => by simp) ?_
      simp
      refine callR hti rfl rfl (fun _ => by simp) ?_
      simp
      refine callR hc2 rfl rfl (fun _ => by simp) ?_
      simp
      refine callR (h9.o (some D) (some D) hsm) rfl rfl (fun _ => rfl) ?_
      simp
      refine callR (h13.o (some (up 1 D.length)) 1 (by simpa using hD) (by omega) (by omega)) rfl rfl (fun _ => rfl) ?_
      simp [held_up, hk5]
    | none =>
      rw [hR] at hc1 hc2 hsm
      simp only [ownI] at hc1 hc2
      refine callR hto rfl rfl (fun _ => by simp) ?_
      simp
      refine callR hti rfl rfl (fun _ => by simp) ?_
      simp
      refine callR hc1 rfl rfl (fun _ => by simp) ?_
      simp
      refine callR hto rfl rfl (fun _ => by simp) ?_
      simp
      refine callR hti rfl rfl (fun _ => by simp) ?_
      simp
      refine callR hc2 rfl rfl (fun _ => by simp) ?_
      simp
      refine callR (h9.o none none hsm) rfl rfl (fun _ => rfl) ?_
      simp
      refine callR hto rfl rfl (fun _ => by simp) ?_
      simp
      refine callR (h10.o F F hfa) rfl rfl (fun _ => rfl) ?_
      simp
      refine callR hti rfl rfl (fun _ => by simp) ?_
      simp
      refine callR (h9.o (some w) (some w) hw) rfl rfl (fun _ => rfl) ?_
      simp
      refine callM (ts' := [.agg [.mem .own (some 1) (rows (upT 1 F))], I 1]) (r := I (kAt 1 F F.length)) ?_ ?_ ?_ ?_
      · simp
      · simpa using h11 F 1 hfa (by omega) (by omega)
      · simp
      simp
      refine callM (ts' := [.mem .own (some 1) ((up (kAt 1 F F.length) w.length).map I), I (kAt 1 F F.length)]) (r := I (kAt 1 F F.length + w.length)) ?_ ?_ ?_ ?_
      · simp
      · simpa using h12.at w _ hw (by omega) (by omega)
      · simp
      simp [hk3]
      refine callR (h9.o none none hsm) rfl rfl (fun _ => rfl) ?_
      simp
      refine callM (ts' := [nil, I 1]) (r := I 1) ?_ ?_ ?_ ?_
      · simp
      · simpa using h12.at0 1 (by omega) (by omega)
      · simp
      simp
      refine callR (h13.o none 1 hsm (by omega) (by omega)) rfl rfl (fun _ => rfl) ?_
      simp [held]
      refine callR hto rfl rfl (fun _ => by simp) ?_
      simp
      refine callR hti rfl rfl (fun _ => by simp) ?_
      simp
      refine callR hc2 rfl rfl (fun _ => by simp) ?_
      simp
      refine callR (h9.o none none hsm) rfl rfl (fun _ => rfl) ?_
      simp
      refine callR (h13.o none 1 hsm (by omega) (by omega)) rfl rfl (fun _ => rfl) ?_
      simp [held]
end Go.Mch
