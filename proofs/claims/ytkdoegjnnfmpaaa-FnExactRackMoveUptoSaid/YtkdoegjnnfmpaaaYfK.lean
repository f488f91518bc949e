/- The law of TupleMove. -/
import Derived.Test.YtkdoegjnnfmpaaaYfJ
namespace Go.Mch

/-- An own list or nil, as one that is only read. -/
def eI : Option (List Int) → T
  | none => nil
  | some X => ix X
theorem rawI_ry (o : Option (List Int)) : rawI (Rw.ofO o) = eI o := by cases o <;> rfl
theorem S_eqI.o {pg : Pg} (h : S_eqI pg) (o o' : Option (List Int)) (hs : (lso o).length ≤ 1048576) : Call pg 9 [eI o, eI o'] [eI o, eI o'] (B (decide (lso o = lso o'))) := by
  have := h (Rw.ofO o) (Rw.ofO o') (by simpa using hs)
  simp only [rawI_ry, lst_ofO] at this
  exact this
theorem S_heldI.o {pg : Pg} (h : S_heldI pg) (o : Option (List Int)) (k : Int) (hs : (lso o).length ≤ 1048576) (h1 : -1 ≤ k) (h2 : k ≤ 4611686018427387904) : Call pg 13 [eI o, I k] [eI o, I k] (I (held (lso o) k)) := by
  have := h (Rw.ofO o) k (by simpa using hs) h1 h2
  simp only [rawI_ry, lst_ofO] at this
  exact this
theorem S_markI.at0 {pg : Pg} (h : S_markI pg) (k : Int) (h2 : -1 ≤ k) (h3 : k ≤ 4611686018427387904) : Call pg 12 [nil, I k] [nil, I k] (I k) := by
  have := h none k (by simp) h2 h3
  simpa [ownI] using this

theorem tmR_small (f s : List (List Int)) {w : List Int} (hw : w.length ≤ 1048576) (p : Int) : (lso (tmR f s w p)).length ≤ 1048576 := by
  unfold tmR
  split
  · split
    · simpa using hw
    · simp
  · simp

def S_law3 (pg : Pg) : Prop := ∀ (a b : Rw (Rw Int)) (c : Rw Int) (p : Int), small a → small b → (lst c).length ≤ 1048576 → ∃ args', Call pg 3 [.agg [rawT a, rawT b], rawI c, I p] args' (B true)
set_option maxRecDepth 10000 in
theorem t_law3 {pg : Pg} (hp : pg.fn 3 = some c_laws_FnExactTupleMove) (h14 : S_szSol pg) (h16 : S_toSol pg) (h7 : S_toI pg) (h25 : S_tm pg 25) (h26 : S_tm pg 26) (h9 : S_eqI pg) (h18 : S_eqSol pg) (h22 : S_markSol pg) (h12 : S_markI pg) (h13 : S_heldI pg) : S_law3 pg := by
  intro a b c p ha hb hcl
  refine ⟨[.agg [rawT a, rawT b], rawI c, I p], Call.intro hp rfl (by simp) ?_⟩
  obtain ⟨r, hr1, hr2, hsz⟩ := h14 a b 1048576 ha hb (by omega) (by omega)
  have hto := h16 a b ha hb
  have hti := h7.at c hcl
  have hfa := fitsT_of ha
  have hfb := fitsT_of hb
  generalize hF : (lst a).map lst = F at *
  generalize hS : (lst b).map lst = S at *
  have hcl2 : ¬ ((lst c).length : Int) > 1048576 := by omega
  generalize hwe : lst c = w at *
  have hw : w.length ≤ 1048576 := hcl
  have hc1 := h25 F S w p hfa hfb hw
  have hc2 := h26 F S w p hfa hfb hw
  have hsm := tmR_small F S hw p
  have hk1 := kAt_le (k := 1) hfa F.length (Nat.le_refl _)
  have hk2 := kAt_le (k := kAt 1 F F.length) hfb S.length (Nat.le_refl _)
  have hfl := hfa.1
  have hsl := hfb.1
  have hk3 : ¬ kAt (kAt 1 F F.length) S S.length + w.length < 0 := by omega
  show wp _ _ c_laws_FnExactTupleMove.body (post [.t 6] _ _ _) _
  simp [c_laws_FnExactTupleMove, hwe, hcl2]
  refine callR hsz rfl rfl (fun _ => rfl) ?_
  by_cases hneg : r < 0
  · simp [hneg]
  · simp [hneg]
    cases hR : tmR F S w p with
    | some D =>
      rw [hR] at hc1 hc2 hsm
      have hD : D.length ≤ 1048576 := hsm
      have hk5 : ¬ (1 : Int) + D.length < 0 := by omega
      simp only [ownI] at hc1 hc2
      refine callR hto rfl rfl (fun _ => by simp) ?_
      simp
      refine callR hti rfl rfl (fun _ => by simp) ?_
      simp
      refine callR hc1 rfl rfl (fun _ => by simp) ?_
      simp
      refine callR hto rfl rfl (fun _ => by simp) ?_
      simp
      refine callR hti rfl rfl (fun _ => by simp) ?_
      simp
      refine callR hc2 rfl rfl (fun _ => by simp) ?_
      simp
      refine callR (h9.o (some D) (some D) hsm) rfl rfl (fun _ => rfl) ?_
      simp
      refine callR hto rfl rfl (fun _ => by simp) ?_
      simp
      refine callR (h18.o F S F S hfa hfb) rfl rfl (fun _ => rfl) ?_
      simp
      refine callR hti rfl rfl (fun _ => by simp) ?_
      simp
      refine callR (h9.o (some w) (some w) hw) rfl rfl (fun _ => rfl) ?_
      simp
      refine callM (ts' := [.agg [.mem .own (some 1) (rows (upT 1 F)), .mem .own (some 1) (rows (upT (kAt 1 F F.length) S))], I 1]) (r := I (kAt (kAt 1 F F.length) S S.length)) ?_ ?_ ?_ ?_
      · simp
      · simpa using h22 F S 1 hfa hfb (by omega) (by omega)
      · simp
      simp
      refine callM (ts' := [.mem .own (some 1) ((up (kAt (kAt 1 F F.length) S S.length) w.length).map I), I (kAt (kAt 1 F F.length) S S.length)]) (r := I (kAt (kAt 1 F F.length) S S.length + w.length)) ?_ ?_ ?_ ?_
      · simp
      · simpa using h12.at w _ hw (by omega) (by omega)
      · simp
      simp [hk3]
      refine callR (h9.o (some D) (some D) hsm) rfl rfl (fun _ => rfl) ?_
      simp
      refine callM (ts' := [.mem .own (some 1) ((up 1 D.length).map I), I 1]) (r := I (1 + D.length)) ?_ ?_ ?_ ?_
      · simp
      · simpa using h12.at D 1 hD (by omega) (by omega)
      · simp
      simp
      refine callR (h13.o (some (up 1 D.length)) 1 (by simpa using hD) (by omega) (by omega)) rfl rfl (fun _ => rfl) ?_
      simp [held_up, hk5]
      refine callR hto rfl rfl (fun _ => by simp) ?_
      simp
      refine callR hti rfl rfl (fun _ => by simp) ?_
      simp
      refine callR hc2 rfl rfl (fun _ => by simp) ?_
      simp
      refine callR (h9.o (some D) (some D) hsm) rfl rfl (fun _ => rfl) ?_
      simp
      refine callR (h13.o (some (up 1 D.length)) 1 (by simpa using hD) (by omega) (by omega)) rfl rfl (fun _ => rfl) ?_
      simp [held_up, hk5]
    | none =>
      rw [hR] at hc1 hc2 hsm
      simp only [ownI] at hc1 hc2
      refine callR hto rfl rfl (fun _ => by simp) ?_
      simp
      refine callR hti rfl rfl (fun _ => by simp) ?_
      simp
      refine callR hc1 rfl rfl (fun _ => by simp) ?_
      simp
      refine callR hto rfl rfl (fun _ => by simp) ?_
      simp
      refine callR hti rfl rfl (fun _ => by simp) ?_
      simp
      refine callR hc2 rfl rfl (fun _ => by simp) ?_
      simp
      refine callR (h9.o none none hsm) rfl rfl (fun _ => rfl) ?_
      simp
      refine callR hto rfl rfl (fun _ => by simp) ?_
      simp
      refine callR (h18.o F S F S hfa hfb) rfl rfl (fun _ => rfl) ?_
      simp
      refine callR hti rfl rfl (fun _ => by simp) ?_
      simp
      refine callR (h9.o (some w) (some w) hw) rfl rfl (fun _ => rfl) ?_
      simp
      refine callM (ts' := [.agg [.mem .own (some 1) (rows (upT 1 F)), .mem .own (some 1) (rows (upT (kAt 1 F F.length) S))], I 1]) (r := I (kAt (kAt 1 F F.length) S S.length)) ?_ ?_ ?_ ?_
      · simp
      · simpa using h22 F S 1 hfa hfb (by omega) (by omega)
      · simp
      simp
      refine callM (ts' := [.mem .own (some 1) ((up (kAt (kAt 1 F F.length) S S.length) w.length).map I), I (kAt (kAt 1 F F.length) S S.length)]) (r := I (kAt (kAt 1 F F.length) S S.length + w.length)) ?_ ?_ ?_ ?_
      · simp
      · simpa using h12.at w _ hw (by omega) (by omega)
      · simp
      simp [hk3]
      refine callR (h9.o none none hsm) rfl rfl (fun _ => rfl) ?_
      simp
      refine callM (ts' := [nil, I 1]) (r := I 1) ?_ ?_ ?_ ?_
      · simp
      · simpa using h12.at0 1 (by omega) (by omega)
      · simp
      simp
      refine callR (h13.o none 1 hsm (by omega) (by omega)) rfl rfl (fun _ => rfl) ?_
      simp [held]
      refine callR hto rfl rfl (fun _ => by simp) ?_
      simp
      refine callR hti rfl rfl (fun _ => by simp) ?_
      simp
      refine callR hc2 rfl rfl (fun _ => by simp) ?_
      simp
      refine callR (h9.o none none hsm) rfl rfl (fun _ => rfl) ?_
      simp
      refine callR (h13.o none 1 hsm (by omega) (by omega)) rfl rfl (fun _ => rfl) ?_
      simp [held]
end Go.Mch
