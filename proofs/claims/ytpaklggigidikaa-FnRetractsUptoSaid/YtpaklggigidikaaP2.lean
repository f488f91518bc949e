/- Our texts YkF YkM YlB YjA YlC YlD YlE YlF YlG YlH YlI YgX YkS YkT YlK YlM YlN, end to end. -/
import Derived.Test.YtpaklggigidikaaP1
namespace Go.Mch

section
variable {mv mv' : List Int → Nat → List Int} {m m' : Nat} {w x y : List Int}
theorem TR.trans (h1 : TR mv m w x) (h2 : TR mv m x y) : TR mv m w y := h2 _ h1 fun _ hz _ hi => TR.step mv m w hz hi
theorem TR.symm {P : List Int → Prop} (hw : P w) (hc : ∀ y, P y → ∀ i, i < m → P (mv y i)) (hb : ∀ y, P y → ∀ i, i < m → ∃ j, j < m ∧ mv (mv y i) j = y) (h : TR mv m w x) : TR mv m x w :=
  (h (fun y => P y ∧ TR mv m y w) ⟨hw, TR.start mv m w⟩ fun y hy i hi => ⟨hc y hy.1 i hi, by
    obtain ⟨j, hj, he⟩ := hb y hy.1 i hi
    have h1 : TR mv m (mv y i) y := by
      have := TR.step mv m (mv y i) (TR.start mv m (mv y i)) hj
      rw [he] at this
      exact this
    exact h1.trans hy.2⟩).2
theorem TR.map (φ : List Int → List Int) {P : List Int → Prop} (hw : P w) (hc : ∀ y, P y → ∀ i, i < m → P (mv y i)) (hm : ∀ y, P y → ∀ i, i < m → ∃ j, j < m' ∧ mv' (φ y) j = φ (mv y i)) (h : TR mv m w x) : TR mv' m' (φ w) (φ x) :=
  (h (fun y => P y ∧ TR mv' m' (φ w) (φ y)) ⟨hw, TR.start mv' m' (φ w)⟩ fun y hy i hi => ⟨hc y hy.1 i hi, by
    obtain ⟨j, hj, he⟩ := hm y hy.1 i hi
    rw [← he]
    exact TR.step mv' m' (φ w) hy.2 hj⟩).2
end

theorem dW_app {f s : List (List Int)} {p r : List Int} {i : Nat} (hi : i + 1 < p.length) : dW f s (p ++ r) i = dW f s p i ++ r := by
  have h1 : (p ++ r).getD i 0 = p.getD i 0 := by rw [List.getD_eq_getElem?_getD, List.getD_eq_getElem?_getD, List.getElem?_append_left (by omega)]
  have h2 : (p ++ r).getD (i + 1) 0 = p.getD (i + 1) 0 := by rw [List.getD_eq_getElem?_getD, List.getD_eq_getElem?_getD, List.getElem?_append_left (by omega)]
  unfold dW
  rw [h1, h2, List.set_append_left _ _ (by omega), List.set_append_left _ _ (by simp; omega)]
theorem dW_app2 {f s : List (List Int)} {u r : List Int} {i : Nat} : dW f s (u ++ r) (u.length + i) = u ++ dW f s r i := by
  have h1 : (u ++ r).getD (u.length + i) 0 = r.getD i 0 := by rw [List.getD_eq_getElem?_getD, List.getD_eq_getElem?_getD, List.getElem?_append_right (by omega), Nat.add_sub_cancel_left]
  have h2 : (u ++ r).getD (u.length + i + 1) 0 = r.getD (i + 1) 0 := by rw [List.getD_eq_getElem?_getD, List.getD_eq_getElem?_getD, List.getElem?_append_right (by omega), show u.length + i + 1 - u.length = i + 1 from by omega]
  unfold dW
  rw [h1, h2, List.set_append_right _ _ (by omega), List.set_append_right _ _ (by omega), Nat.add_sub_cancel_left, show u.length + i + 1 - u.length = i + 1 from by omega]
theorem cMv_app {f s : List (List Int)} {p r : List Int} {i : Nat} (hi : i < 2 * (p.length - 1)) : cMv f s (p ++ r) i = cMv f s p i ++ r := by
  unfold cMv
  split
  · exact dW_app (by omega)
  · exact dW_app (by omega)
theorem cMv_app2 {f s : List (List Int)} {u r : List Int} {i : Nat} : cMv f s (u ++ r) (2 * u.length + i) = u ++ cMv f s r i := by
  unfold cMv
  rw [show (2 * u.length + i) % 2 = i % 2 from by omega, show (2 * u.length + i) / 2 = u.length + i / 2 from by omega]
  split
  · exact dW_app2
  · exact dW_app2

theorem inN_getD {n : Nat} {w : List Int} (h : inN n w) {i : Nat} (hi : i < w.length) : 0 ≤ w.getD i 0 ∧ w.getD i 0 < n := by
  rw [List.getD_eq_getElem?_getD, List.getElem?_eq_getElem hi]
  exact h _ (List.getElem_mem hi)
theorem dW_back {f s g t : List (List Int)} {w : List Int} {i : Nat} (hi : i + 1 < w.length)
    (h : ∀ a b, a = w.getD i 0 → b = w.getD (i + 1) 0 → g2 g (g2 f a b) (g2 s a b) = a ∧ g2 t (g2 f a b) (g2 s a b) = b) : dW g t (dW f s w i) i = w := by
  obtain ⟨h1, h2⟩ := h _ _ rfl rfl
  have e1 : (dW f s w i).getD i 0 = g2 f (w.getD i 0) (w.getD (i + 1) 0) := by
    unfold dW
    rw [List.getD_eq_getElem?_getD, List.getElem?_set_ne (by omega), List.getElem?_set_self (by omega)]
    rfl
  have e2 : (dW f s w i).getD (i + 1) 0 = g2 s (w.getD i 0) (w.getD (i + 1) 0) := by
    unfold dW
    rw [List.getD_eq_getElem?_getD, List.getElem?_set_self (by simpa using hi)]
    rfl
  have e3 : dW g t (dW f s w i) i = ((dW f s w i).set i (w.getD i 0)).set (i + 1) (w.getD (i + 1) 0) := by
    rw [dW, e1, e2, h1, h2]
  rw [e3]
  apply List.ext_getElem
  · simp
  · intro j j1 j2
    have hw1 : w.getD i 0 = w[i]'(by omega) := by rw [List.getD_eq_getElem?_getD, List.getElem?_eq_getElem (by omega)]; rfl
    have hw2 : w.getD (i + 1) 0 = w[i + 1] := by rw [List.getD_eq_getElem?_getD, List.getElem?_eq_getElem hi]; rfl
    by_cases hj1 : i + 1 = j
    · subst hj1
      rw [List.getElem_set_self, hw2]
    · rw [List.getElem_set_ne (by omega)]
      by_cases hj0 : i = j
      · subst hj0
        rw [List.getElem_set_self, hw1]
      · rw [List.getElem_set_ne (by omega)]
        unfold dW
        rw [List.getElem_set_ne (by omega), List.getElem_set_ne (by omega)]
theorem inv_g2 {f s : List (List Int)} (h : PM f s) (hi : Inj f s) {a b : Int} (ha : 0 ≤ a ∧ a < f.length) (hb : 0 ≤ b ∧ b < f.length) :
    (g2 (invF f s) (g2 f a b) (g2 s a b) = a ∧ g2 (invS f s) (g2 f a b) (g2 s a b) = b) ∧ g2 f (g2 (invF f s) a b) (g2 (invS f s) a b) = a ∧ g2 s (g2 (invF f s) a b) (g2 (invS f s) a b) = b := by
  have hx : a.toNat < f.length := by omega
  have hy : b.toNat < f.length := by omega
  constructor
  · have h1 := h.v2f a.toNat b.toNat
    have h2 := h.v2s a.toNat b.toNat
    have h3 := pre_at h hi hx hy
    have e1 : (g2 f a b).toNat = σN f a.toNat b.toNat := rfl
    have e2 : (g2 s a b).toNat = τN s b.toNat a.toNat := rfl
    unfold g2 at e1 e2 ⊢
    rw [e1, e2, invF, invS, v2_tabL h1.2 h2.2, v2_tabL h1.2 h2.2, h3.1, h3.2]
    omega
  · have h1 := pre_self h hi hx hy
    have e1 : g2 (invF f s) a b = (preX f s a.toNat b.toNat : Int) := by unfold g2 invF; rw [v2_tabL hx hy]
    have e2 : g2 (invS f s) a b = (preY f s a.toNat b.toNat : Int) := by unfold g2 invS; rw [v2_tabL hx hy]
    rw [e1, e2]
    obtain ⟨p1, p2, p3, p4⟩ := h1
    have h2 := h.v2f (preX f s a.toNat b.toNat) (preY f s a.toNat b.toNat)
    have h3 := h.v2s (preX f s a.toNat b.toNat) (preY f s a.toNat b.toNat)
    unfold g2
    rw [Int.toNat_natCast, Int.toNat_natCast]
    omega
theorem cMv_back {f s : List (List Int)} (h : PM f s) (hi : Inj f s) {w : List Int} (hw : inN f.length w) {p : Nat} (hp : p < 2 * (w.length - 1)) : ∃ q, q < 2 * (w.length - 1) ∧ cMv f s (cMv f s w p) q = w := by
  have ha := inN_getD hw (i := p / 2) (by omega)
  have hb := inN_getD hw (i := p / 2 + 1) (by omega)
  have hg := inv_g2 h hi ha hb
  by_cases he : p % 2 = 0
  · refine ⟨p + 1, by omega, ?_⟩
    have e1 : cMv f s w p = dW f s w (p / 2) := by rw [cMv, if_pos he]
    have e2 : ∀ x, cMv f s x (p + 1) = dW (invF f s) (invS f s) x (p / 2) := fun x => by rw [cMv, if_neg (by omega), show (p + 1) / 2 = p / 2 from by omega]
    rw [e1, e2]
    exact dW_back (by omega) fun a b ha hb => by rw [ha, hb]; exact hg.1
  · refine ⟨p - 1, by omega, ?_⟩
    have e1 : cMv f s w p = dW (invF f s) (invS f s) w (p / 2) := by rw [cMv, if_neg he]
    have e2 : ∀ x, cMv f s x (p - 1) = dW f s x (p / 2) := fun x => by rw [cMv, if_pos (by omega), show (p - 1) / 2 = p / 2 from by omega]
    rw [e1, e2]
    exact dW_back (by omega) fun a b ha hb => by rw [ha, hb]; exact hg.2

def Eqw (f s : List (List Int)) (u v : List Int) : Prop := TR (cMv f s) (2 * (u.length - 1)) u v
section
variable {f s : List (List Int)} (h : PM f s) (hi : Inj f s)
include h hi
theorem Eqw.len {u v : List Int} (hu : inN f.length u) (e : Eqw f s u v) : inN f.length v ∧ v.length = u.length := CR_in h hi hu e
theorem Eqw.symm {u v : List Int} (hu : inN f.length u) (e : Eqw f s u v) : Eqw f s v u := by
  have hl := (e.len h hi hu).2
  unfold Eqw at e ⊢
  rw [hl]
  exact TR.symm (P := fun y => inN f.length y ∧ y.length = u.length) ⟨hu, rfl⟩ (fun y hy i _ => ⟨cMv_in h hi hy.1 i, by rw [cMv_length]; exact hy.2⟩) (fun y hy i hlt => by
    have := cMv_back h hi hy.1 (p := i) (by rw [hy.2]; exact hlt)
    rw [hy.2] at this
    exact this) e
theorem Eqw.trans {u v x : List Int} (hu : inN f.length u) (e : Eqw f s u v) (e2 : Eqw f s v x) : Eqw f s u x := by
  have hl := (e.len h hi hu).2
  unfold Eqw at e e2 ⊢
  rw [hl] at e2
  exact TR.trans e e2
theorem Eqw.app {u v : List Int} (hu : inN f.length u) (r : List Int) (e : Eqw f s u v) : Eqw f s (u ++ r) (v ++ r) := by
  unfold Eqw at e ⊢
  exact TR.map (· ++ r) (P := fun y => inN f.length y ∧ y.length = u.length) ⟨hu, rfl⟩ (fun y hy i _ => ⟨cMv_in h hi hy.1 i, by rw [cMv_length]; exact hy.2⟩) (fun y hy i hlt => ⟨i, by simp; omega, cMv_app (by rw [hy.2]; exact hlt)⟩) e
theorem Eqw.pre {r v : List Int} (hr : inN f.length r) (u : List Int) (e : Eqw f s r v) : Eqw f s (u ++ r) (u ++ v) := by
  unfold Eqw at e ⊢
  exact TR.map (u ++ ·) (P := fun y => inN f.length y ∧ y.length = r.length) ⟨hr, rfl⟩ (fun y hy i _ => ⟨cMv_in h hi hy.1 i, by rw [cMv_length]; exact hy.2⟩) (fun y hy i hlt => ⟨2 * u.length + i, by simp; omega, cMv_app2⟩) e
end
end Go.Mch
namespace Go.Mch

def iv (f s : List (List Int)) (x y : Nat) : Prop := v2 f (σN f x y) (τN s y x) = x ∧ v2 s (σN f x y) (τN s y x) = y
instance (f s : List (List Int)) (x y : Nat) : Decidable (iv f s x y) := by unfold iv; infer_instance
def isInv (f s : List (List Int)) : Prop := ∀ x, x < f.length → ∀ y, y < f.length → iv f s x y
def S_twice (pg : Pg) (n : Nat) : Prop := ∀ f s : List (List Int), PM f s → Call pg n [sol f s] [sol f s] (B (dec (isInv f s)))
set_option maxRecDepth 10000 in
theorem t_l02Twice {pg : Pg} (hp : pg.fn 351 = some c_spec_l02Twice) : S_twice pg 351 := by
  intro f s h
  have h0 := h.pos
  have h12 := h.small
  have hls := h.len
  have fr' := fun x hx => h.tf.row (x := x) hx
  have sr' : ∀ x (hx : x < s.length), (s[x]).length = f.length := fun x hx => (h.ts.row hx).trans hls
  refine Call.intro hp rfl (by simp) ?_
  show wp _ _ c_spec_l02Twice.body (post [.t 2] _ _ _) _
  simp [c_spec_l02Twice]
  refine wpLoop_count (fun a e => (∀ x, x < a → ∀ y, y < f.length → iv f s x y) ∧ e = fr [(1, some (.val (.mem .own none [tb f, tb s]))), (3, some (.val (I a)))]) f.length ?_ ?_ 0 _ (by omega) ⟨fun x hx => by omega, by simp⟩
  · rintro a e ha ⟨h1, rfl⟩
    simp [ha]
    refine wpLoop_count (fun b e => (∀ y, y < b → iv f s a y) ∧ e = fr [(1, some (.val (.mem .own none [tb f, tb s]))), (3, some (.val (I a))), (4, some (.val (I b)))]) f.length ?_ ?_ 0 _ (by omega) ⟨fun x hx => by omega, by simp⟩
    · rintro b e hb ⟨h2, rfl⟩
      have hf := h.v2f a b
      have hs2 := h.v2s a b
      have has : a < s.length := by omega
      have hfr := fr' a ha
      have hsr := sr' a has
      have hfg : (f[a])[b]'(by omega) = v2 f a b := get_v2 _ _
      have hsg : (s[a])[b]'(by omega) = v2 s a b := get_v2 _ _
      have hiv : iv f s a b ↔ v2 f (σN f a b) (τN s b a) = a ∧ v2 s (σN f a b) (τN s b a) = b := Iff.rfl
      have hf3 := h.v2f (σN f a b) (τN s b a)
      have hs3 := h.v2s (σN f a b) (τN s b a)
      obtain ⟨hf1, hf2⟩ := hf
      obtain ⟨hs1, hs2⟩ := hs2
      rw [← hf1] at hfg
      rw [← hs1] at hsg
      generalize σN f a b = u at *
      generalize τN s b a = v at *
      have hus : u < s.length := by omega
      have hfu := fr' u hf2
      have hsu := sr' u hus
      have hfg2 : (f[u])[v]'(by omega) = v2 f u v := get_v2 _ _
      have hsg2 : (s[u])[v]'(by omega) = v2 s u v := get_v2 _ _
      by_cases hx : v2 f u v = a
      · by_cases hy : v2 s u v = b
        · simp [ha, hb, has, hfr, hsr, hfg, hsg, hf2, hs2, hus, hfu, hsu, hfg2, hsg2, hx, hy]
          refine ⟨by omega, fun y hyb => ?_⟩
          rcases Nat.lt_or_ge y b with h3 | h3
          · exact h2 y h3
          · have : y = b := by omega
            subst this
            exact hiv.2 ⟨hx, hy⟩
        · have hn : ¬ isInv f s := fun hh => hy (hiv.1 (hh a ha b hb)).2
          simp [ha, hb, has, hfr, hsr, hfg, hsg, hf2, hs2, hus, hfu, hsu, hfg2, hsg2, hx, hy, dec_false hn]
      · have hn : ¬ isInv f s := fun hh => hx (hiv.1 (hh a ha b hb)).1
        simp [ha, hb, has, hfr, hsr, hfg, hsg, hf2, hs2, hfu, hfg2, hx, dec_false hn, undefV]
    · rintro e ⟨h2, rfl⟩
      simp
      refine ⟨by omega, fun x hx y hy => ?_⟩
      rcases Nat.lt_or_ge x a with h3 | h3
      · exact h1 x h3 y hy
      · have : x = a := by omega
        subst this
        exact h2 y hy
  · rintro e ⟨h1, rfl⟩
    have hn : isInv f s := fun x hx y hy => h1 x hx y hy
    simp [dec_true hn]
set_option maxRecDepth 10000 in
theorem t_isInvolutive {pg : Pg} (hp : pg.fn 298 = some c_impl_isInvolutive) : S_twice pg 298 := by
  intro f s h
  have h0 := h.pos
  have h12 := h.small
  have hls := h.len
  have fr' := fun x hx => h.tf.row (x := x) hx
  have sr' : ∀ x (hx : x < s.length), (s[x]).length = f.length := fun x hx => (h.ts.row hx).trans hls
  refine Call.intro hp rfl (by simp) ?_
  show wp _ _ c_impl_isInvolutive.body (post [.t 2] _ _ _) _
  simp [c_impl_isInvolutive]
  refine wpLoop_count (fun a e => (∀ x, x < a → ∀ y, y < f.length → iv f s x y) ∧ e = fr [(1, some (.val (.mem .own none [tb f, tb s]))), (9, some (.val (tb f))), (10, some (.val (I f.length))), (11, some (.val (I a)))]) f.length ?_ ?_ 0 _ (by omega) ⟨fun x hx => by omega, by simp⟩
  · rintro a e ha ⟨h1, rfl⟩
    have hfr := fr' a ha
    simp [ha, hfr]
    refine wpLoop_count (fun b e => (∀ y, y < b → iv f s a y) ∧ e = fr [(1, some (.val (.mem .own none [tb f, tb s]))), (3, some (.val (I a))), (9, some (.val (tb f))), (10, some (.val (I f.length))), (11, some (.val (I a))), (16, some (.val (ix f[a]))), (17, some (.val (I f.length))), (18, some (.val (I b)))]) f.length ?_ ?_ 0 _ (by omega) ⟨fun x hx => by omega, by simp⟩
    · rintro b e hb ⟨h2, rfl⟩
      have hf := h.v2f a b
      have hs2 := h.v2s a b
      have has : a < s.length := by omega
      have hsr := sr' a has
      have hfg : (f[a])[b]'(by omega) = v2 f a b := get_v2 _ _
      have hsg : (s[a])[b]'(by omega) = v2 s a b := get_v2 _ _
      have hiv : iv f s a b ↔ v2 f (σN f a b) (τN s b a) = a ∧ v2 s (σN f a b) (τN s b a) = b := Iff.rfl
      have hf3 := h.v2f (σN f a b) (τN s b a)
      have hs3 := h.v2s (σN f a b) (τN s b a)
      obtain ⟨hf1, hf2⟩ := hf
      obtain ⟨hs1, hs2⟩ := hs2
      rw [← hf1] at hfg
      rw [← hs1] at hsg
      generalize σN f a b = u at *
      generalize τN s b a = v at *
      have hus : u < s.length := by omega
      have hfu := fr' u hf2
      have hsu := sr' u hus
      have hfg2 : (f[u])[v]'(by omega) = v2 f u v := get_v2 _ _
      have hsg2 : (s[u])[v]'(by omega) = v2 s u v := get_v2 _ _
      have hbf : b < f[a].length := by omega
      by_cases hx : v2 f u v = a
      · by_cases hy : v2 s u v = b
        · simp [hb, has, hfr, hsr, hfg, hsg, hf2, hs2, hus, hfu, hsu, hfg2, hsg2, hx, hy]
          refine ⟨by omega, fun y hyb => ?_⟩
          rcases Nat.lt_or_ge y b with h3 | h3
          · exact h2 y h3
          · have : y = b := by omega
            subst this
            exact hiv.2 ⟨hx, hy⟩
        · have hn : ¬ isInv f s := fun hh => hy (hiv.1 (hh a ha b hb)).2
          simp [hb, has, hfr, hsr, hfg, hsg, hf2, hs2, hus, hfu, hsu, hfg2, hsg2, hx, hy, dec_false hn]
      · have hn : ¬ isInv f s := fun hh => hx (hiv.1 (hh a ha b hb)).1
        simp [hb, has, hfr, hsr, hfg, hsg, hf2, hs2, hfu, hfg2, hx, dec_false hn, undefV]
    · rintro e ⟨h2, rfl⟩
      simp
      refine ⟨by omega, fun x hx y hy => ?_⟩
      rcases Nat.lt_or_ge x a with h3 | h3
      · exact h1 x h3 y hy
      · have : x = a := by omega
        subst this
        exact h2 y hy
  · rintro e ⟨h1, rfl⟩
    have hn : isInv f s := fun x hx y hy => h1 x hx y hy
    simp [dec_true hn]



end Go.Mch
namespace Go.Mch

def RowIn (n : Nat) (r : List Int) : Prop := r.length = n ∧ ∀ v ∈ r, 0 ≤ v ∧ v < n
def TabN (n : Nat) (t : List (List Int)) : Prop := t.length = n ∧ ∀ r ∈ t, RowIn n r
abbrev ownL (p : List Int) : T := .mem .own (some 1) (p.map I)
abbrev ownTb (t : List (List Int)) : T := .mem .own (some 1) (rows t)
theorem RowIn.set {n i : Nat} {r : List Int} {v : Int} (h : RowIn n r) (hv : 0 ≤ v ∧ v < n) : RowIn n (r.set i v) := by
  refine ⟨by simpa using h.1, fun x hx => ?_⟩
  rcases List.mem_or_eq_of_mem_set hx with h1 | h1
  · exact h.2 x h1
  · rw [h1]; exact hv
theorem RowIn.swap {n i j : Nat} {r : List Int} (h : RowIn n r) (hd : r.Nodup) (hi : i < r.length) (hj : j < r.length) : RowIn n ((r.set i r[j]).set j r[i]) ∧ ((r.set i r[j]).set j r[i]).Nodup :=
  ⟨(h.set (h.2 _ (List.getElem_mem hj))).set (h.2 _ (List.getElem_mem hi)), (List.set_set_perm hi hj).nodup_iff.2 hd⟩
theorem idL_rowIn (n : Nat) : RowIn n (idL n) ∧ (idL n).Nodup := by
  refine ⟨⟨by simp [idL], fun v hv => ?_⟩, ?_⟩
  · simp only [idL, List.mem_map, List.mem_range] at hv
    obtain ⟨i, hi, rfl⟩ := hv
    omega
  · unfold idL
    exact List.Pairwise.map _ (fun a b h => by omega) List.nodup_range
theorem S_nxt.at {pg : Pg} (h : S_nxt pg) {c : Rw Int} {s : Int × Int} (hs : Sr c s) {n : Nat} (hn : 0 < n) : ∃ (s' : Int × Int) (r : Nat), (Sr c s' ∧ r < n) ∧ Call pg 336 [src c s, I n] [src c s', I n] (I r) := by
  obtain ⟨s', r, ⟨g1, g2, g3, _⟩, hc⟩ := h c s n hs
  have g3 := g3 (by omega)
  obtain ⟨i, rfl⟩ : ∃ i : Nat, r = i := ⟨r.toNat, by omega⟩
  exact ⟨s', i, ⟨g1, by omega⟩, hc⟩
def S_drw (pg : Pg) : Prop := ∀ (c : Rw Int) (s : Int × Int) (n : Nat), Sr c s → n ≤ 64 → ∃ (s' : Int × Int) (p : List Int), (Sr c s' ∧ RowIn n p ∧ p.Nodup) ∧ Call pg 368 [src c s, I n] [src c s', I n] (ownL p)
set_option maxRecDepth 10000 in
theorem t_drw {pg : Pg} (hp : pg.fn 368 = some c_spec_l01Draw) (h336 : S_nxt pg) (h334 : S_unit pg) : S_drw pg := by
  intro c s n hs hn
  have hfind := Call.findA (α := (Int × Int) × List Int) (Q := fun Y => Sr c Y.1 ∧ RowIn n Y.2 ∧ Y.2.Nodup) (args := [src c s, I n]) (args' := fun Y => [src c Y.1, I n]) (r := fun Y => ownL Y.2) hp rfl (by simp [F.lets, c_spec_l01Draw, List.range, List.range.loop]) (by simp [kindOf]) ?_
  · obtain ⟨Y, h1, h2⟩ := hfind
    exact ⟨_, _, h1, h2⟩
  show wp _ _ c_spec_l01Draw.body (postX _ [.t 4] _ _ _) _
  generalize hR : postX (fun Y : (Int × Int) × List Int => Sr c Y.1 ∧ RowIn n Y.2 ∧ Y.2.Nodup) [.t 4] [src c s, I n] (fun Y => [src c Y.1, I n]) (fun Y => ownL Y.2) = R
  simp [c_spec_l01Draw]
  refine callR (h334 n (by omega)) rfl rfl (fun _ => by simp) ?_
  simp
  refine ⟨by omega, ?_⟩
  refine wpLoop_lower (α := ((Int × Int) × List Int) × Nat) (fun z => z.2) (fun z e => (Sr c z.1.1 ∧ RowIn n z.1.2 ∧ z.1.2.Nodup) ∧ z.2 ≤ n ∧ e = fr [(0, some (.val (src c z.1.1))), (1, some (.val (I n))), (5, some (.val (ownL z.1.2))), (6, some (.val (I ((z.2 : Int) - 1))))]) ?_ ((s, idL n), n) _ ⟨⟨hs, (idL_rowIn n).1, (idL_rowIn n).2⟩, Nat.le_refl _, rfl⟩
  rintro ⟨⟨s1, p⟩, j⟩ e ⟨⟨g1, g2, g3⟩, g4, rfl⟩
  simp only at g1 g2 g3 g4
  by_cases hj : 2 ≤ j
  · obtain ⟨i, rfl⟩ : ∃ i, j = i + 1 := ⟨j - 1, by omega⟩
    obtain ⟨s2, r, ⟨k1, k2⟩, hc⟩ := h336.at g1 (n := i + 1) (by omega)
    have hi : 0 < i := by omega
    have hil : i < p.length := by rw [g2.1]; omega
    have hrl : r < p.length := by rw [g2.1]; omega
    have hsw := g2.swap g3 hil hrl
    simp [hi]
    refine ⟨by omega, ?_⟩
    refine callS (ts' := [rawB c, I s2.1, H64 s2.2]) (r := I r) (by simpa using hc) ?_
    simp [hil, hrl]
    exact ⟨by omega, by omega, by omega, s2.1, s2.2, (p.set i p[r]).set r p[i], i, by omega, ⟨k1, hsw.1, hsw.2⟩, by omega, by simp only [ownL, List.map_set]⟩
  · have hj' : ¬ (1 : Int) < (j : Int) := by omega
    simp [hj']
    subst hR
    exact ⟨(s1, p), ⟨g1, g2, g3⟩, by simp [post]⟩
theorem rows_snoc (t : List (List Int)) (q : List Int) : rows (t ++ [q]) = rows t ++ [ownL q] := by simp [rows]
theorem TabN.snoc {n k : Nat} {t : List (List Int)} {r : List Int} (h : t.length = k ∧ ∀ r ∈ t, RowIn n r) (hr : RowIn n r) : (t ++ [r]).length = k + 1 ∧ ∀ x ∈ t ++ [r], RowIn n x :=
  ⟨by simp [h.1], fun x hx => by
    rcases List.mem_append.1 hx with h1 | h1
    · exact h.2 x h1
    · rw [List.mem_singleton.1 h1]; exact hr⟩
def S_tbs (pg : Pg) : Prop := ∀ (c : Rw Int) (s : Int × Int) (n : Nat), Sr c s → 0 < n → n ≤ 64 → ∃ (s' : Int × Int) (t : List (List Int)), (Sr c s' ∧ TabN n t) ∧ Call pg 428 [src c s, I n] [src c s', I n] (ownTb t)
set_option maxRecDepth 10000 in
theorem t_tbs {pg : Pg} (hp : pg.fn 428 = some c_spec_l01Tables) (h336 : S_nxt pg) (h368 : S_drw pg) : S_tbs pg := by
  intro c s n hs h0 hn
  have hfind := Call.findA (α := (Int × Int) × List (List Int)) (Q := fun Y => Sr c Y.1 ∧ TabN n Y.2) (args := [src c s, I n]) (args' := fun Y => [src c Y.1, I n]) (r := fun Y => ownTb Y.2) hp rfl (by simp [F.lets, c_spec_l01Tables, List.range, List.range.loop]) (by simp [kindOf]) ?_
  · obtain ⟨Y, h1, h2⟩ := hfind
    exact ⟨_, _, h1, h2⟩
  show wp _ _ c_spec_l01Tables.body (postX _ [.t 4] _ _ _) _
  generalize hR : postX (fun Y : (Int × Int) × List (List Int) => Sr c Y.1 ∧ TabN n Y.2) [.t 4] [src c s, I n] (fun Y => [src c Y.1, I n]) (fun Y => ownTb Y.2) = R
  obtain ⟨s1, kd, ⟨k1, _⟩, hc1⟩ := h336.at hs (n := 3) (by omega)
  obtain ⟨s2, p, ⟨k2, k3, _⟩, hc2⟩ := h368 c s1 n k1 hn
  simp [c_spec_l01Tables]
  refine callS (ts' := [rawB c, I s1.1, H64 s1.2]) (r := I kd) (by simpa using hc1) ?_
  simp
  refine callS (ts' := [rawB c, I s2.1, H64 s2.2]) (r := ownL p) (by simpa using hc2) ?_
  simp
  refine wpLoop_count (fun k e => ∃ (s3 : Int × Int) (t : List (List Int)), (Sr c s3 ∧ t.length = k ∧ ∀ r ∈ t, RowIn n r) ∧ e = fr [(0, some (.val (src c s3))), (1, some (.val (I n))), (5, some (.val (ownTb t))), (6, some (.val (I kd))), (7, some (.val (ownL p))), (8, some (.val (I k)))]) n ?_ ?_ 0 _ (by omega) ⟨s2, [], ⟨k2, rfl, by simp⟩, rfl⟩
  · rintro k e hk ⟨s3, t, ⟨g1, g2, g3⟩, rfl⟩
    obtain ⟨s4, q, ⟨j1, j2, _⟩, hc3⟩ := h368 c s3 n g1 hn
    simp [hk]
    refine callS (ts' := [rawB c, I s4.1, H64 s4.2]) (r := ownL q) (by simpa using hc3) ?_
    simp
    by_cases hk0 : kd = 0
    · simp [hk0]
      refine wpLoop_count (fun j e => ∃ (s5 : Int × Int) (q : List Int), (Sr c s5 ∧ RowIn n q) ∧ e = fr [(0, some (.val (src c s5))), (1, some (.val (I n))), (5, some (.val (ownTb t))), (6, some (.val (I 0))), (7, some (.val (ownL p))), (8, some (.val (I k))), (9, some (.val (ownL q))), (10, some (.val (I j)))]) n ?_ ?_ 0 _ (by omega) ⟨s4, q, ⟨j1, j2⟩, by simp⟩
      · rintro j e hj ⟨s5, q, ⟨i1, i2⟩, rfl⟩
        obtain ⟨s6, r, ⟨m1, m2⟩, hc4⟩ := h336.at i1 (n := n) h0
        have hl : j < q.length := by rw [i2.1]; exact hj
        simp [hj]
        refine callS (ts' := [rawB c, I s6.1, H64 s6.2]) (r := I r) (by simpa using hc4) ?_
        simp [hl]
        exact ⟨by omega, by omega, s6.1, s6.2, q.set j r, ⟨m1, i2.set ⟨by omega, by omega⟩⟩, by simp only [ownL, List.map_set]⟩
      · rintro e ⟨s5, q, ⟨i1, i2⟩, rfl⟩
        simp
        exact ⟨by unfold roomy; omega, by omega, s5.1, s5.2, t ++ [q], ⟨i1, (TabN.snoc ⟨g2, g3⟩ i2).1, (TabN.snoc ⟨g2, g3⟩ i2).2⟩, by simp only [ownTb, rows_snoc]⟩
    · by_cases hk1 : kd = 1
      · simp [hk1]
        refine wpLoop_count (fun j e => ∃ (q : List Int), RowIn n q ∧ e = fr [(0, some (.val (src c s4))), (1, some (.val (I n))), (5, some (.val (ownTb t))), (6, some (.val (I 1))), (7, some (.val (ownL p))), (8, some (.val (I k))), (9, some (.val (ownL q))), (11, some (.val (I j)))]) n ?_ ?_ 0 _ (by omega) ⟨q, j2, by simp⟩
        · rintro j e hj ⟨q, i2, rfl⟩
          have hl : j < q.length := by rw [i2.1]; exact hj
          obtain ⟨m, hm, hm2⟩ : ∃ m : Nat, ((k : Int) + j).tmod n = m ∧ m < p.length := ⟨(k + j) % n, by rw [Int.tmod_eq_emod_of_nonneg (by omega), Int.natCast_emod, Int.natCast_add], by rw [k3.1]; exact Nat.mod_lt _ h0⟩
          have hn0 : ¬ n = 0 := by omega
          have hv := k3.2 _ (List.getElem_mem hm2)
          simp [hj, hl, hm, hm2, hn0]
          exact ⟨by omega, by omega, by omega, q.set j p[m], i2.set hv, by simp only [ownL, List.map_set]⟩
        · rintro e ⟨q, i2, rfl⟩
          simp
          exact ⟨by unfold roomy; omega, by omega, s4.1, s4.2, t ++ [q], ⟨j1, (TabN.snoc ⟨g2, g3⟩ i2).1, (TabN.snoc ⟨g2, g3⟩ i2).2⟩, by simp only [ownTb, rows_snoc]⟩
      · have hk1' : ¬ (kd : Int) = 1 := by omega
        simp [hk0, hk1']
        exact ⟨by unfold roomy; omega, by omega, s4.1, s4.2, t ++ [q], ⟨j1, (TabN.snoc ⟨g2, g3⟩ j2).1, (TabN.snoc ⟨g2, g3⟩ j2).2⟩, by simp only [ownTb, rows_snoc]⟩
  · rintro e ⟨s3, t, ⟨g1, g2, g3⟩, rfl⟩
    simp
    subst hR
    exact ⟨(s3, t), ⟨g1, g2, g3⟩, by simp [post]⟩
end Go.Mch
namespace Go.Mch

theorem Pm.inL {p : List Int} (h : Pm p) : inN p.length p := h.pm.1
theorem invL_get {p : List Int} {x : Nat} (h : x < (invL p).length) : (invL p)[x] = (invQ p x : Int) := by simp [invL]

end Go.Mch
namespace Go.Mch
def imZ (t : List (List Int)) (p : List Int) (a b : Nat) : List (List Int) := tabL t.length fun x y => if invQ p x < a ∨ (invQ p x = a ∧ invQ p y < b) then imG t p x y else 0
@[simp] theorem imZ_length (t : List (List Int)) (p : List Int) (a b : Nat) : (imZ t p a b).length = t.length := by simp [imZ]
theorem imZ_row (t : List (List Int)) (p : List Int) (a b : Nat) {i : Nat} (h : i < (imZ t p a b).length) : (imZ t p a b)[i].length = t.length := tabL_row (by rw [← imZ]; exact List.getElem_mem h)
theorem imZ_next {t : List (List Int)} {p : List Int} (h : Pm p) (hl : p.length = t.length) (a : Nat) : imZ t p a t.length = imZ t p (a + 1) 0 := by
  apply tabL_congr
  intro x y hx hy
  have := h.lt (x := y) (by omega)
  have e : (invQ p x < a ∨ (invQ p x = a ∧ invQ p y < t.length)) ↔ (invQ p x < a + 1 ∨ (invQ p x = a + 1 ∧ invQ p y < 0)) := by omega
  simp only [e]
theorem imZ_last {t : List (List Int)} {p : List Int} (h : Pm p) (hl : p.length = t.length) : imZ t p t.length 0 = imT t p := by
  apply tabL_congr
  intro x y hx hy
  have := h.lt (x := x) (by omega)
  rw [if_pos (by omega)]
theorem imZ_set {t : List (List Int)} {p : List Int} (h : Pm p) (hl : p.length = t.length) {a b : Nat} (ha : a < p.length) (hb : b < p.length) {P Q : Nat} (hP : (p[a]).toNat = P) (hQ : (p[b]).toNat = Q) (hPl : P < (imZ t p a b).length) :
    (imZ t p a b).set P ((imZ t p a b)[P].set Q (p.getD (v2 t a b).toNat 0)) = imZ t p a (b + 1) := by
  have qP : invQ p P = a := hP ▸ h.back ha
  have qQ : invQ p Q = b := hQ ▸ h.back hb
  have hinj : ∀ x, x < p.length → invQ p x = a → x = P := fun x hx he => by
    have := h.at hx
    rw [he] at this
    simp [ha] at this
    omega
  have hinj2 : ∀ x, x < p.length → invQ p x = b → x = Q := fun x hx he => by
    have := h.at hx
    rw [he] at this
    simp [hb] at this
    omega
  apply List.ext_getElem
  · simp
  · intro i h1 h2
    have hi : i < t.length := by simpa using h2
    rw [List.getElem_set]
    by_cases hiP : P = i
    · subst hiP
      rw [if_pos rfl]
      apply List.ext_getElem
      · simp [imZ_row]
      · intro j h3 h4
        have hj : j < t.length := by simpa [imZ_row] using h4
        rw [List.getElem_set]
        simp only [imZ, tabL, List.getElem_map, List.getElem_range]
        by_cases hjQ : Q = j
        · subst hjQ
          rw [if_pos rfl, if_pos (by omega), imG, qP, qQ]
        · rw [if_neg hjQ]
          have : invQ p j ≠ b := fun he => hjQ (hinj2 j (by omega) he).symm
          have e : (invQ p P < a ∨ (invQ p P = a ∧ invQ p j < b)) ↔ (invQ p P < a ∨ (invQ p P = a ∧ invQ p j < b + 1)) := by omega
          simp only [e]
    · rw [if_neg hiP]
      have hne : invQ p i ≠ a := fun he => hiP (hinj i (by omega) he).symm
      simp only [imZ, tabL, List.getElem_map, List.getElem_range]
      refine List.map_congr_left fun j _ => ?_
      have e : (invQ p i < a ∨ (invQ p i = a ∧ invQ p j < b)) ↔ (invQ p i < a ∨ (invQ p i = a ∧ invQ p j < b + 1)) := by omega
      simp only [e]
def zTab (n k : Nat) : List (List Int) := (List.range k).map fun _ => List.replicate n 0
theorem imZ_zero (t : List (List Int)) (p : List Int) : imZ t p 0 0 = zTab t.length t.length := by
  unfold imZ zTab tabL
  refine List.map_congr_left fun x _ => ?_
  apply List.ext_getElem
  · simp
  · intro i h1 h2; simp
theorem imZ_setD {t : List (List Int)} {p : List Int} (h : Pm p) (hl : p.length = t.length) {a b : Nat} (ha : a < p.length) (hb : b < p.length) {P Q : Nat} (hP : (p[a]).toNat = P) (hQ : (p[b]).toNat = Q) :
    (imZ t p a b).set P (((imZ t p a b).getD P []).set Q (p.getD (v2 t a b).toNat 0)) = imZ t p a (b + 1) := by
  have ra := h.inL _ (List.getElem_mem ha)
  have hPl : P < (imZ t p a b).length := by rw [imZ_length]; omega
  have := imZ_set h hl ha hb hP hQ hPl
  rw [← this, List.getD_eq_getElem?_getD, List.getElem?_eq_getElem hPl]
  rfl
set_option maxRecDepth 10000 in
theorem t_rename {pg : Pg} (hp : pg.fn 367 = some c_spec_l01Rename) : S_image pg 367 := by
  intro t p ht h hl
  have h12 := h.sm
  have h0 := h.pos
  refine Call.intro hp rfl (by simp) ?_
  show wp _ _ c_spec_l01Rename.body (post [.t 4] _ _ _) _
  simp [c_spec_l01Rename]
  refine wpLoop_count (fun k e => e = fr [(0, some (.val (tb t))), (1, some (.val (ix p))), (5, some (.val (ownTb (zTab t.length k)))), (6, some (.val (I k)))]) t.length ?_ ?_ 0 _ (by omega) ?_
  · rintro k e hk rfl
    have hz : (zTab t.length (k + 1)) = zTab t.length k ++ [List.replicate t.length 0] := by simp [zTab, List.range_succ]
    have hzl : (zTab t.length k).length = k := by simp [zTab]
    rw [hz]
    generalize zTab t.length k = Z at *
    simp [hk]
    exact ⟨by unfold roomy; omega, by unfold roomy; omega, by omega, by simp only [ownTb, ownL, rows_snoc, List.map_replicate]⟩
  · rintro e rfl
    rw [← imZ_zero t p]
    simp
    refine wpLoop_count (fun a e => e = fr [(0, some (.val (tb t))), (1, some (.val (ix p))), (5, some (.val (ownTb (imZ t p a 0)))), (7, some (.val (I a)))]) t.length ?_ ?_ 0 _ (by omega) ?_
    · rintro a e ha rfl
      rw [← imZ_next h hl a]
      have hap : a < p.length := by omega
      have ra := h.inL _ (List.getElem_mem hap)
      have hXl := imZ_length t p a 0
      have hXr := fun {i : Nat} hi => imZ_row t p a 0 (i := i) hi
      obtain ⟨P, hP⟩ : ∃ P, p[a] = P := ⟨_, rfl⟩
      rw [hP] at ra
      obtain ⟨P, rfl⟩ : ∃ P' : Nat, P = P' := ⟨P.toNat, by omega⟩
      have hPX : P < (imZ t p a 0).length := by omega
      have hr := hXr hPX
      have hPt : P < t.length := by omega
      have hgr : (rows (imZ t p a 0))[P]? = some (ownL (imZ t p a 0)[P]) := by rw [rows_get, List.getElem?_eq_getElem hPX]; rfl
      simp [ha, hap, hP, hPt, hr]
      refine wpLoop_count (fun b e => e = fr [(0, some (.val (tb t))), (1, some (.val (ix p))), (5, some (.val (ownTb (imZ t p a b)))), (7, some (.val (I a))), (8, some (.sref 5 [P] 1 0 t.length)), (9, some (.val (I b)))]) t.length ?_ ?_ 0 _ (by omega) rfl
      · rintro b e hb rfl
        have hbp : b < p.length := by omega
        have rb := h.inL _ (List.getElem_mem hbp)
        have hXl := imZ_length t p a b
        have hXr := fun {i : Nat} hi => imZ_row t p a b (i := i) hi
        obtain ⟨Q, hQ⟩ : ∃ Q, p[b] = Q := ⟨_, rfl⟩
        rw [hQ] at rb
        obtain ⟨Q, rfl⟩ : ∃ Q' : Nat, Q = Q' := ⟨Q.toNat, by omega⟩
        have hset := imZ_setD h hl hap hbp (P := P) (Q := Q) (by rw [hP]; simp) (by rw [hQ]; simp)
        have hrow := ht.row ha
        have hbr : b < (t[a]).length := by rw [hrow]; exact hb
        have hv := get_v2 ha hbr
        have hv1 := ht.nonneg a b
        have hv2 := ht.lt (by omega) a b
        rw [← hset]
        clear hset
        generalize v2 t a b = v at *
        have hvl : v.toNat < p.length := by omega
        have hvl2 : v < p.length := by omega
        have hg : p[v.toNat] = p.getD v.toNat 0 := by simp [hvl]
        generalize p.getD v.toNat 0 = w at *
        clear hgr hr
        generalize imZ t p a b = X at *
        have hPX' : P < X.length := by omega
        have hr := hXr hPX'
        have hXg : X.getD P [] = X[P] := by simp [hPX']
        rw [hXg]
        have hQX : Q < (X[P]).length := by omega
        have hQt : (Q : Int) < t.length := by omega
        have hQt2 : Q < t.length := by omega
        have hgr : (rows X)[P]? = some (ownL X[P]) := by rw [rows_get, List.getElem?_eq_getElem hPX']; rfl
        simp [ha, hb, hbp, hQ, hrow, hv, hvl, hvl2, hv1, hg, hPX', hQX, hQt]
        exact ⟨by omega, by omega, by simp only [ownTb, ← rows_set2 hPX']⟩
      · rintro e rfl
        simp
        omega
    · rintro e rfl
      rw [imZ_last h hl]
      simp
    · simp
  · simp only [zTab, ownTb, rows, List.range_zero, List.map_nil]; rfl
def S_renS (pg : Pg) : Prop := ∀ (f s : List (List Int)) (p : List Int), Tab f → Tab s → Pm p → p.length = f.length → p.length = s.length → Call pg 422 [sol f s, ix p] [sol f s, ix p] (.agg [ownTb (imT f p), ownTb (imT s p)])
set_option maxRecDepth 10000 in
theorem t_renS {pg : Pg} (hp : pg.fn 422 = some c_spec_l02Rename) (h367 : S_image pg 367) : S_renS pg := by
  intro f s p hf hs h hl hl2
  refine Call.intro hp rfl (by simp) ?_
  show wp _ _ c_spec_l02Rename.body (post [.cell 4 (some 2)] _ _ _) _
  simp [c_spec_l02Rename]
  refine callR (h367 f p hf h hl) rfl rfl (fun _ => by simp) ?_
  simp
  refine callR (h367 s p hs h hl2) rfl rfl (fun _ => by simp) ?_
  simp
theorem imT_tabN {n : Nat} {t : List (List Int)} {p : List Int} (ht : TabN n t) (hp : Pm p) (hl : p.length = n) : TabN n (imT t p) := by
  have h1 : Tab t := fun r hr => ⟨by rw [(ht.2 r hr).1, ht.1], fun v hv => by rw [ht.1]; exact (ht.2 r hr).2 v hv⟩
  refine ⟨by rw [imT, tabL_length]; exact ht.1, fun r hr => ⟨by rw [tabL_row hr]; exact ht.1, fun v hv => ?_⟩⟩
  obtain ⟨x, hx, rfl⟩ := List.mem_map.1 hr
  obtain ⟨y, hy, rfl⟩ := List.mem_map.1 hv
  simp only [List.mem_range] at hx hy
  have hpos := hp.pos
  have a1 := h1.nonneg (invQ p x) (invQ p y)
  have a2 := h1.lt (by rw [ht.1]; omega) (invQ p x) (invQ p y)
  have a3 : (v2 t (invQ p x) (invQ p y)).toNat < p.length := by rw [ht.1] at a2; omega
  have a4 := hp.inL _ (List.getElem_mem a3)
  simp only [imG, List.getD_eq_getElem?_getD, List.getElem?_eq_getElem a3, Option.getD_some]
  omega

def PMN (n : Nat) (f s : List (List Int)) : Prop := TabN n f ∧ TabN n s
abbrev ownS (X : List (List Int) × List (List Int)) : T := .agg [ownTb X.1, ownTb X.2]
def ownN2 (X : List (List Int)) : T := if X = [] then nil else ownTb X
@[simp] theorem ownN2_nil : ownN2 [] = nil := rfl
theorem one_row {n : Nat} {a : List Int} (h : RowIn n a) : ∀ x ∈ [a], RowIn n x := fun x hx => by rw [List.mem_singleton.1 hx]; exact h
theorem snoc_in {n : Nat} {a : List Int} {x : Int} (h : ∀ v ∈ a, 0 ≤ v ∧ v < n) (hx : 0 ≤ x ∧ x < n) : ∀ v ∈ a ++ [x], 0 ≤ v ∧ v < n := fun v hv => by
  rcases List.mem_append.1 hv with h1 | h1
  · exact h v h1
  · rw [List.mem_singleton.1 h1]; exact hx
theorem ownN2_ne {X : List (List Int)} {k : Nat} (h : X.length = k) (hk : 0 < k) : ownN2 X = ownTb X := if_neg fun h0 => by rw [h0] at h; simp at h; omega
theorem ownN2_snoc (X : List (List Int)) (r : List Int) : ownN2 (X ++ [r]) = .mem .own (some 1) (rows X ++ [ownL r]) := by
  rw [ownN2, if_neg (by simp), ownTb, rows_snoc]
def S_poly (pg : Pg) : Prop := ∀ n : Nat, 0 < n → n ≤ 64 → ∃ X : List (List Int) × List (List Int), PMN n X.1 X.2 ∧ Call pg 423 [I n] [I n] (ownS X)
set_option maxRecDepth 10000 in
theorem t_poly {pg : Pg} (hp : pg.fn 423 = some c_spec_l02Polygon) : S_poly pg := by
  intro n h0 hn
  refine Call.find hp rfl (by simp) ?_
  show wp _ _ c_spec_l02Polygon.body _ _
  generalize hR : (fun (x : X) (e : Env) => ∃ l : List (List Int) × List (List Int), PMN n l.1 l.2 ∧ post c_spec_l02Polygon.rs [I n] [I n] (ownS l) x e) = R
  simp [c_spec_l02Polygon]
  refine wpLoop_count (fun k e => ∃ f s : List (List Int), ((f.length = k ∧ ∀ r ∈ f, RowIn n r) ∧ s.length = k ∧ ∀ r ∈ s, RowIn n r) ∧ e = fr [(0, some (.val (I n))), (2, some (.val (.mem .own none [nil, nil]))), (3, some (.val (.mem .own none [ownN2 f, ownN2 s]))), (4, some (.val (I k)))]) n ?_ ?_ 0 _ (by omega) ⟨[], [], ⟨⟨rfl, by simp⟩, rfl, by simp⟩, rfl⟩
  · rintro k e hk ⟨f, s, ⟨⟨g1, g2⟩, g3, g4⟩, rfl⟩
    simp [hk]
    refine wpLoop_count (fun j e => ∃ a b : List Int, ((a.length = j ∧ ∀ v ∈ a, 0 ≤ v ∧ v < n) ∧ b.length = j ∧ ∀ v ∈ b, 0 ≤ v ∧ v < n) ∧ e = fr [(0, some (.val (I n))), (2, some (.val (.mem .own none [nil, nil]))), (3, some (.val (.mem .own none [ownN2 f, ownN2 s]))), (4, some (.val (I k))), (5, some (.val (ownL a))), (6, some (.val (ownL b))), (7, some (.val (I j)))]) n ?_ ?_ 0 _ (by omega) ⟨[], [], ⟨⟨rfl, by simp⟩, rfl, by simp⟩, rfl⟩
    · rintro j e hj ⟨a, b, ⟨⟨i1, i2⟩, i3, i4⟩, rfl⟩
      obtain ⟨m, hm, hm2⟩ : ∃ m : Nat, ((2 : Int) * k - j + n).tmod n = m ∧ m < n := by
        have h1 : 0 ≤ (2 : Int) * k - j + n := by omega
        refine ⟨((2 : Int) * k - j + n).toNat % n, ?_, Nat.mod_lt _ h0⟩
        rw [Int.tmod_eq_emod_of_nonneg h1, Int.natCast_emod, Int.toNat_of_nonneg h1]
      have hn0 : ¬ n = 0 := by omega
      simp [hj, hm, hn0]
      exact ⟨by omega, by omega, by omega, by unfold roomy; omega, by unfold roomy; omega, by omega, a ++ [(m : Int)], b ++ [(k : Int)], ⟨⟨by simp [i1], snoc_in i2 (by omega)⟩, by simp [i3], snoc_in i4 (by omega)⟩, by simp only [ownL, List.map_append, List.map_cons, List.map_nil]⟩
    · rintro e ⟨a, b, ⟨⟨i1, i2⟩, i3, i4⟩, rfl⟩
      by_cases hk0 : k = 0
      · subst hk0
        obtain rfl : f = [] := List.length_eq_zero_iff.1 g1
        obtain rfl : s = [] := List.length_eq_zero_iff.1 g3
        simp
        exact ⟨by unfold roomy; omega, [a], [b], ⟨⟨rfl, one_row ⟨i1, i2⟩⟩, rfl, one_row ⟨i3, i4⟩⟩, rfl⟩
      · rw [ownN2_ne g1 (by omega), ownN2_ne g3 (by omega)]
        simp
        exact ⟨by unfold roomy; omega, by unfold roomy; omega, by omega, f ++ [a], s ++ [b], ⟨TabN.snoc ⟨g1, g2⟩ ⟨i1, i2⟩, TabN.snoc ⟨g3, g4⟩ ⟨i3, i4⟩⟩, by simp only [ownN2_snoc]⟩
  · rintro e ⟨f, s, ⟨⟨g1, g2⟩, g3, g4⟩, rfl⟩
    have hf : ownN2 f = ownTb f := if_neg fun h => by rw [h] at g1; simp at g1; omega
    have hs : ownN2 s = ownTb s := if_neg fun h => by rw [h] at g3; simp at g3; omega
    rw [hf, hs]
    simp
    subst hR
    exact ⟨(f, s), ⟨⟨g1, g2⟩, g3, g4⟩, by simp [post, c_spec_l02Polygon]⟩
end Go.Mch
namespace Go.Mch
def S_twst (pg : Pg) : Prop := ∀ (n : Nat) (p q : List Int), 0 < n → n ≤ 64 → RowIn n p → RowIn n q → ∃ X : List (List Int) × List (List Int), (PMN n X.1 X.2 ∧ ∀ r ∈ X.1, r = p) ∧ Call pg 425 [ix p, ix q] [ix p, ix q] (ownS X)
set_option maxRecDepth 10000 in
theorem t_twst {pg : Pg} (hp : pg.fn 425 = some c_spec_l02Twist) (h31 : S_own pg) : S_twst pg := by
  intro n p q h0 hn hP hQ
  have hpl := hP.1
  have hql := hQ.1
  refine Call.find hp rfl (by simp) ?_
  show wp _ _ c_spec_l02Twist.body _ _
  generalize hR : (fun (x : X) (e : Env) => ∃ l : List (List Int) × List (List Int), (PMN n l.1 l.2 ∧ ∀ r ∈ l.1, r = p) ∧ post c_spec_l02Twist.rs [ix p, ix q] [ix p, ix q] (ownS l) x e) = R
  simp [c_spec_l02Twist]
  refine wpLoop_count (fun k e => ∃ f s : List (List Int), ((f.length = k ∧ ∀ r ∈ f, r = p) ∧ s.length = k ∧ ∀ r ∈ s, RowIn n r) ∧ e = fr [(0, some (.val (ix p))), (1, some (.val (ix q))), (4, some (.val (.mem .own none [nil, nil]))), (5, some (.val (.mem .own none [ownN2 f, ownN2 s]))), (6, some (.val (I k)))]) n ?_ ?_ 0 _ (by omega) ⟨[], [], ⟨⟨rfl, by simp⟩, rfl, by simp⟩, rfl⟩
  · rintro k e hk ⟨f, s, ⟨⟨g1, g2⟩, g3, g4⟩, rfl⟩
    have hkq : k < q.length := by omega
    have hv := hQ.2 _ (List.getElem_mem hkq)
    simp [hk, hpl]
    refine wpLoop_count (fun j e => ∃ b : List Int, (b.length = j ∧ ∀ v ∈ b, 0 ≤ v ∧ v < n) ∧ e = fr [(0, some (.val (ix p))), (1, some (.val (ix q))), (4, some (.val (.mem .own none [nil, nil]))), (5, some (.val (.mem .own none [ownN2 f, ownN2 s]))), (6, some (.val (I k))), (7, some (.val (ownL b))), (8, some (.val (I j)))]) n ?_ ?_ 0 _ (by omega) ⟨[], ⟨rfl, by simp⟩, rfl⟩
    · rintro j e hj ⟨b, ⟨i3, i4⟩, rfl⟩
      simp [hj, hpl, hql, hk]
      exact ⟨by unfold roomy; omega, by omega, b ++ [q[k]], ⟨by simp [i3], snoc_in i4 hv⟩, by simp only [ownL, List.map_append, List.map_cons, List.map_nil]⟩
    · rintro e ⟨b, ⟨i3, i4⟩, rfl⟩
      by_cases hk0 : k = 0
      · subst hk0
        obtain rfl : f = [] := List.length_eq_zero_iff.1 g1
        obtain rfl : s = [] := List.length_eq_zero_iff.1 g3
        simp [hpl]
        refine callR (h31 p (by omega)) rfl rfl (fun _ => by simp) ?_
        simp
        exact ⟨by unfold roomy; omega, [p], [b], ⟨⟨rfl, by simp⟩, rfl, one_row ⟨i3, i4⟩⟩, rfl⟩
      · rw [ownN2_ne g1 (by omega), ownN2_ne g3 (by omega)]
        simp [hpl]
        refine callR (h31 p (by omega)) rfl rfl (fun _ => by simp) ?_
        simp
        exact ⟨by unfold roomy; omega, by unfold roomy; omega, by omega, f ++ [p], s ++ [b], ⟨⟨by simp [g1], fun r hr => by
          rcases List.mem_append.1 hr with h1 | h1
          · exact g2 r h1
          · exact List.mem_singleton.1 h1⟩, TabN.snoc ⟨g3, g4⟩ ⟨i3, i4⟩⟩, by simp only [ownN2_snoc]⟩
  · rintro e ⟨f, s, ⟨⟨g1, g2⟩, g3, g4⟩, rfl⟩
    rw [ownN2_ne g1 h0, ownN2_ne g3 h0]
    simp [hpl]
    subst hR
    exact ⟨(f, s), ⟨⟨⟨g1, fun r hr => by rw [g2 r hr]; exact hP⟩, g3, g4⟩, g2⟩, by simp [post, c_spec_l02Twist]⟩
def S_flp (pg : Pg) : Prop := ∀ n : Nat, 0 < n → n ≤ 64 → ∃ X : List (List Int) × List (List Int), (PMN n X.1 X.2 ∧ ∀ r ∈ X.1, r = idL n) ∧ Call pg 449 [I n] [I n] (ownS X)
theorem t_flp {pg : Pg} (hp : pg.fn 449 = some c_spec_l02Flip) (h334 : S_unit pg) (h425 : S_twst pg) : S_flp pg := by
  intro n h0 hn
  obtain ⟨X, hX, hc⟩ := h425 n (idL n) (idL n) h0 hn (idL_rowIn n).1 (idL_rowIn n).1
  refine ⟨X, hX, Call.intro hp rfl (by simp) ?_⟩
  show wp _ _ c_spec_l02Flip.body (post [.cell 2 (some 2)] _ _ _) _
  simp [c_spec_l02Flip]
  refine callR (h334 n (by omega)) rfl rfl (fun _ => by simp) ?_
  simp
  refine callR hc rfl rfl (fun _ => by simp) ?_
  simp
theorem tdivN (a m : Nat) : ((a : Int)).tdiv m = ((a / m : Nat) : Int) := by rw [Int.tdiv_eq_ediv_of_nonneg (by omega), Int.natCast_ediv]
theorem tmodN (a m : Nat) : ((a : Int)).tmod m = ((a % m : Nat) : Int) := by rw [Int.tmod_eq_emod_of_nonneg (by omega), Int.natCast_emod]
theorem TabN.at {n : Nat} {t : List (List Int)} (h : TabN n t) {i j : Nat} (hi : i < n) (hj : j < n) : ∃ (h1 : i < t.length) (h2 : j < (t[i]).length), (t[i]).length = n ∧ 0 ≤ (t[i])[j] ∧ (t[i])[j] < n := by
  have h1 : i < t.length := by rw [h.1]; exact hi
  have h2 := h.2 _ (List.getElem_mem h1)
  have h3 : j < (t[i]).length := by rw [h2.1]; exact hj
  exact ⟨h1, h3, h2.1, h2.2 _ (List.getElem_mem h3)⟩
theorem mul_lt {n m : Nat} {x y : Int} (h0 : 0 ≤ x) (h1 : x < n) (h2 : 0 ≤ y) (h3 : y < m) (hn : n * m ≤ 64) : 0 ≤ x * m + y ∧ x * m + y < (n * m : Nat) ∧ 0 ≤ x * m ∧ x * m ≤ 64 := by
  obtain ⟨x, rfl⟩ : ∃ x' : Nat, x = x' := ⟨x.toNat, by omega⟩
  obtain ⟨y, rfl⟩ : ∃ y' : Nat, y = y' := ⟨y.toNat, by omega⟩
  have h4 : (x + 1) * m ≤ n * m := Nat.mul_le_mul_right m (by omega)
  have h5 : (x + 1) * m = x * m + m := Nat.succ_mul x m
  have h6 : ((x * m : Nat) : Int) = (x : Int) * m := by simp
  omega
def S_prd (pg : Pg) : Prop := ∀ (n m : Nat) (f s f' s' : List (List Int)), 0 < n → 0 < m → n * m ≤ 64 → PMN n f s → PMN m f' s' → ∃ X : List (List Int) × List (List Int), PMN (n * m) X.1 X.2 ∧ Call pg 458 [sol f s, sol f' s'] [sol f s, sol f' s'] (ownS X)
set_option maxRecDepth 10000 in
theorem t_prd {pg : Pg} (hp : pg.fn 458 = some c_spec_l02Product) : S_prd pg := by
  intro n m f s f' s' hn0 hm0 hnm hA hB
  have hfl := hA.1.1
  have hsl := hA.2.1
  have hfl' := hB.1.1
  have hsl' := hB.2.1
  have hN : 0 < n * m := Nat.mul_pos hn0 hm0
  obtain ⟨N, hNe⟩ : ∃ N, N = n * m := ⟨_, rfl⟩
  have hNi : (n : Int) * m = N := by rw [hNe]; simp
  have hnl : n ≤ N := by rw [hNe]; exact Nat.le_mul_of_pos_right n hm0
  have hml : m ≤ N := by rw [hNe]; exact Nat.le_mul_of_pos_left m hn0
  rw [← hNe] at hN hnm ⊢
  have hdv : ∀ a, a < N → a / m < n := fun a ha => by rw [hNe, Nat.mul_comm] at ha; exact Nat.div_lt_of_lt_mul ha
  have hmd : ∀ a, a % m < m := fun a => Nat.mod_lt _ hm0
  have hm0' : ¬ (m : Int) = 0 := by omega
  have hm0'' : ¬ m = 0 := by omega
  refine Call.find hp rfl (by simp) ?_
  show wp _ _ c_spec_l02Product.body _ _
  generalize hR : (fun (x : X) (e : Env) => ∃ l : List (List Int) × List (List Int), PMN N l.1 l.2 ∧ post c_spec_l02Product.rs [sol f s, sol f' s'] [sol f s, sol f' s'] (ownS l) x e) = R
  simp [c_spec_l02Product]
  refine wpLoop_count (fun k e => ∃ F S : List (List Int), ((F.length = k ∧ ∀ r ∈ F, RowIn N r) ∧ S.length = k ∧ ∀ r ∈ S, RowIn N r) ∧ e = fr [(2, some (.val (.mem .own none [tb f, tb s]))), (3, some (.val (.mem .own none [tb f', tb s']))), (4, some (.val (.mem .own none [nil, nil]))), (5, some (.val (I n))), (6, some (.val (I m))), (7, some (.val (.mem .own none [ownN2 F, ownN2 S]))), (8, some (.val (I k)))]) N ?_ ?_ 0 _ (by omega) ⟨[], [], ⟨⟨rfl, by simp⟩, rfl, by simp⟩, by simp [hfl, hfl']⟩
  · rintro k e hk ⟨F, S, ⟨⟨g1, g2⟩, g3, g4⟩, rfl⟩
    simp [hk, hNi]
    refine ⟨by omega, ?_⟩
    refine wpLoop_count (fun j e => ∃ a b : List Int, ((a.length = j ∧ ∀ v ∈ a, 0 ≤ v ∧ v < N) ∧ b.length = j ∧ ∀ v ∈ b, 0 ≤ v ∧ v < N) ∧ e = fr [(2, some (.val (.mem .own none [tb f, tb s]))), (3, some (.val (.mem .own none [tb f', tb s']))), (4, some (.val (.mem .own none [nil, nil]))), (5, some (.val (I n))), (6, some (.val (I m))), (7, some (.val (.mem .own none [ownN2 F, ownN2 S]))), (8, some (.val (I k))), (9, some (.val (ownL a))), (10, some (.val (ownL b))), (11, some (.val (I j)))]) N ?_ ?_ 0 _ (by omega) ⟨[], [], ⟨⟨rfl, by simp⟩, rfl, by simp⟩, rfl⟩
    · rintro j e hj ⟨a, b, ⟨⟨i1, i2⟩, i3, i4⟩, rfl⟩
      have q1 := hdv k hk
      have q2 := hdv j hj
      have r1 := hmd k
      have r2 := hmd j
      have d1 := tdivN k m
      have d2 := tdivN j m
      have d3 := tmodN k m
      have d4 := tmodN j m
      generalize k / m = A at *
      generalize j / m = B at *
      generalize k % m = C at *
      generalize j % m = D at *
      obtain ⟨u1, u2, u3, u4, u5⟩ := hA.1.at q1 q2
      obtain ⟨v1, v2, v3, v4, v5⟩ := hA.2.at q1 q2
      obtain ⟨x1, x2, x3, x4, x5⟩ := hB.1.at r1 r2
      obtain ⟨y1, y2, y3, y4, y5⟩ := hB.2.at r1 r2
      have m1 := mul_lt u4 u5 x4 x5 (by omega)
      have m2 := mul_lt v4 v5 y4 y5 (by omega)
      rw [← hNe] at m1 m2
      simp [hj, hNi, d1, d2, d3, d4, hm0'', q1, q2, r1, r2, hfl, hsl, hfl', hsl', u3, v3, x3, y3]
      exact ⟨by omega, by omega, by omega, by omega, by omega, by unfold roomy; omega, by omega, by omega, by omega, by omega, by unfold roomy; omega, by omega, a ++ [f[A][B] * m + f'[C][D]], b ++ [s[A][B] * m + s'[C][D]], ⟨⟨by simp [i1], snoc_in i2 (by omega)⟩, by simp [i3], snoc_in i4 (by omega)⟩, by simp only [ownL, List.map_append, List.map_cons, List.map_nil]⟩
    · rintro e ⟨a, b, ⟨⟨i1, i2⟩, i3, i4⟩, rfl⟩
      by_cases hk0 : k = 0
      · subst hk0
        obtain rfl : F = [] := List.length_eq_zero_iff.1 g1
        obtain rfl : S = [] := List.length_eq_zero_iff.1 g3
        simp [hNi]
        exact ⟨by omega, by unfold roomy; omega, [a], [b], ⟨⟨rfl, one_row ⟨i1, i2⟩⟩, rfl, one_row ⟨i3, i4⟩⟩, rfl⟩
      · rw [ownN2_ne g1 (by omega), ownN2_ne g3 (by omega)]
        simp [hNi]
        exact ⟨by omega, by unfold roomy; omega, by unfold roomy; omega, by omega, F ++ [a], S ++ [b], ⟨TabN.snoc ⟨g1, g2⟩ ⟨i1, i2⟩, TabN.snoc ⟨g3, g4⟩ ⟨i3, i4⟩⟩, by simp only [ownN2_snoc]⟩
  · rintro e ⟨F, S, ⟨⟨g1, g2⟩, g3, g4⟩, rfl⟩
    rw [ownN2_ne g1 hN, ownN2_ne g3 hN]
    simp [hNi]
    refine ⟨by omega, ?_⟩
    subst hR
    exact ⟨(F, S), ⟨⟨g1, g2⟩, g3, g4⟩, by simp [post, c_spec_l02Product]⟩
def S_uni (pg : Pg) : Prop := ∀ (n m : Nat) (f s f' s' : List (List Int)), 0 < n → 0 < m → n + m ≤ 64 → PMN n f s → PMN m f' s' → ∃ X : List (List Int) × List (List Int), PMN (n + m) X.1 X.2 ∧ Call pg 460 [sol f s, sol f' s'] [sol f s, sol f' s'] (ownS X)
set_option maxRecDepth 10000 in
theorem t_uni {pg : Pg} (hp : pg.fn 460 = some c_spec_l02Union) : S_uni pg := by
  intro n m f s f' s' hn0 hm0 hnm hA hB
  have hfl := hA.1.1
  have hsl := hA.2.1
  have hfl' := hB.1.1
  have hsl' := hB.2.1
  obtain ⟨N, hNe⟩ : ∃ N, N = n + m := ⟨_, rfl⟩
  have hNi : (n : Int) + m = N := by rw [hNe]; simp
  rw [← hNe] at hnm ⊢
  have hN : 0 < N := by omega
  refine Call.find hp rfl (by simp) ?_
  show wp _ _ c_spec_l02Union.body _ _
  generalize hR : (fun (x : X) (e : Env) => ∃ l : List (List Int) × List (List Int), PMN N l.1 l.2 ∧ post c_spec_l02Union.rs [sol f s, sol f' s'] [sol f s, sol f' s'] (ownS l) x e) = R
  simp [c_spec_l02Union]
  refine wpLoop_count (fun k e => ∃ F S : List (List Int), ((F.length = k ∧ ∀ r ∈ F, RowIn N r) ∧ S.length = k ∧ ∀ r ∈ S, RowIn N r) ∧ e = fr [(2, some (.val (.mem .own none [tb f, tb s]))), (3, some (.val (.mem .own none [tb f', tb s']))), (4, some (.val (.mem .own none [nil, nil]))), (5, some (.val (I n))), (6, some (.val (I m))), (7, some (.val (.mem .own none [ownN2 F, ownN2 S]))), (8, some (.val (I k)))]) N ?_ ?_ 0 _ (by omega) ⟨[], [], ⟨⟨rfl, by simp⟩, rfl, by simp⟩, by simp [hfl, hfl']⟩
  · rintro k e hk ⟨F, S, ⟨⟨g1, g2⟩, g3, g4⟩, rfl⟩
    simp [hk, hNi]
    refine ⟨by omega, ?_⟩
    refine wpLoop_count (fun j e => ∃ a b : List Int, ((a.length = j ∧ ∀ v ∈ a, 0 ≤ v ∧ v < N) ∧ b.length = j ∧ ∀ v ∈ b, 0 ≤ v ∧ v < N) ∧ e = fr [(2, some (.val (.mem .own none [tb f, tb s]))), (3, some (.val (.mem .own none [tb f', tb s']))), (4, some (.val (.mem .own none [nil, nil]))), (5, some (.val (I n))), (6, some (.val (I m))), (7, some (.val (.mem .own none [ownN2 F, ownN2 S]))), (8, some (.val (I k))), (9, some (.val (ownL a))), (10, some (.val (ownL b))), (11, some (.val (I j)))]) N ?_ ?_ 0 _ (by omega) ⟨[], [], ⟨⟨rfl, by simp⟩, rfl, by simp⟩, rfl⟩
    · rintro j e hj ⟨a, b, ⟨⟨i1, i2⟩, i3, i4⟩, rfl⟩
      by_cases ck : k < n
      · by_cases cj : j < n
        · obtain ⟨u1, u2, u3, u4, u5⟩ := hA.1.at ck cj
          obtain ⟨v1, v2, v3, v4, v5⟩ := hA.2.at ck cj
          simp [hj, hNi, ck, cj, hfl, hsl, u3, v3]
          exact ⟨by omega, by unfold roomy; omega, by unfold roomy; omega, by omega, a ++ [f[k][j]], b ++ [s[k][j]], ⟨⟨by simp [i1], snoc_in i2 (by omega)⟩, by simp [i3], snoc_in i4 (by omega)⟩, by simp only [ownL, List.map_append, List.map_cons, List.map_nil]⟩
        · have ck' : ¬ n ≤ k := by omega
          simp [hj, hNi, ck, cj, ck', undefV]
          exact ⟨by omega, by unfold roomy; omega, by unfold roomy; omega, by omega, a ++ [(j : Int)], b ++ [(k : Int)], ⟨⟨by simp [i1], snoc_in i2 (by omega)⟩, by simp [i3], snoc_in i4 (by omega)⟩, by simp only [ownL, List.map_append, List.map_cons, List.map_nil]⟩
      · have ck' : n ≤ k := by omega
        by_cases cj : n ≤ j
        · obtain ⟨A, hAk⟩ : ∃ A : Nat, (k : Int) - n = A := ⟨k - n, by omega⟩
          obtain ⟨B, hBj⟩ : ∃ B : Nat, (j : Int) - n = B := ⟨j - n, by omega⟩
          have cA : A < m := by omega
          have cB : B < m := by omega
          obtain ⟨u1, u2, u3, u4, u5⟩ := hB.1.at cA cB
          obtain ⟨v1, v2, v3, v4, v5⟩ := hB.2.at cA cB
          simp [hj, hNi, ck, ck', cj, cA, cB, hfl', hsl', u3, v3, hAk, hBj, undefV]
          exact ⟨by omega, by omega, by omega, by omega, by unfold roomy; omega, by omega, by omega, by omega, by unfold roomy; omega, by omega, a ++ [f'[A][B] + n], b ++ [s'[A][B] + n], ⟨⟨by simp [i1], snoc_in i2 (by omega)⟩, by simp [i3], snoc_in i4 (by omega)⟩, by simp only [ownL, List.map_append, List.map_cons, List.map_nil]⟩
        · simp [hj, hNi, ck, cj, ck', undefV]
          exact ⟨by omega, by unfold roomy; omega, by unfold roomy; omega, by omega, a ++ [(j : Int)], b ++ [(k : Int)], ⟨⟨by simp [i1], snoc_in i2 (by omega)⟩, by simp [i3], snoc_in i4 (by omega)⟩, by simp only [ownL, List.map_append, List.map_cons, List.map_nil]⟩
    · rintro e ⟨a, b, ⟨⟨i1, i2⟩, i3, i4⟩, rfl⟩
      by_cases hk0 : k = 0
      · subst hk0
        obtain rfl : F = [] := List.length_eq_zero_iff.1 g1
        obtain rfl : S = [] := List.length_eq_zero_iff.1 g3
        simp [hNi]
        exact ⟨by omega, by unfold roomy; omega, [a], [b], ⟨⟨rfl, one_row ⟨i1, i2⟩⟩, rfl, one_row ⟨i3, i4⟩⟩, rfl⟩
      · rw [ownN2_ne g1 (by omega), ownN2_ne g3 (by omega)]
        simp [hNi]
        exact ⟨by omega, by unfold roomy; omega, by unfold roomy; omega, by omega, F ++ [a], S ++ [b], ⟨TabN.snoc ⟨g1, g2⟩ ⟨i1, i2⟩, TabN.snoc ⟨g3, g4⟩ ⟨i3, i4⟩⟩, by simp only [ownN2_snoc]⟩
  · rintro e ⟨F, S, ⟨⟨g1, g2⟩, g3, g4⟩, rfl⟩
    rw [ownN2_ne g1 hN, ownN2_ne g3 hN]
    simp [hNi]
    refine ⟨by omega, ?_⟩
    subst hR
    exact ⟨(F, S), ⟨⟨g1, g2⟩, g3, g4⟩, by simp [post, c_spec_l02Union]⟩
end Go.Mch
namespace Go.Mch
theorem zeroT_tabN {n : Nat} (h : 0 < n) : TabN n (zeroT n n) := by
  refine ⟨by simp [zeroT], fun r hr => ?_⟩
  simp only [zeroT, List.mem_replicate] at hr
  rw [hr.2]
  refine ⟨by simp, fun v hv => ?_⟩
  simp only [List.mem_replicate] at hv
  omega
theorem TabN.set2 {n i j : Nat} {t : List (List Int)} {v : Int} (h : TabN n t) (hi : i < t.length) (hv : 0 ≤ v ∧ v < n) : TabN n (t.set i (t[i].set j v)) := by
  refine ⟨by simpa using h.1, fun x hx => ?_⟩
  rcases List.mem_or_eq_of_mem_set hx with h1 | h1
  · exact h.2 x h1
  · rw [h1]; exact (h.2 _ (List.getElem_mem hi)).set hv
def S_invW (pg : Pg) : Prop := ∀ (n : Nat) (f s : List (List Int)), 0 < n → n ≤ 64 → PMN n f s → ∃ X : List (List Int) × List (List Int), PMN n X.1 X.2 ∧ Call pg 406 [sol f s] [sol f s] (ownS X)
set_option maxRecDepth 10000 in
theorem t_invW {pg : Pg} (hp : pg.fn 406 = some c_spec_l02Inverse) (h398 : S_empty pg) : S_invW pg := by
  intro n f s h0 hn hA
  have hfl := hA.1.1
  have hsl := hA.2.1
  refine Call.find hp rfl (by simp) ?_
  show wp _ _ c_spec_l02Inverse.body _ _
  generalize hR : (fun (x : X) (e : Env) => ∃ l : List (List Int) × List (List Int), PMN n l.1 l.2 ∧ post c_spec_l02Inverse.rs [sol f s] [sol f s] (ownS l) x e) = R
  simp [c_spec_l02Inverse]
  rw [hfl]
  refine callR (h398 n h0 (by omega)) rfl rfl (fun _ => by simp) ?_
  simp
  refine wpLoop_count (fun a e => ∃ F S : List (List Int), PMN n F S ∧ e = fr [(1, some (.val (.mem .own none [tb f, tb s]))), (2, some (.val (.mem .own none [nil, nil]))), (3, some (.val (I n))), (4, some (.val (.mem .own none [ownTb F, ownTb S]))), (5, some (.val (I a)))]) n ?_ ?_ 0 _ (by omega) ⟨zeroT n n, zeroT n n, ⟨zeroT_tabN h0, zeroT_tabN h0⟩, rfl⟩
  · rintro a e ha ⟨F, S, hX, rfl⟩
    simp [ha]
    refine wpLoop_count (fun b e => ∃ F S : List (List Int), PMN n F S ∧ e = fr [(1, some (.val (.mem .own none [tb f, tb s]))), (2, some (.val (.mem .own none [nil, nil]))), (3, some (.val (I n))), (4, some (.val (.mem .own none [ownTb F, ownTb S]))), (5, some (.val (I a))), (6, some (.val (I b)))]) n ?_ ?_ 0 _ (by omega) ⟨F, S, hX, by simp⟩
    · rintro b e hb ⟨F, S, hX, rfl⟩
      obtain ⟨u1, u2, u3, u4, u5⟩ := hA.1.at ha hb
      obtain ⟨v1, v2, v3, v4, v5⟩ := hA.2.at ha hb
      obtain ⟨P, hP⟩ : ∃ P : Nat, (f[a])[b] = P := ⟨((f[a])[b]).toNat, by omega⟩
      obtain ⟨Q, hQ⟩ : ∃ Q : Nat, (s[a])[b] = Q := ⟨((s[a])[b]).toNat, by omega⟩
      rw [hP] at u4 u5
      rw [hQ] at v4 v5
      have hPn : P < n := by omega
      have hQn : Q < n := by omega
      obtain ⟨x1, x2, x3, _⟩ := hX.1.at hPn hQn
      obtain ⟨y1, y2, y3, _⟩ := hX.2.at hPn hQn
      have w1 := hX.1.1
      have w2 := hX.2.1
      have hg1 : (rows F)[P]? = some (ownL F[P]) := by rw [rows_get, List.getElem?_eq_getElem x1]; rfl
      have hg2 : (rows S)[P]? = some (ownL S[P]) := by rw [rows_get, List.getElem?_eq_getElem y1]; rfl
      simp [hb, ha, hfl, hsl, u3, v3, hP, hQ, hPn, hQn, x3, y3, w1, w2]
      exact ⟨by omega, by omega, F.set P (F[P].set Q a), S.set P (S[P].set Q b), ⟨hX.1.set2 x1 ⟨by omega, by omega⟩, hX.2.set2 y1 ⟨by omega, by omega⟩⟩, by simp only [ownTb, ← rows_set2 x1, ← rows_set2 y1]⟩
    · rintro e ⟨F, S, hX, rfl⟩
      simp
      exact ⟨by omega, F, S, hX, rfl⟩
  · rintro e ⟨F, S, hX, rfl⟩
    simp
    subst hR
    exact ⟨(F, S), hX, by simp [post, c_spec_l02Inverse]⟩
def okR2 (n : Nat) (R : List (List Int)) : Prop := TabN n R ∧ ∀ x y, x < n → y < n → 0 ≤ ixOf (R.getD (v2 R x y).toNat []) x
def S_ivl (pg : Pg) : Prop := ∀ (n : Nat) (R : List (List Int)), 0 < n → n ≤ 64 → okR2 n R → ∃ X : List (List Int) × List (List Int), PMN n X.1 X.2 ∧ Call pg 461 [tb R] [tb R] (ownS X)
set_option maxRecDepth 10000 in
theorem t_ivl {pg : Pg} (hp : pg.fn 461 = some c_spec_l02Involutive) (h280 : S_copyT pg 280) (h69 : S_index pg) : S_ivl pg := by
  intro n R h0 hn ⟨hA, hI⟩
  have hRl := hA.1
  have hfit : fits R := ⟨by omega, fun r hr => by have := (hA.2 r hr).1; omega⟩
  refine Call.find hp rfl (by simp) ?_
  show wp _ _ c_spec_l02Involutive.body _ _
  generalize hR : (fun (x : X) (e : Env) => ∃ l : List (List Int) × List (List Int), PMN n l.1 l.2 ∧ post c_spec_l02Involutive.rs [tb R] [tb R] (ownS l) x e) = Rr
  simp [c_spec_l02Involutive]
  refine callR (h280 R hfit) rfl rfl (fun _ => by simp) ?_
  simp
  refine wpLoop_count (fun k e => ∃ s : List (List Int), (s.length = k ∧ ∀ r ∈ s, RowIn n r) ∧ e = fr [(0, some (.val (tb R))), (2, some (.val (.mem .own none [nil, nil]))), (3, some (.val (.mem .own none [ownTb R, ownN2 s]))), (4, some (.val (I k)))]) n ?_ ?_ 0 _ (by omega) ⟨[], ⟨rfl, by simp⟩, rfl⟩
  · rintro k e hk ⟨s, ⟨g3, g4⟩, rfl⟩
    simp [hk, hRl]
    refine wpLoop_count (fun j e => ∃ b : List Int, (b.length = j ∧ ∀ v ∈ b, 0 ≤ v ∧ v < n) ∧ e = fr [(0, some (.val (tb R))), (2, some (.val (.mem .own none [nil, nil]))), (3, some (.val (.mem .own none [ownTb R, ownN2 s]))), (4, some (.val (I k))), (5, some (.val (ownL b))), (6, some (.val (I j)))]) n ?_ ?_ 0 _ (by omega) ⟨[], ⟨rfl, by simp⟩, rfl⟩
    · rintro j e hj ⟨b, ⟨i3, i4⟩, rfl⟩
      obtain ⟨u1, u2, u3, u4, u5⟩ := hA.at hk hj
      have hv := get_v2 u1 u2
      have hii := hI k j hk hj
      rw [hv] at u4 u5
      obtain ⟨P, hP⟩ : ∃ P : Nat, v2 R k j = P := ⟨(v2 R k j).toNat, by omega⟩
      rw [hP] at hv u4 u5 hii
      have hPn : P < n := by omega
      have hPl : P < R.length := by omega
      have hrow := hA.2 _ (List.getElem_mem hPl)
      have hg : R.getD P [] = R[P] := by simp [hPl]
      rw [Int.toNat_natCast, hg] at hii
      have hle := (ixOf_le R[P] k).2
      have hc := h69 R[P] k (by have := hrow.1; omega)
      generalize ixOf R[P] k = z at *
      simp [hj, hRl, hk, u3, hv, hPn]
      refine callR hc rfl rfl (fun _ => rfl) ?_
      have hz := hrow.1
      simp
      exact ⟨by unfold roomy; omega, by omega, b ++ [z], ⟨by simp [i3], snoc_in i4 (by omega)⟩, by simp only [ownL, List.map_append, List.map_cons, List.map_nil]⟩
    · rintro e ⟨b, ⟨i3, i4⟩, rfl⟩
      by_cases hk0 : k = 0
      · subst hk0
        obtain rfl : s = [] := List.length_eq_zero_iff.1 g3
        simp [hRl]
        exact ⟨by unfold roomy; omega, [b], ⟨rfl, one_row ⟨i3, i4⟩⟩, rfl⟩
      · rw [ownN2_ne g3 (by omega)]
        simp [hRl]
        exact ⟨by unfold roomy; omega, by omega, s ++ [b], TabN.snoc ⟨g3, g4⟩ ⟨i3, i4⟩, by simp only [ownN2_snoc]⟩
  · rintro e ⟨s, ⟨g3, g4⟩, rfl⟩
    rw [ownN2_ne g3 h0]
    simp [hRl]
    subst hR
    exact ⟨(R, s), ⟨hA, g3, g4⟩, by simp [post, c_spec_l02Involutive]⟩
theorem thenL_rowIn {n : Nat} {p q : List Int} (hp : RowIn n p) (hq : RowIn n q) : RowIn n (thenL p q) := by
  refine ⟨by simp [thenL, hp.1], fun v hv => ?_⟩
  obtain ⟨x, hx, rfl⟩ := List.mem_map.1 hv
  have h1 := hp.2 x hx
  have h2 : x.toNat < q.length := by rw [hq.1]; omega
  rw [List.getD_eq_getElem?_getD, List.getElem?_eq_getElem h2]
  exact hq.2 _ (List.getElem_mem h2)
def S_twd (pg : Pg) : Prop := ∀ (c : Rw Int) (s : Int × Int) (n : Nat), Sr c s → 0 < n → n ≤ 64 → ∃ (s' : Int × Int) (X : List (List Int) × List (List Int)), (Sr c s' ∧ PMN n X.1 X.2) ∧ Call pg 459 [src c s, I n] [src c s', I n] (ownS X)
set_option maxRecDepth 10000 in
theorem t_twd {pg : Pg} (hp : pg.fn 459 = some c_spec_l02Twisted) (h336 : S_nxt pg) (h368 : S_drw pg) (h334 : S_unit pg) (h279 : S_then pg 279) (h425 : S_twst pg) : S_twd pg := by
  intro c s n hs h0 hn
  have hfind := Call.findA (α := (Int × Int) × (List (List Int) × List (List Int))) (Q := fun Y => Sr c Y.1 ∧ PMN n Y.2.1 Y.2.2) (args := [src c s, I n]) (args' := fun Y => [src c Y.1, I n]) (r := fun Y => ownS Y.2) hp rfl (by simp [F.lets, c_spec_l02Twisted, List.range, List.range.loop]) (by simp [kindOf]) ?_
  · obtain ⟨Y, h1, h2⟩ := hfind
    exact ⟨_, _, h1, h2⟩
  show wp _ _ c_spec_l02Twisted.body (postX _ _ _ _ _) _
  generalize hR : postX (fun Y : (Int × Int) × (List (List Int) × List (List Int)) => Sr c Y.1 ∧ PMN n Y.2.1 Y.2.2) c_spec_l02Twisted.rs [src c s, I n] (fun Y => [src c Y.1, I n]) (fun Y => ownS Y.2) = R
  obtain ⟨s1, p, ⟨k1, k2, _⟩, hc1⟩ := h368 c s n hs hn
  obtain ⟨s2, r, ⟨k3, k3'⟩, hc2⟩ := h336.at k1 (n := 4) (by omega)
  simp [c_spec_l02Twisted]
  refine callS (ts' := [rawB c, I s1.1, H64 s1.2]) (r := ownL p) (by simpa using hc1) ?_
  simp
  refine callR (h334 n (by omega)) rfl rfl (fun _ => by simp) ?_
  simp
  refine callS (ts' := [rawB c, I s2.1, H64 s2.2]) (r := I r) (by simpa using hc2) ?_
  simp
  refine wpLoop_lower (α := List Int × Nat) (fun z => z.2) (fun z e => (RowIn n z.1 ∧ z.2 ≤ 4) ∧ e = fr [(0, some (.val (src c s2))), (1, some (.val (I n))), (4, some (.val (.mem .own none [nil, nil]))), (5, some (.val (ownL p))), (6, some (.val (ownL z.1))), (7, some (.val (I z.2)))]) ?_ (idL n, r) _ ⟨⟨(idL_rowIn n).1, by simp only; omega⟩, rfl⟩
  rintro ⟨q, j⟩ e ⟨⟨g1, g2⟩, rfl⟩
  simp only at g1 g2
  by_cases hj : 0 < j
  · have hql := g1.1
    have hpl := k2.1
    have hc3 := h279 q p (by omega) (by unfold inN; rw [hpl]; exact g1.2)
    simp [hj]
    refine callR hc3 rfl rfl (fun _ => by simp) ?_
    simp
    exact ⟨by omega, thenL q p, j - 1, by omega, ⟨thenL_rowIn g1 k2, by omega⟩, by
      have : (j : Int) - 1 = ((j - 1 : Nat) : Int) := by omega
      rw [this]⟩
  · obtain rfl : j = 0 := by omega
    obtain ⟨s3, b, ⟨k4, _⟩, hc4⟩ := h336.at k3 (n := 2) (by omega)
    simp
    refine callS (ts' := [rawB c, I s3.1, H64 s3.2]) (r := I b) (by simpa using hc4) ?_
    by_cases hb : b = 0
    · obtain ⟨X, ⟨hX, _⟩, hc5⟩ := h425 n p q h0 hn k2 g1
      simp [hb]
      refine callR hc5 rfl rfl (fun _ => by simp) ?_
      simp
      subst hR
      exact ⟨(s3, X), ⟨k4, hX⟩, by simp [post, c_spec_l02Twisted]⟩
    · obtain ⟨X, ⟨hX, _⟩, hc5⟩ := h425 n q p h0 hn g1 k2
      simp [hb]
      refine callR hc5 rfl rfl (fun _ => by simp) ?_
      simp
      subst hR
      exact ⟨(s3, X), ⟨k4, hX⟩, by simp [post, c_spec_l02Twisted]⟩
end Go.Mch
namespace Go.Mch
abbrev S2 := List (List Int) × List (List Int)
def rw4 : List (List Int) := [[0, 1, 3, 2], [0, 1, 3, 2], [1, 0, 2, 3], [1, 0, 2, 3]]
def rw3 : List (List Int) := [[0, 1, 2], [0, 1, 2], [1, 0, 2]]
theorem rw4_ok : okR2 4 rw4 := by
  refine ⟨⟨rfl, fun r hr => ?_⟩, fun x y hx hy => ?_⟩
  · simp only [rw4, List.mem_cons, List.not_mem_nil, or_false] at hr
    rcases hr with rfl | rfl | rfl | rfl <;> exact ⟨rfl, by decide⟩
  · have : ∀ x < 4, ∀ y < 4, 0 ≤ ixOf (rw4.getD (v2 rw4 x y).toNat []) x := by decide
    exact this x hx y hy
theorem rw3_ok : okR2 3 rw3 := by
  refine ⟨⟨rfl, fun r hr => ?_⟩, fun x y hx hy => ?_⟩
  · simp only [rw3, List.mem_cons, List.not_mem_nil, or_false] at hr
    rcases hr with rfl | rfl | rfl <;> exact ⟨rfl, by decide⟩
  · have : ∀ x < 3, ∀ y < 3, 0 ≤ ixOf (rw3.getD (v2 rw3 x y).toNat []) x := by decide
    exact this x hx y hy
def S_anyM (pg : Pg) (most : Nat) : Prop := ∀ (c : Rw Int) (s : Int × Int), Sr c s → ∃ (s' : Int × Int) (n : Nat) (X : S2), (Sr c s' ∧ 0 < n ∧ n ≤ most ∧ PMN n X.1 X.2) ∧ Call pg 445 [src c s, I most] [src c s', I most] (ownS X)
def S_any (pg : Pg) : Prop := ∀ most : Nat, 0 < most → most ≤ 12 → S_anyM pg most
set_option maxRecDepth 10000 in
theorem t_any {pg : Pg} (hp : pg.fn 445 = some c_spec_l02Any) (h336 : S_nxt pg) (h449 : S_flp pg) (h423 : S_poly pg) (h458 : S_prd pg) (h459 : S_twd pg) (h460 : S_uni pg) (h461 : S_ivl pg) (h406 : S_invW pg) : S_any pg := by
  intro most
  induction most using Nat.strongRecOn with
  | _ most ih =>
  intro m0 m12 c s hs
  have hfind := Call.findA (α := (Int × Int) × Nat × S2) (Q := fun Y => Sr c Y.1 ∧ 0 < Y.2.1 ∧ Y.2.1 ≤ most ∧ PMN Y.2.1 Y.2.2.1 Y.2.2.2) (args := [src c s, I most]) (args' := fun Y => [src c Y.1, I most]) (r := fun Y => ownS Y.2.2) hp rfl (by simp [F.lets, c_spec_l02Any, List.range, List.range.loop]) (by simp [kindOf]) ?_
  · obtain ⟨Y, h1, h2⟩ := hfind
    exact ⟨_, _, _, h1, h2⟩
  show wp _ _ c_spec_l02Any.body (postX _ _ _ _ _) _
  generalize hR : postX (fun Y : (Int × Int) × Nat × S2 => Sr c Y.1 ∧ 0 < Y.2.1 ∧ Y.2.1 ≤ most ∧ PMN Y.2.1 Y.2.2.1 Y.2.2.2) c_spec_l02Any.rs [src c s, I most] (fun Y => [src c Y.1, I most]) (fun Y => ownS Y.2.2) = R
  have hfin : ∀ (s' : Int × Int) (k : Nat) (X : S2), Sr c s' → 0 < k → k ≤ most → PMN k X.1 X.2 → R .ret (fr [(0, some (.val (src c s'))), (1, some (.val (I most))), (4, some (.val (.mem .own none [ownTb X.1, ownTb X.2])))]) := by
    intro s' k X a1 a2 a3 a4
    subst hR
    exact ⟨(s', k, X), ⟨a1, a2, a3, a4⟩, by simp [post, c_spec_l02Any]⟩
  obtain ⟨s1, r1, ⟨k1, k2⟩, hc1⟩ := h336.at hs (n := most) m0
  obtain ⟨s2, kd, ⟨k3, k4⟩, hc2⟩ := h336.at k1 (n := 8) (by omega)
  obtain ⟨n, hn⟩ : ∃ n : Nat, (1 : Int) + r1 = n := ⟨1 + r1, by omega⟩
  have hn0 : 0 < n := by omega
  have hnm : n ≤ most := by omega
  simp [c_spec_l02Any]
  refine callS (ts' := [rawB c, I s1.1, H64 s1.2]) (r := I r1) (by simpa using hc1) ?_
  simp [hn]
  refine ⟨by omega, ?_⟩
  refine callS (ts' := [rawB c, I s2.1, H64 s2.2]) (r := I kd) (by simpa using hc2) ?_
  obtain ⟨sL, XL, ⟨jL1, jL2⟩, hcL⟩ := h459 c s2 n k3 hn0 (by omega)
  simp
  rcases (by omega : kd = 0 ∨ kd = 1 ∨ kd = 2 ∨ kd = 3 ∨ kd = 4 ∨ kd = 5 ∨ kd = 6 ∨ kd = 7) with rfl | rfl | rfl | rfl | rfl | rfl | rfl | rfl
  · obtain ⟨X, ⟨hX, _⟩, hc⟩ := h449 n hn0 (by omega)
    simp
    refine callR hc rfl rfl (fun _ => by simp) ?_
    simp
    exact hfin s2 n X k3 hn0 hnm hX
  · obtain ⟨X, hX, hc⟩ := h423 n hn0 (by omega)
    simp
    refine callR hc rfl rfl (fun _ => by simp) ?_
    simp
    exact hfin s2 n X k3 hn0 hnm hX
  · obtain ⟨q, hq, hq2⟩ : ∃ q : Nat, (n : Int) / 2 = q ∧ q = n / 2 := ⟨n / 2, by omega, rfl⟩
    have e1 : (n : Int).tmod 2 = (n : Int) % 2 := by rw [Int.tmod_eq_emod_of_nonneg (by omega)]
    by_cases h4 : 4 ≤ n
    · have h4' : (4 : Int) ≤ n := by omega
      by_cases hev : (n : Int) % 2 = 0
      · obtain ⟨s3, X, ⟨j1, j2⟩, hc3⟩ := h459 c s2 q k3 (by omega) (by omega)
        obtain ⟨s4, Y, ⟨j3, j4⟩, hc4⟩ := h459 c s3 2 j1 (by omega) (by omega)
        obtain ⟨Z, hZ, hc5⟩ := h458 q 2 X.1 X.2 Y.1 Y.2 (by omega) (by omega) (by omega) j2 j4
        rw [show q * 2 = n by omega] at hZ
        simp [h4', hev, e1, hq]
        refine ⟨by omega, ?_⟩
        refine callS (ts' := [rawB c, I s3.1, H64 s3.2]) (r := ownS X) (by simpa using hc3) ?_
        simp
        refine callS (ts' := [rawB c, I s4.1, H64 s4.2]) (r := ownS Y) (by simpa using hc4) ?_
        simp
        refine callR hc5 rfl rfl (fun _ => by simp) ?_
        simp
        exact hfin s4 n Z j3 hn0 hnm hZ
      · simp [h4', hev, e1]
        refine callS (ts' := [rawB c, I sL.1, H64 sL.2]) (r := ownS XL) (by simpa using hcL) ?_
        simp
        exact hfin sL n XL jL1 hn0 hnm jL2
    · have h4' : ¬ (4 : Int) ≤ n := by omega
      simp [h4', undefV]
      refine callS (ts' := [rawB c, I sL.1, H64 sL.2]) (r := ownS XL) (by simpa using hcL) ?_
      simp
      exact hfin sL n XL jL1 hn0 hnm jL2
  · by_cases h2 : 2 ≤ n
    · have h2' : (2 : Int) ≤ n := by omega
      obtain ⟨n1, hn1⟩ : ∃ n1 : Nat, (n : Int) - 1 = n1 := ⟨n - 1, by omega⟩
      obtain ⟨s3, r3, ⟨j1, j2⟩, hc3⟩ := h336.at k3 (n := n1) (by omega)
      obtain ⟨m, hm⟩ : ∃ m : Nat, (1 : Int) + r3 = m := ⟨1 + r3, by omega⟩
      obtain ⟨d, hd⟩ : ∃ d : Nat, (n : Int) - m = d := ⟨n - m, by omega⟩
      obtain ⟨s4, k, X, ⟨j3, j4, j5, j6⟩, hc4⟩ := ih m (by omega) (by omega) (by omega) c s3 j1
      obtain ⟨s5, Y, ⟨j7, j8⟩, hc5⟩ := h459 c s4 d j3 (by omega) (by omega)
      obtain ⟨Z, hZ, hc6⟩ := h460 k d X.1 X.2 Y.1 Y.2 j4 (by omega) (by omega) j6 j8
      simp [h2', hn1]
      refine ⟨by omega, ?_⟩
      refine callS (ts' := [rawB c, I s3.1, H64 s3.2]) (r := I r3) (by simpa using hc3) ?_
      simp [hm]
      refine ⟨by omega, ?_⟩
      refine callS (ts' := [rawB c, I s4.1, H64 s4.2]) (r := ownS X) (by simpa using hc4) ?_
      simp [hd]
      refine ⟨by omega, ?_⟩
      refine callS (ts' := [rawB c, I s5.1, H64 s5.2]) (r := ownS Y) (by simpa using hc5) ?_
      simp
      refine callR hc6 rfl rfl (fun _ => by simp) ?_
      simp
      exact hfin s5 (k + d) Z j7 (by omega) (by omega) hZ
    · have h2' : ¬ (2 : Int) ≤ n := by omega
      simp [h2']
      refine callS (ts' := [rawB c, I sL.1, H64 sL.2]) (r := ownS XL) (by simpa using hcL) ?_
      simp
      exact hfin sL n XL jL1 hn0 hnm jL2
  · by_cases h4 : 4 ≤ most
    · have h4' : (4 : Int) ≤ most := by omega
      obtain ⟨Z, hZ, hc6⟩ := h461 4 rw4 (by omega) (by omega) rw4_ok
      simp [h4']
      refine callR hc6 rfl rfl (fun _ => by simp) ?_
      simp
      exact hfin s2 4 Z k3 (by omega) (by omega) hZ
    · have h4' : ¬ (4 : Int) ≤ most := by omega
      simp [h4']
      refine callS (ts' := [rawB c, I sL.1, H64 sL.2]) (r := ownS XL) (by simpa using hcL) ?_
      simp
      exact hfin sL n XL jL1 hn0 hnm jL2
  · by_cases h2 : 2 ≤ n
    · have h2' : (2 : Int) ≤ n := by omega
      obtain ⟨X, hX, hc⟩ := h423 n hn0 (by omega)
      obtain ⟨Z, hZ, hc6⟩ := h406 n X.1 X.2 hn0 (by omega) hX
      simp [h2']
      refine callR hc rfl rfl (fun _ => by simp) ?_
      simp
      refine callR hc6 rfl rfl (fun _ => by simp) ?_
      simp
      exact hfin s2 n Z k3 hn0 hnm hZ
    · have h2' : ¬ (2 : Int) ≤ n := by omega
      simp [h2']
      refine callS (ts' := [rawB c, I sL.1, H64 sL.2]) (r := ownS XL) (by simpa using hcL) ?_
      simp
      exact hfin sL n XL jL1 hn0 hnm jL2
  · by_cases h4 : 3 ≤ most
    · have h4' : (3 : Int) ≤ most := by omega
      obtain ⟨Z, hZ, hc6⟩ := h461 3 rw3 (by omega) (by omega) rw3_ok
      simp [h4']
      refine callR hc6 rfl rfl (fun _ => by simp) ?_
      simp
      exact hfin s2 3 Z k3 (by omega) (by omega) hZ
    · have h4' : ¬ (3 : Int) ≤ most := by omega
      simp [h4']
      refine callS (ts' := [rawB c, I sL.1, H64 sL.2]) (r := ownS XL) (by simpa using hcL) ?_
      simp
      exact hfin sL n XL jL1 hn0 hnm jL2
  · simp
    refine callS (ts' := [rawB c, I sL.1, H64 sL.2]) (r := ownS XL) (by simpa using hcL) ?_
    simp
    exact hfin sL n XL jL1 hn0 hnm jL2
end Go.Mch
namespace Go.Mch
theorem TabN.tab {n : Nat} {t : List (List Int)} (h : TabN n t) : Tab t := fun r hr => ⟨by rw [(h.2 r hr).1, h.1], fun v hv => by rw [h.1]; exact (h.2 r hr).2 v hv⟩
theorem pm_of {n : Nat} {p : List Int} (h : RowIn n p) (hd : p.Nodup) (h0 : 0 < n) (h12 : n ≤ 12) : Pm p := by
  have hl := h.1
  exact ⟨⟨fun x hx => by rw [hl]; exact h.2 x hx, hd⟩, by omega, by omega⟩
def S_dr2 (pg : Pg) : Prop := ∀ (c : Rw Int) (s : Int × Int) (most : Nat), Sr c s → 0 < most → most ≤ 12 → ∃ (s' : Int × Int) (n : Nat) (X : S2), (Sr c s' ∧ 0 < n ∧ n ≤ most ∧ PMN n X.1 X.2) ∧ Call pg 412 [src c s, I most] [src c s', I most] (ownS X)
set_option maxRecDepth 10000 in
theorem t_dr2 {pg : Pg} (hp : pg.fn 412 = some c_spec_l02Draw) (h336 : S_nxt pg) (h445 : S_any pg) (h368 : S_drw pg) (h422 : S_renS pg) : S_dr2 pg := by
  intro c s most hs m0 m12
  have hfind := Call.findA (α := (Int × Int) × Nat × S2) (Q := fun Y => Sr c Y.1 ∧ 0 < Y.2.1 ∧ Y.2.1 ≤ most ∧ PMN Y.2.1 Y.2.2.1 Y.2.2.2) (args := [src c s, I most]) (args' := fun Y => [src c Y.1, I most]) (r := fun Y => ownS Y.2.2) hp rfl (by simp [F.lets, c_spec_l02Draw, List.range, List.range.loop]) (by simp [kindOf]) ?_
  · obtain ⟨Y, h1, h2⟩ := hfind
    exact ⟨_, _, _, h1, h2⟩
  show wp _ _ c_spec_l02Draw.body (postX _ _ _ _ _) _
  generalize hR : postX (fun Y : (Int × Int) × Nat × S2 => Sr c Y.1 ∧ 0 < Y.2.1 ∧ Y.2.1 ≤ most ∧ PMN Y.2.1 Y.2.2.1 Y.2.2.2) c_spec_l02Draw.rs [src c s, I most] (fun Y => [src c Y.1, I most]) (fun Y => ownS Y.2.2) = R
  have hfin : ∀ (s' : Int × Int) (k : Nat) (X : S2), Sr c s' → 0 < k → k ≤ most → PMN k X.1 X.2 → R .ret (fr [(0, some (.val (src c s'))), (1, some (.val (I most))), (4, some (.val (.mem .own none [ownTb X.1, ownTb X.2])))]) := by
    intro s' k X a1 a2 a3 a4
    subst hR
    exact ⟨(s', k, X), ⟨a1, a2, a3, a4⟩, by simp [post, c_spec_l02Draw]⟩
  obtain ⟨s1, n, X, ⟨k1, k2, k3, k4⟩, hc1⟩ := h445 most m0 m12 c s hs
  obtain ⟨s2, r, ⟨k5, _⟩, hc2⟩ := h336.at k1 (n := 4) (by omega)
  obtain ⟨s3, p, ⟨k6, k7, k8⟩, hc3⟩ := h368 c s2 n k5 (by omega)
  have hpm := pm_of k7 k8 k2 (by omega)
  have hl1 := k4.1.1
  have hc4 := h422 X.1 X.2 p k4.1.tab k4.2.tab hpm (by rw [k7.1, k4.1.1]) (by rw [k7.1, k4.2.1])
  simp [c_spec_l02Draw]
  refine callS (ts' := [rawB c, I s1.1, H64 s1.2]) (r := ownS X) (by simpa using hc1) ?_
  simp
  refine callS (ts' := [rawB c, I s2.1, H64 s2.2]) (r := I r) (by simpa using hc2) ?_
  by_cases hr : 0 < r
  · have hl2 := k4.2.1
    simp [hr, hl1, hl2]
    refine callS (ts' := [rawB c, I s3.1, H64 s3.2]) (r := ownL p) (by simpa using hc3) ?_
    simp [hl1, hl2]
    refine callR hc4 rfl rfl (fun _ => by simp) ?_
    simp
    exact hfin s3 n (imT X.1 p, imT X.2 p) k6 k2 k3 ⟨imT_tabN k4.1 hpm k7.1, imT_tabN k4.2 hpm k7.1⟩
  · simp [hr]
    exact hfin s2 n X k5 k2 k3 k4
theorem rows_set1 (t : List (List Int)) (i : Nat) (r : List Int) : (rows t).set i (ownL r) = rows (t.set i r) := by simp [rows, List.map_set]
def Bd (t : List (List Int)) : Prop := t.length ≤ 20 ∧ ∀ r ∈ t, r.length ≤ 20
theorem TabN.bd {n : Nat} {t : List (List Int)} (h : TabN n t) (hn : n ≤ 20) : Bd t := ⟨by rw [h.1]; exact hn, fun r hr => by rw [(h.2 r hr).1]; exact hn⟩
theorem Bd.set {t : List (List Int)} (h : Bd t) {i : Nat} {r : List Int} (hr : r.length ≤ 20) : Bd (t.set i r) := ⟨by simpa using h.1, fun x hx => by
  rcases List.mem_or_eq_of_mem_set hx with h1 | h1
  · exact h.2 x h1
  · rw [h1]; exact hr⟩
def S_bad (pg : Pg) : Prop := ∀ (c : Rw Int) (s : Int × Int) (n : Nat), Sr c s → 0 < n → n ≤ 12 → ∃ (s' : Int × Int) (t : List (List Int)), (Sr c s' ∧ Bd t) ∧ Call pg 413 [src c s, I n] [src c s', I n] (ownTb t)
set_option maxRecDepth 10000 in
theorem t_bad {pg : Pg} (hp : pg.fn 413 = some c_spec_l01Bad) (h336 : S_nxt pg) (h428 : S_tbs pg) (h334 : S_unit pg) (h292 : S_pick pg) : S_bad pg := by
  intro c s n hs n0 n12
  have hfind := Call.findA (α := (Int × Int) × List (List Int)) (Q := fun Y => Sr c Y.1 ∧ Bd Y.2) (args := [src c s, I n]) (args' := fun Y => [src c Y.1, I n]) (r := fun Y => ownTb Y.2) hp rfl (by simp [F.lets, c_spec_l01Bad, List.range, List.range.loop]) (by simp [kindOf]) ?_
  · obtain ⟨Y, h1, h2⟩ := hfind
    exact ⟨_, _, h1, h2⟩
  show wp _ _ c_spec_l01Bad.body (postX _ _ _ _ _) _
  generalize hR : postX (fun Y : (Int × Int) × List (List Int) => Sr c Y.1 ∧ Bd Y.2) c_spec_l01Bad.rs [src c s, I n] (fun Y => [src c Y.1, I n]) (fun Y => ownTb Y.2) = R
  have hfin : ∀ (s' : Int × Int) (t : List (List Int)), Sr c s' → Bd t → R .ret (fr [(0, some (.val (src c s'))), (1, some (.val (I n))), (4, some (.val (ownTb t)))]) := by
    intro s' X a1 a2
    subst hR
    exact ⟨(s', X), ⟨a1, a2⟩, by simp [post, c_spec_l01Bad]⟩
  obtain ⟨s1, t, ⟨k1, k2⟩, hc1⟩ := h428 c s n hs n0 (by omega)
  obtain ⟨s2, kd, ⟨k3, k3'⟩, hc2⟩ := h336.at k1 (n := 30) (by omega)
  have hbd := k2.bd (by omega)
  have htl := k2.1
  have ht0 : 0 < t.length := by omega
  have hrow0 := (k2.2 _ (List.getElem_mem ht0)).1
  have hg : (rows t)[0]? = some (ownL t[0]) := by rw [rows_get, List.getElem?_eq_getElem ht0]; rfl
  simp [c_spec_l01Bad]
  refine callS (ts' := [rawB c, I s1.1, H64 s1.2]) (r := ownTb t) (by simpa using hc1) ?_
  simp
  refine callS (ts' := [rawB c, I s2.1, H64 s2.2]) (r := I kd) (by simpa using hc2) ?_
  simp
  rcases (by omega : kd = 0 ∨ kd = 1 ∨ kd = 2 ∨ kd = 3 ∨ kd = 4 ∨ 5 ≤ kd) with rfl | rfl | rfl | rfl | rfl | hk
  · simp
    refine callR (h334 n (by omega)) rfl rfl (fun _ => by simp) ?_
    simp
    have := hfin s2 (t ++ [idL n]) k3 ⟨by simp; omega, fun r hr => by
      rcases List.mem_append.1 hr with h1 | h1
      · exact hbd.2 r h1
      · rw [List.mem_singleton.1 h1]; simp [idL]; omega⟩
    exact ⟨by unfold roomy; omega, by simpa only [ownTb, rows_snoc] using this⟩
  · simp [ht0]
    have := hfin s2 (t.set 0 (t[0] ++ [0])) k3 (hbd.set (by simp; omega))
    exact ⟨by unfold roomy; omega, by omega, by simpa only [ownTb, ← rows_set1, ownL, List.map_append, List.map_cons, List.map_nil] using this⟩
  · obtain ⟨s3, z, ⟨j1, _⟩, hc3⟩ := h292 c s2 [-1, n, 1099511627776] k3 (by simp) (by simp)
    simp [ht0]
    simp only [ix, List.map_cons, List.map_nil] at hc3
    refine callS (ts' := [rawB c, I s3.1, H64 s3.2]) (r := I z) (by simpa using hc3) ?_
    have ht00 : 0 < t[0].length := by omega
    simp [ht0, ht00]
    have := hfin s3 (t.set 0 (t[0].set 0 z)) j1 (hbd.set (by simp; omega))
    exact ⟨by omega, by simpa only [ownTb, ← rows_set1, ownL, List.map_set] using this⟩
  · simp
    exact hfin s2 [] k3 ⟨by simp, by simp⟩
  · obtain ⟨s3, t', ⟨j1, j2⟩, hc3⟩ := h428 c s2 13 k3 (by omega) (by omega)
    simp
    refine callS (ts' := [rawB c, I s3.1, H64 s3.2]) (r := ownTb t') (by simpa using hc3) ?_
    simp
    exact hfin s3 t' j1 (j2.bd (by omega))
  · have h1 : ¬ kd = 0 := by omega
    have h2 : ¬ (kd : Int) = 1 := by omega
    have h3 : ¬ (kd : Int) = 2 := by omega
    have h4 : ¬ (kd : Int) = 3 := by omega
    have h5 : ¬ (kd : Int) = 4 := by omega
    simp [h1, h2, h3, h4, h5]
    exact hfin s2 t k3 hbd
def S_spl (pg : Pg) (f : Nat) : Prop := ∀ (c : Rw Int) (s : Int × Int) (most : Nat), Sr c s → 0 < most → most ≤ 12 → ∃ (s' : Int × Int) (X : S2), (Sr c s' ∧ Bd X.1 ∧ Bd X.2) ∧ Call pg f [src c s, I most] [src c s', I most] (ownS X)
set_option maxRecDepth 10000 in
theorem t_spl {pg : Pg} (hp : pg.fn 379 = some c_spec_l02Spoil) (h336 : S_nxt pg) (h412 : S_dr2 pg) (h368 : S_drw pg) (h428 : S_tbs pg) (h413 : S_bad pg) : S_spl pg 379 := by
  intro c s most hs m0 m12
  have hfind := Call.findA (α := (Int × Int) × S2) (Q := fun Y => Sr c Y.1 ∧ Bd Y.2.1 ∧ Bd Y.2.2) (args := [src c s, I most]) (args' := fun Y => [src c Y.1, I most]) (r := fun Y => ownS Y.2) hp rfl (by simp [F.lets, c_spec_l02Spoil, List.range, List.range.loop]) (by simp [kindOf]) ?_
  · obtain ⟨Y, h1, h2⟩ := hfind
    exact ⟨_, _, h1, h2⟩
  show wp _ _ c_spec_l02Spoil.body (postX _ _ _ _ _) _
  generalize hR : postX (fun Y : (Int × Int) × S2 => Sr c Y.1 ∧ Bd Y.2.1 ∧ Bd Y.2.2) c_spec_l02Spoil.rs [src c s, I most] (fun Y => [src c Y.1, I most]) (fun Y => ownS Y.2) = R
  have hfin : ∀ (s' : Int × Int) (X : S2), Sr c s' → Bd X.1 → Bd X.2 → R .ret (fr [(0, some (.val (src c s'))), (1, some (.val (I most))), (4, some (.val (.mem .own none [ownTb X.1, ownTb X.2])))]) := by
    intro s' X a1 a2 a3
    subst hR
    exact ⟨(s', X), ⟨a1, a2, a3⟩, by simp [post, c_spec_l02Spoil]⟩
  obtain ⟨s1, n, X, ⟨k1, n0, nm, hX⟩, hc1⟩ := h412 c s most hs m0 m12
  obtain ⟨s2, kd, ⟨k3, k3'⟩, hc2⟩ := h336.at k1 (n := 24) (by omega)
  have hb1 := hX.1.bd (by omega)
  have hb2 := hX.2.bd (by omega)
  have hl1 := hX.1.1
  have hl2 := hX.2.1
  simp [c_spec_l02Spoil]
  refine callS (ts' := [rawB c, I s1.1, H64 s1.2]) (r := ownS X) (by simpa using hc1) ?_
  simp [hl1]
  refine callS (ts' := [rawB c, I s2.1, H64 s2.2]) (r := I kd) (by simpa using hc2) ?_
  simp
  rcases (by omega : kd = 0 ∨ kd = 1 ∨ kd = 2 ∨ kd = 3 ∨ kd = 4 ∨ 5 ≤ kd) with rfl | rfl | rfl | rfl | rfl | hk
  · obtain ⟨s3, a, ⟨j1, j2⟩, hc3⟩ := h336.at k3 (n := n) n0
    obtain ⟨s4, p, ⟨j3, j4, _⟩, hc4⟩ := h368 c s3 n j1 (by omega)
    simp [hl1]
    refine callS (ts' := [rawB c, I s3.1, H64 s3.2]) (r := I a) (by simpa using hc3) ?_
    simp
    refine callS (ts' := [rawB c, I s4.1, H64 s4.2]) (r := ownL p) (by simpa using hc4) ?_
    simp [hl1, j2]
    have := hfin s4 (X.1.set a p, X.2) j3 (hb1.set (by rw [j4.1]; omega)) hb2
    exact ⟨by omega, by simpa only [ownTb, ← rows_set1, ownL] using this⟩
  · obtain ⟨s3, a, ⟨j1, j2⟩, hc3⟩ := h336.at k3 (n := n) n0
    obtain ⟨s4, b, ⟨j3, j4⟩, hc4⟩ := h336.at j1 (n := n) n0
    obtain ⟨s5, z, ⟨j5, j6⟩, hc5⟩ := h336.at j3 (n := n) n0
    have ha : a < X.2.length := by omega
    have hrow := (hX.2.2 _ (List.getElem_mem ha)).1
    have hg : (rows X.2)[a]? = some (ownL X.2[a]) := by rw [rows_get, List.getElem?_eq_getElem ha]; rfl
    simp [hl2]
    refine callS (ts' := [rawB c, I s3.1, H64 s3.2]) (r := I a) (by simpa using hc3) ?_
    simp [hl2, j2, hrow]
    refine callS (ts' := [rawB c, I s4.1, H64 s4.2]) (r := I b) (by simpa using hc4) ?_
    simp
    refine callS (ts' := [rawB c, I s5.1, H64 s5.2]) (r := I z) (by simpa using hc5) ?_
    simp [hl2, j2, j4, hrow]
    have := hfin s5 (X.1, X.2.set a (X.2[a].set b z)) j5 hb1 (hb2.set (by rw [List.length_set, hrow]; omega))
    exact ⟨by omega, by simpa only [ownTb, ← rows_set1, ownL, List.map_set] using this⟩
  · obtain ⟨s3, f, ⟨j1, j2⟩, hc3⟩ := h428 c s2 n k3 n0 (by omega)
    obtain ⟨s4, g, ⟨j3, j4⟩, hc4⟩ := h428 c s3 n j1 n0 (by omega)
    simp
    refine callS (ts' := [rawB c, I s3.1, H64 s3.2]) (r := ownTb f) (by simpa using hc3) ?_
    simp
    refine callS (ts' := [rawB c, I s4.1, H64 s4.2]) (r := ownTb g) (by simpa using hc4) ?_
    simp
    exact hfin s4 (f, g) j3 (j2.bd (by omega)) (j4.bd (by omega))
  · obtain ⟨s3, t', ⟨j1, j2⟩, hc3⟩ := h413 c s2 n k3 n0 (by omega)
    simp
    refine callS (ts' := [rawB c, I s3.1, H64 s3.2]) (r := ownTb t') (by simpa using hc3) ?_
    simp
    exact hfin s3 (X.1, t') j1 hb1 j2
  · obtain ⟨s3, t', ⟨j1, j2⟩, hc3⟩ := h413 c s2 n k3 n0 (by omega)
    simp
    refine callS (ts' := [rawB c, I s3.1, H64 s3.2]) (r := ownTb t') (by simpa using hc3) ?_
    simp
    exact hfin s3 (t', X.2) j1 j2 hb2
  · have h1 : ¬ kd = 0 := by omega
    have h2 : ¬ (kd : Int) = 1 := by omega
    have h3 : ¬ (kd : Int) = 2 := by omega
    have h4 : ¬ (kd : Int) = 3 := by omega
    have h5 : ¬ (kd : Int) = 4 := by omega
    simp [h1, h2, h3, h4, h5]
    exact hfin s2 X k3 hb1 hb2
end Go.Mch
namespace Go.Mch
def CY (n : Nat) (t : List (List Int)) : Prop := TabN n t ∧ ∀ r ∈ t, r.Nodup
abbrev cyT (t : List (List Int)) : T := .agg [tb t]
abbrev ownC (t : List (List Int)) : T := .agg [ownTb t]
theorem CY.has {n : Nat} {t : List (List Int)} (h : CY n t) (h0 : 0 < n) (h12 : n ≤ 12) {x y : Nat} (hx : x < n) (hy : y < n) : ∃ (h1 : x < t.length), 0 ≤ ixOf t[x] y ∧ ixOf t[x] y < n := by
  have h1 : x < t.length := by rw [h.1.1]; exact hx
  have h2 := h.1.2 _ (List.getElem_mem h1)
  have hp := pm_of h2 (h.2 _ (List.getElem_mem h1)) h0 h12
  have := hp.mem (x := y) (by rw [h2.1]; exact hy)
  have h3 := ixOf_le t[x] y
  rw [h2.1] at h3
  exact ⟨h1, (ixOf_mem _ _).2 this, h3.2⟩
theorem invL_ok {p : List Int} (h : Pm p) : RowIn p.length (invL p) ∧ (invL p).Nodup := by
  refine ⟨⟨invL_length p, fun v hv => ?_⟩, ?_⟩
  · obtain ⟨i, hi, rfl⟩ := List.getElem_of_mem hv
    have hil : i < p.length := by simpa using hi
    have := h.lt hil
    rw [invL_get hi]
    omega
  · rw [List.nodup_iff_pairwise_ne, List.pairwise_iff_getElem]
    intro i j hi hj hij he
    have hil : i < p.length := by simpa using hi
    have hjl : j < p.length := by simpa using hj
    rw [invL_get hi, invL_get hj] at he
    have h1 := h.at hil
    have h2 := h.at hjl
    have he' : invQ p i = invQ p j := by omega
    rw [he'] at h1
    rw [h1] at h2
    omega
def S_aff (pg : Pg) : Prop := ∀ n a b c : Nat, 0 < n → n ≤ 64 → a ≤ 64 → b ≤ 64 → c ≤ 64 → ∃ t : List (List Int), TabN n t ∧ Call pg 424 [I n, I a, I b, I c] [I n, I a, I b, I c] (ownC t)
set_option maxRecDepth 10000 in
theorem t_aff {pg : Pg} (hp : pg.fn 424 = some c_spec_l05Affine) : S_aff pg := by
  intro n a b c h0 hn ha hb hc
  refine Call.find hp rfl (by simp) ?_
  show wp _ _ c_spec_l05Affine.body _ _
  generalize hR : (fun (x : X) (e : Env) => ∃ l : List (List Int), TabN n l ∧ post c_spec_l05Affine.rs [I n, I a, I b, I c] [I n, I a, I b, I c] (ownC l) x e) = R
  simp [c_spec_l05Affine]
  refine wpLoop_count (fun k e => ∃ s : List (List Int), (s.length = k ∧ ∀ r ∈ s, RowIn n r) ∧ e = fr [(0, some (.val (I n))), (1, some (.val (I a))), (2, some (.val (I b))), (3, some (.val (I c))), (8, some (.val (.mem .own none [nil]))), (9, some (.val (.mem .own none [ownN2 s]))), (10, some (.val (I k)))]) n ?_ ?_ 0 _ (by omega) ⟨[], ⟨rfl, by simp⟩, rfl⟩
  · rintro k e hk ⟨s, ⟨g3, g4⟩, rfl⟩
    simp [hk]
    refine wpLoop_count (fun j e => ∃ q : List Int, (q.length = j ∧ ∀ v ∈ q, 0 ≤ v ∧ v < n) ∧ e = fr [(0, some (.val (I n))), (1, some (.val (I a))), (2, some (.val (I b))), (3, some (.val (I c))), (8, some (.val (.mem .own none [nil]))), (9, some (.val (.mem .own none [ownN2 s]))), (10, some (.val (I k))), (11, some (.val (ownL q))), (12, some (.val (I j)))]) n ?_ ?_ 0 _ (by omega) ⟨[], ⟨rfl, by simp⟩, rfl⟩
    · rintro j e hj ⟨q, ⟨i3, i4⟩, rfl⟩
      obtain ⟨u, hu, hu2⟩ : ∃ u : Nat, (a : Int) * k = u ∧ u ≤ 4096 := ⟨a * k, by simp, Nat.mul_le_mul ha (by omega : k ≤ 64)⟩
      obtain ⟨v, hv, hv2⟩ : ∃ v : Nat, (b : Int) * j = v ∧ v ≤ 4096 := ⟨b * j, by simp, Nat.mul_le_mul hb (by omega : j ≤ 64)⟩
      obtain ⟨m, hm, hm2⟩ : ∃ m : Nat, ((u : Int) + v + c).tmod n = m ∧ m < n := ⟨(u + v + c) % n, by rw [Int.tmod_eq_emod_of_nonneg (by omega), Int.natCast_emod]; simp, Nat.mod_lt _ h0⟩
      have hn0 : ¬ n = 0 := by omega
      simp [hj, hu, hv, hm, hn0]
      exact ⟨by omega, by omega, by omega, by omega, by unfold roomy; omega, by omega, q ++ [(m : Int)], ⟨by simp [i3], snoc_in i4 (by omega)⟩, by simp only [ownL, List.map_append, List.map_cons, List.map_nil]⟩
    · rintro e ⟨q, ⟨i3, i4⟩, rfl⟩
      by_cases hk0 : k = 0
      · subst hk0
        obtain rfl : s = [] := List.length_eq_zero_iff.1 g3
        simp
        exact ⟨by unfold roomy; omega, [q], ⟨rfl, one_row ⟨i3, i4⟩⟩, rfl⟩
      · rw [ownN2_ne g3 (by omega)]
        simp
        exact ⟨by unfold roomy; omega, by omega, s ++ [q], TabN.snoc ⟨g3, g4⟩ ⟨i3, i4⟩, by simp only [ownN2_snoc]⟩
  · rintro e ⟨s, ⟨g3, g4⟩, rfl⟩
    rw [ownN2_ne g3 h0]
    simp
    subst hR
    exact ⟨s, ⟨g3, g4⟩, by simp [post, c_spec_l05Affine]⟩
def S_sqs (pg : Pg) : Prop := ∀ (n : Nat) (t : List (List Int)), n ≤ 64 → TabN n t → ∃ q : List Int, q.length = n ∧ Call pg 417 [tb t] [tb t] (ownL q)
set_option maxRecDepth 10000 in
theorem t_sqs {pg : Pg} (hp : pg.fn 417 = some c_spec_l05Squares) : S_sqs pg := by
  intro n t hn ht
  have htl := ht.1
  refine Call.find hp rfl (by simp) ?_
  show wp _ _ c_spec_l05Squares.body _ _
  generalize hR : (fun (x : X) (e : Env) => ∃ l : List Int, l.length = n ∧ post c_spec_l05Squares.rs [tb t] [tb t] (ownL l) x e) = R
  simp [c_spec_l05Squares]
  refine wpLoop_count (fun k e => ∃ q : List Int, q.length = k ∧ e = fr [(0, some (.val (tb t))), (3, some (.val (ownL q))), (4, some (.val (I k)))]) n ?_ ?_ 0 _ (by omega) ⟨[], rfl, rfl⟩
  · rintro k e hk ⟨q, g1, rfl⟩
    obtain ⟨u1, u2, u3, u4, u5⟩ := ht.at hk hk
    simp [hk, htl, u3]
    exact ⟨by unfold roomy; omega, by omega, q ++ [t[k][k]], by simp [g1], by simp only [ownL, List.map_append, List.map_cons, List.map_nil]⟩
  · rintro e ⟨q, g1, rfl⟩
    simp [htl]
    subst hR
    exact ⟨q, g1, by simp [post, c_spec_l05Squares]⟩
def S_flt (pg : Pg) : Prop := ∀ (n : Nat) (t : List (List Int)), n ≤ 64 → TabN n t → ∃ q : List Int, q.length ≤ 3 ∧ Call pg 418 [tb t] [tb t] (ownL q)
set_option maxRecDepth 10000 in
theorem t_flt {pg : Pg} (hp : pg.fn 418 = some c_spec_l05Fault) : S_flt pg := by
  intro n t hn ht
  have htl := ht.1
  refine Call.find hp rfl (by simp) ?_
  show wp _ _ c_spec_l05Fault.body _ _
  generalize hR : (fun (x : X) (e : Env) => ∃ l : List Int, l.length ≤ 3 ∧ post c_spec_l05Fault.rs [tb t] [tb t] (ownL l) x e) = R
  simp [c_spec_l05Fault, htl]
  refine wpLoop_count (fun x e => e = fr [(0, some (.val (tb t))), (3, some (.val (I n))), (4, some (.val (I x)))]) n ?_ ?_ 0 _ (by omega) rfl
  · rintro x e hx rfl
    simp [hx]
    refine wpLoop_count (fun y e => e = fr [(0, some (.val (tb t))), (3, some (.val (I n))), (4, some (.val (I x))), (5, some (.val (I y)))]) n ?_ ?_ 0 _ (by omega) rfl
    · rintro y e hy rfl
      simp [hy]
      refine wpLoop_count (fun z e => e = fr [(0, some (.val (tb t))), (3, some (.val (I n))), (4, some (.val (I x))), (5, some (.val (I y))), (6, some (.val (I z)))]) n ?_ ?_ 0 _ (by omega) rfl
      · rintro z e hz rfl
        obtain ⟨a1, a2, a3, a4, a5⟩ := ht.at hx hy
        obtain ⟨b1, b2, b3, b4, b5⟩ := ht.at hx hz
        obtain ⟨c1, c2, c3, c4, c5⟩ := ht.at hy hx
        obtain ⟨d1, d2, d3, d4, d5⟩ := ht.at hy hz
        obtain ⟨A, hA⟩ : ∃ A : Nat, t[x][y] = A := ⟨(t[x][y]).toNat, by omega⟩
        obtain ⟨B, hB⟩ : ∃ A : Nat, t[x][z] = A := ⟨(t[x][z]).toNat, by omega⟩
        obtain ⟨C, hC⟩ : ∃ A : Nat, t[y][x] = A := ⟨(t[y][x]).toNat, by omega⟩
        obtain ⟨D, hD⟩ : ∃ A : Nat, t[y][z] = A := ⟨(t[y][z]).toNat, by omega⟩
        rw [hA] at a4 a5
        rw [hB] at b4 b5
        rw [hC] at c4 c5
        rw [hD] at d4 d5
        have hAn : A < n := by omega
        have hBn : B < n := by omega
        have hCn : C < n := by omega
        have hDn : D < n := by omega
        obtain ⟨m1, m2, m3, m4, m5⟩ := ht.at hAn hBn
        obtain ⟨n1, n2, n3, n4, n5⟩ := ht.at hCn hDn
        by_cases he : t[A][B] = t[C][D]
        · simp [hz, hx, hy, htl, a3, c3, hA, hB, hC, hD, hAn, hBn, hCn, hDn, m3, n3, he]
          omega
        · simp [hz, hx, hy, htl, a3, c3, hA, hB, hC, hD, hAn, hBn, hCn, hDn, m3, n3, he]
          subst hR
          exact ⟨[(x : Int), y, z], by simp, by simp [post, c_spec_l05Fault]⟩
      · rintro e rfl
        simp
        omega
    · rintro e rfl
      simp
      omega
  · rintro e rfl
    simp
    subst hR
    exact ⟨[], by simp, by simp [post, c_spec_l05Fault]⟩
end Go.Mch
namespace Go.Mch
def S_cyI (pg : Pg) : Prop := ∀ (n : Nat) (t : List (List Int)), 0 < n → n ≤ 12 → TabN n t → ∃ b : Bool, (b = true → ∀ r ∈ t, r.Nodup) ∧ Call pg 363 [cyT t] [cyT t] (B b)
set_option maxRecDepth 10000 in
theorem t_cyI {pg : Pg} (hp : pg.fn 363 = some c_spec_l05Is) (h46 : S_table pg 46) (h410 : S_l01Rows pg) (h417 : S_sqs pg) (h47 : S_perm pg 47) (h418 : S_flt pg) : S_cyI pg := by
  intro n t h0 hn ht
  have htl := ht.1
  have hT := ht.tab
  have hc1 := h46 t (by omega) (fun r hr => by have := (ht.2 r hr).1; omega)
  have hist : isTable t := ⟨by omega, by omega, hT⟩
  have hc2 := h410 t hT (by omega) (by omega)
  obtain ⟨q, q1, hc3⟩ := h417 n t (by omega) ht
  have hc4 := h47 q (by omega)
  obtain ⟨w, w1, hc5⟩ := h418 n t (by omega) ht
  have hw1 : w.length ≤ 1048576 := by omega
  simp only [hist, decide_true] at hc1
  by_cases hr : permRows t
  · simp only [hr, decide_true] at hc2
    by_cases hq : isPerm q
    · simp only [hq, decide_true] at hc4
      refine ⟨decide (w.length = 0), fun _ r hr' => (hr r hr').2, Call.intro hp rfl (by simp) ?_⟩
      show wp _ _ c_spec_l05Is.body (post _ _ _ _) _
      simp [c_spec_l05Is]
      refine callR hc1 rfl rfl (fun _ => rfl) ?_
      simp
      refine callR hc2 rfl rfl (fun _ => rfl) ?_
      simp
      refine callR hc3 rfl rfl (fun _ => by simp) ?_
      simp
      refine callR hc4 rfl rfl (fun _ => rfl) ?_
      simp
      refine callR hc5 rfl rfl (fun _ => by simp) ?_
      simp
    · simp only [hq, decide_false] at hc4
      refine ⟨false, by simp, Call.intro hp rfl (by simp) ?_⟩
      show wp _ _ c_spec_l05Is.body (post _ _ _ _) _
      simp [c_spec_l05Is]
      refine callR hc1 rfl rfl (fun _ => rfl) ?_
      simp
      refine callR hc2 rfl rfl (fun _ => rfl) ?_
      simp
      refine callR hc3 rfl rfl (fun _ => by simp) ?_
      simp
      refine callR hc4 rfl rfl (fun _ => rfl) ?_
      simp [undefV]
  · simp only [hr, decide_false] at hc2
    refine ⟨false, by simp, Call.intro hp rfl (by simp) ?_⟩
    show wp _ _ c_spec_l05Is.body (post _ _ _ _) _
    simp [c_spec_l05Is]
    refine callR hc1 rfl rfl (fun _ => rfl) ?_
    simp
    refine callR hc2 rfl rfl (fun _ => rfl) ?_
    simp [undefV]
def S_cyc (pg : Pg) : Prop := ∀ (n : Nat) (f s : List (List Int)), 0 < n → n ≤ 12 → CY n f → fits s → ∃ t : List (List Int), CY n t ∧ Call pg 364 [sol f s] [sol f s] (ownC t)
set_option maxRecDepth 10000 in
theorem t_cyc {pg : Pg} (hp : pg.fn 364 = some c_spec_l05Cycle) (h304 : S_inv pg 304) : S_cyc pg := by
  intro n f s h0 hn hf hs
  have hfl := hf.1.1
  refine Call.find hp rfl (by simp) ?_
  show wp _ _ c_spec_l05Cycle.body _ _
  generalize hR : (fun (x : X) (e : Env) => ∃ l : List (List Int), CY n l ∧ post c_spec_l05Cycle.rs [sol f s] [sol f s] (ownC l) x e) = R
  simp [c_spec_l05Cycle]
  refine wpLoop_count (fun k e => ∃ t : List (List Int), ((t.length = k ∧ ∀ r ∈ t, RowIn n r) ∧ ∀ r ∈ t, r.Nodup) ∧ e = fr [(1, some (.val (.mem .own none [tb f, tb s]))), (2, some (.val (.mem .own none [nil]))), (3, some (.val (.mem .own none [ownN2 t]))), (4, some (.val (I k)))]) n ?_ ?_ 0 _ (by omega) ⟨[], ⟨⟨rfl, by simp⟩, by simp⟩, rfl⟩
  · rintro k e hk ⟨t, ⟨⟨g1, g2⟩, g3⟩, rfl⟩
    have hkl : k < f.length := by omega
    have hr := hf.1.2 _ (List.getElem_mem hkl)
    have hpm := pm_of hr (hf.2 _ (List.getElem_mem hkl)) h0 hn
    have hc := h304 f[k] hpm
    obtain ⟨j1, j2⟩ := invL_ok hpm
    rw [hr.1] at j1
    by_cases hk0 : k = 0
    · subst hk0
      obtain rfl : t = [] := List.length_eq_zero_iff.1 g1
      simp [hk, hfl]
      refine callR hc rfl rfl (fun _ => by simp) ?_
      simp
      exact ⟨by unfold roomy; omega, [invL f[0]], ⟨⟨rfl, one_row j1⟩, fun r hr => by rw [List.mem_singleton.1 hr]; exact j2⟩, rfl⟩
    · rw [ownN2_ne g1 (by omega)]
      simp [hk, hfl]
      refine callR hc rfl rfl (fun _ => by simp) ?_
      simp
      refine ⟨by unfold roomy; omega, by omega, t ++ [invL f[k]], ⟨TabN.snoc ⟨g1, g2⟩ j1, fun r hr => ?_⟩, by simp only [ownN2_snoc]⟩
      rcases List.mem_append.1 hr with h1 | h1
      · exact g3 r h1
      · rw [List.mem_singleton.1 h1]; exact j2
  · rintro e ⟨t, ⟨⟨g1, g2⟩, g3⟩, rfl⟩
    rw [ownN2_ne g1 h0]
    simp [hfl]
    subst hR
    exact ⟨t, ⟨⟨g1, g2⟩, g3⟩, by simp [post, c_spec_l05Cycle]⟩
def S_cys (pg : Pg) : Prop := ∀ (n : Nat) (t : List (List Int)), 0 < n → n ≤ 12 → CY n t → ∃ X : S2, PMN n X.1 X.2 ∧ Call pg 366 [cyT t] [cyT t] (ownS X)
set_option maxRecDepth 10000 in
theorem t_cys {pg : Pg} (hp : pg.fn 366 = some c_spec_l05Solution) (h398 : S_empty pg) (h69 : S_index pg) : S_cys pg := by
  intro n t h0 hn ht
  have htl := ht.1.1
  refine Call.find hp rfl (by simp) ?_
  show wp _ _ c_spec_l05Solution.body _ _
  generalize hR : (fun (x : X) (e : Env) => ∃ l : S2, PMN n l.1 l.2 ∧ post c_spec_l05Solution.rs [cyT t] [cyT t] (ownS l) x e) = R
  simp [c_spec_l05Solution]
  rw [htl]
  refine callR (h398 n h0 (by omega)) rfl rfl (fun _ => by simp) ?_
  simp
  refine wpLoop_count (fun a e => ∃ F S : List (List Int), PMN n F S ∧ e = fr [(1, some (.val (.mem .own none [tb t]))), (2, some (.val (.mem .own none [nil, nil]))), (3, some (.val (I n))), (4, some (.val (.mem .own none [ownTb F, ownTb S]))), (5, some (.val (I a)))]) n ?_ ?_ 0 _ (by omega) ⟨zeroT n n, zeroT n n, ⟨zeroT_tabN h0, zeroT_tabN h0⟩, rfl⟩
  · rintro a e ha ⟨F, S, hX, rfl⟩
    have hal : a < t.length := by omega
    have w1 := hX.1.1
    have w2 := hX.2.1
    have xF : a < F.length := by omega
    have xS : a < S.length := by omega
    have rF := (hX.1.2 _ (List.getElem_mem xF)).1
    have rS := (hX.2.2 _ (List.getElem_mem xS)).1
    have hg1 : (rows F)[a]? = some (ownL F[a]) := by rw [rows_get, List.getElem?_eq_getElem xF]; rfl
    have hg2 : (rows S)[a]? = some (ownL S[a]) := by rw [rows_get, List.getElem?_eq_getElem xS]; rfl
    simp [ha, w1, w2, rF, rS]
    refine wpLoop_count (fun b e => ∃ F S : List (List Int), PMN n F S ∧ e = fr [(1, some (.val (.mem .own none [tb t]))), (2, some (.val (.mem .own none [nil, nil]))), (3, some (.val (I n))), (4, some (.val (.mem .own none [ownTb F, ownTb S]))), (5, some (.val (I a))), (6, some (.sref 4 [0, a] 1 0 n)), (7, some (.sref 4 [1, a] 1 0 n)), (8, some (.val (I b)))]) n ?_ ?_ 0 _ (by omega) ⟨F, S, hX, by simp⟩
    · clear hg1 hg2 rF rS xF xS w1 w2 hX
      rintro b e hb ⟨F, S, hX, rfl⟩
      have w1 := hX.1.1
      have w2 := hX.2.1
      have xF : a < F.length := by omega
      have xS : a < S.length := by omega
      have rF := (hX.1.2 _ (List.getElem_mem xF)).1
      have rS := (hX.2.2 _ (List.getElem_mem xS)).1
      have hg1 : (rows F)[a]? = some (ownL F[a]) := by rw [rows_get, List.getElem?_eq_getElem xF]; rfl
      have hg2 : (rows S)[a]? = some (ownL S[a]) := by rw [rows_get, List.getElem?_eq_getElem xS]; rfl
      obtain ⟨_, z1, z2⟩ := ht.has h0 hn ha hb
      have hrow := (ht.1.2 _ (List.getElem_mem hal)).1
      have hc := h69 t[a] b (by omega)
      obtain ⟨u, hu⟩ : ∃ u : Nat, ixOf t[a] b = u := ⟨(ixOf t[a] b).toNat, by omega⟩
      rw [hu] at z1 z2 hc
      have hun : u < n := by omega
      obtain ⟨m1, m2, m3, m4, m5⟩ := ht.1.at hun ha
      simp [hb, ha, htl]
      refine callR hc rfl rfl (fun _ => rfl) ?_
      simp [hb, ha, htl, w1, w2, rF, rS, hun, m3]
      exact ⟨by omega, by omega, F.set a (F[a].set b u), S.set a (S[a].set b t[u][a]), ⟨hX.1.set2 xF ⟨by omega, by omega⟩, hX.2.set2 xS ⟨by omega, by omega⟩⟩, by simp only [ownTb, ← rows_set2 xF, ← rows_set2 xS]⟩
    · rintro e ⟨F, S, hX, rfl⟩
      simp
      exact ⟨by omega, F, S, hX, rfl⟩
  · rintro e ⟨F, S, hX, rfl⟩
    simp
    subst hR
    exact ⟨(F, S), hX, by simp [post, c_spec_l05Solution]⟩
theorem PMN.pm {n : Nat} {f s : List (List Int)} (h : PMN n f s) (h0 : 0 < n) (h12 : n ≤ 12) : PM f s := ⟨h.1.tab, h.2.tab, by rw [h.1.1, h.2.1], by rw [h.1.1]; exact h0, by rw [h.1.1]; exact h12⟩
theorem PMN.fits {n : Nat} {f s : List (List Int)} (h : PMN n f s) (h12 : n ≤ 12) : fits f ∧ fits s := ⟨⟨by rw [h.1.1]; omega, fun r hr => by rw [(h.1.2 r hr).1]; omega⟩, by rw [h.2.1]; omega, fun r hr => by rw [(h.2.2 r hr).1]; omega⟩
def S_cyD (pg : Pg) (f : Nat) : Prop := ∀ (c : Rw Int) (s : Int × Int) (most : Nat), Sr c s → 0 < most → most ≤ 12 → ∃ (s' : Int × Int) (n : Nat) (t : List (List Int)), (Sr c s' ∧ 0 < n ∧ n ≤ most ∧ CY n t) ∧ Call pg f [src c s, I most] [src c s', I most] (ownC t)
set_option maxRecDepth 10000 in
theorem t_cyA {pg : Pg} (hp : pg.fn 427 = some c_spec_l05Any) (h336 : S_nxt pg) (h424 : S_aff pg) (h363 : S_cyI pg) (h412 : S_dr2 pg) (h350 : S_nonDeg pg 350) (h351 : S_twice pg 351) (h364 : S_cyc pg) (h449 : S_flp pg) : S_cyD pg 427 := by
  intro c s most hs m0 m12
  have hfind := Call.findA (α := (Int × Int) × Nat × List (List Int)) (Q := fun Y => Sr c Y.1 ∧ 0 < Y.2.1 ∧ Y.2.1 ≤ most ∧ CY Y.2.1 Y.2.2) (args := [src c s, I most]) (args' := fun Y => [src c Y.1, I most]) (r := fun Y => ownC Y.2.2) hp rfl (by simp [F.lets, c_spec_l05Any, List.range, List.range.loop]) (by simp [kindOf]) ?_
  · obtain ⟨Y, h1, h2⟩ := hfind
    exact ⟨_, _, _, h1, h2⟩
  show wp _ _ c_spec_l05Any.body (postX _ _ _ _ _) _
  generalize hR : postX (fun Y : (Int × Int) × Nat × List (List Int) => Sr c Y.1 ∧ 0 < Y.2.1 ∧ Y.2.1 ≤ most ∧ CY Y.2.1 Y.2.2) c_spec_l05Any.rs [src c s, I most] (fun Y => [src c Y.1, I most]) (fun Y => ownC Y.2.2) = R
  have hfin : ∀ (s' : Int × Int) (k : Nat) (t : List (List Int)), Sr c s' → 0 < k → k ≤ most → CY k t → R .ret (fr [(0, some (.val (src c s'))), (1, some (.val (I most))), (4, some (.val (.mem .own none [ownTb t])))]) := by
    intro s' k X a1 a2 a3 a4
    subst hR
    exact ⟨(s', k, X), ⟨a1, a2, a3, a4⟩, by simp [post, c_spec_l05Any]⟩
  obtain ⟨s1, r1, ⟨k1, k2⟩, hc1⟩ := h336.at hs (n := most) m0
  obtain ⟨s2, kd, ⟨k3, k4⟩, hc2⟩ := h336.at k1 (n := 3) (by omega)
  obtain ⟨n, hn⟩ : ∃ n : Nat, (1 : Int) + r1 = n := ⟨1 + r1, by omega⟩
  have hn0 : 0 < n := by omega
  have hnm : n ≤ most := by omega
  simp [c_spec_l05Any]
  refine callS (ts' := [rawB c, I s1.1, H64 s1.2]) (r := I r1) (by simpa using hc1) ?_
  simp [hn]
  refine ⟨by omega, ?_⟩
  refine callS (ts' := [rawB c, I s2.1, H64 s2.2]) (r := I kd) (by simpa using hc2) ?_
  by_cases hk0 : kd = 0
  · simp [hk0]
    refine wpLoop_count (fun k e => ∃ s' : Int × Int, Sr c s' ∧ e = fr [(0, some (.val (src c s'))), (1, some (.val (I most))), (4, some (.val (.mem .own none [nil]))), (5, some (.val (I n))), (6, some (.val (I k)))]) 30 ?_ ?_ 0 _ (by omega) ⟨s2, k3, rfl⟩
    · rintro k e hk ⟨s3, g1, rfl⟩
      obtain ⟨s4, a1, ⟨j1, j2⟩, hd1⟩ := h336.at g1 (n := n) hn0
      obtain ⟨s5, a2, ⟨j3, j4⟩, hd2⟩ := h336.at j1 (n := n) hn0
      obtain ⟨s6, a3, ⟨j5, j6⟩, hd3⟩ := h336.at j3 (n := n) hn0
      obtain ⟨t, ht, hd4⟩ := h424 n a1 a2 a3 hn0 (by omega) (by omega) (by omega) (by omega)
      obtain ⟨b, hb, hd5⟩ := h363 n t hn0 (by omega) ht
      have hk' : (k : Int) < 30 := by omega
      simp [hk']
      refine callS (ts' := [rawB c, I s4.1, H64 s4.2]) (r := I a1) (by simpa using hd1) ?_
      simp
      refine callS (ts' := [rawB c, I s5.1, H64 s5.2]) (r := I a2) (by simpa using hd2) ?_
      simp
      refine callS (ts' := [rawB c, I s6.1, H64 s6.2]) (r := I a3) (by simpa using hd3) ?_
      simp
      refine callR hd4 rfl rfl (fun _ => by simp) ?_
      simp
      refine callR hd5 rfl rfl (fun _ => rfl) ?_
      cases b with
      | true =>
        simp
        exact hfin s6 n t j5 hn0 hnm ⟨ht, hb rfl⟩
      | false =>
        simp
        exact ⟨by omega, s6.1, s6.2, j5, rfl⟩
    · rintro e ⟨s3, g1, rfl⟩
      simp
      refine wpLoop_count (fun k e => ∃ s' : Int × Int, Sr c s' ∧ e = fr [(0, some (.val (src c s'))), (1, some (.val (I most))), (4, some (.val (.mem .own none [nil]))), (5, some (.val (I n))), (8, some (.val (I k)))]) 8 ?_ ?_ 0 _ (by omega) ⟨s3, g1, rfl⟩
      · rintro k e hk ⟨s3, g1, rfl⟩
        obtain ⟨s4, m, X, ⟨j1, j2, j3, j4⟩, hd1⟩ := h412 c s3 n g1 hn0 (by omega)
        have hpm := j4.pm j2 (by omega)
        have hfit := j4.fits (by omega)
        have hk' : (k : Int) < 8 := by omega
        have hd2 := h350 X.1 X.2 hpm
        have hd3 := h351 X.1 X.2 hpm
        simp [hk']
        refine callS (ts' := [rawB c, I s4.1, H64 s4.2]) (r := ownS X) (by simpa using hd1) ?_
        simp
        refine callR hd2 rfl rfl (fun _ => rfl) ?_
        by_cases hg : nonDeg X.1 X.2
        · simp [hg]
          refine callR hd3 rfl rfl (fun _ => rfl) ?_
          generalize dec (isInv X.1 X.2) = b at *
          cases b with
          | true =>
            obtain ⟨t, ht, hd4⟩ := h364 m X.1 X.2 j2 (by omega) ⟨j4.1, fun r hr => (hg.1 r hr).2⟩ hfit.2
            simp
            refine callR hd4 rfl rfl (fun _ => by simp) ?_
            simp
            exact hfin s4 m t j1 j2 (by omega) ht
          | false =>
            simp
            exact ⟨by omega, s4.1, s4.2, j1, rfl⟩
        · simp [hg, undefV]
          exact ⟨by omega, s4.1, s4.2, j1, rfl⟩
      · rintro e ⟨s3, g1, rfl⟩
        obtain ⟨X, ⟨j1, j2⟩, hd1⟩ := h449 n hn0 (by omega)
        have hfit := j1.fits (by omega)
        obtain ⟨t, ht, hd2⟩ := h364 n X.1 X.2 hn0 (by omega) ⟨j1.1, fun r hr => by rw [j2 r hr]; exact (idL_rowIn n).2⟩ hfit.2
        simp
        refine callR hd1 rfl rfl (fun _ => by simp) ?_
        simp
        refine callR hd2 rfl rfl (fun _ => by simp) ?_
        simp
        exact hfin s3 n t g1 hn0 hnm ht
  · simp [hk0]
    refine wpLoop_count (fun k e => ∃ s' : Int × Int, Sr c s' ∧ e = fr [(0, some (.val (src c s'))), (1, some (.val (I most))), (4, some (.val (.mem .own none [nil]))), (5, some (.val (I n))), (8, some (.val (I k)))]) 8 ?_ ?_ 0 _ (by omega) ⟨s2, k3, rfl⟩
    · rintro k e hk ⟨s3, g1, rfl⟩
      obtain ⟨s4, m, X, ⟨j1, j2, j3, j4⟩, hd1⟩ := h412 c s3 n g1 hn0 (by omega)
      have hpm := j4.pm j2 (by omega)
      have hfit := j4.fits (by omega)
      have hk' : (k : Int) < 8 := by omega
      have hd2 := h350 X.1 X.2 hpm
      have hd3 := h351 X.1 X.2 hpm
      simp [hk']
      refine callS (ts' := [rawB c, I s4.1, H64 s4.2]) (r := ownS X) (by simpa using hd1) ?_
      simp
      refine callR hd2 rfl rfl (fun _ => rfl) ?_
      by_cases hg : nonDeg X.1 X.2
      · simp [hg]
        refine callR hd3 rfl rfl (fun _ => rfl) ?_
        generalize dec (isInv X.1 X.2) = b at *
        cases b with
        | true =>
          obtain ⟨t, ht, hd4⟩ := h364 m X.1 X.2 j2 (by omega) ⟨j4.1, fun r hr => (hg.1 r hr).2⟩ hfit.2
          simp
          refine callR hd4 rfl rfl (fun _ => by simp) ?_
          simp
          exact hfin s4 m t j1 j2 (by omega) ht
        | false =>
          simp
          exact ⟨by omega, s4.1, s4.2, j1, rfl⟩
      · simp [hg, undefV]
        exact ⟨by omega, s4.1, s4.2, j1, rfl⟩
    · rintro e ⟨s3, g1, rfl⟩
      obtain ⟨X, ⟨j1, j2⟩, hd1⟩ := h449 n hn0 (by omega)
      have hfit := j1.fits (by omega)
      obtain ⟨t, ht, hd2⟩ := h364 n X.1 X.2 hn0 (by omega) ⟨j1.1, fun r hr => by rw [j2 r hr]; exact (idL_rowIn n).2⟩ hfit.2
      simp
      refine callR hd1 rfl rfl (fun _ => by simp) ?_
      simp
      refine callR hd2 rfl rfl (fun _ => by simp) ?_
      simp
      exact hfin s3 n t g1 hn0 hnm ht
theorem nodup_inj {p : List Int} (h : p.Nodup) {i j : Nat} (hi : i < p.length) (hj : j < p.length) (he : p.getD i 0 = p.getD j 0) : i = j := by
  simp only [List.getD_eq_getElem?_getD, List.getElem?_eq_getElem hi, List.getElem?_eq_getElem hj, Option.getD_some] at he
  exact (List.getElem_inj h).1 he
theorem imT_nodup {n : Nat} {t : List (List Int)} {p : List Int} (ht : CY n t) (hp : Pm p) (hl : p.length = n) : ∀ r ∈ imT t p, r.Nodup := by
  intro r hr
  obtain ⟨a, ha, rfl⟩ := List.mem_map.1 hr
  simp only [List.mem_range] at ha
  have htl := ht.1.1
  have hA := hp.lt (x := a) (by omega)
  have hAt : invQ p a < t.length := by omega
  have hrow := ht.1.2 _ (List.getElem_mem hAt)
  have hnd := ht.2 _ (List.getElem_mem hAt)
  rw [List.nodup_iff_pairwise_ne, List.pairwise_iff_getElem]
  intro i j hi hj hij he
  have hil : i < n := by simp at hi; omega
  have hjl : j < n := by simp at hj; omega
  simp only [List.getElem_map, List.getElem_range] at he
  unfold imG at he
  have hI := hp.lt (x := i) (by omega)
  have hJ := hp.lt (x := j) (by omega)
  obtain ⟨u1, u2, u3, u4, u5⟩ := ht.1.at (i := invQ p a) (j := invQ p i) (by omega) (by omega)
  obtain ⟨v1, v2', v3, v4, v5⟩ := ht.1.at (i := invQ p a) (j := invQ p j) (by omega) (by omega)
  have e1 := get_v2 u1 u2
  have e2 := get_v2 v1 v2'
  rw [e1] at u4 u5
  rw [e2] at v4 v5
  have h1 := nodup_inj hp.pm.2 (by omega) (by omega) he
  have h2 : v2 t (invQ p a) (invQ p i) = v2 t (invQ p a) (invQ p j) := by omega
  rw [← e1, ← e2] at h2
  have h3 := (List.getElem_inj hnd).1 h2
  have h4 := hp.at (x := i) (by omega)
  have h5 := hp.at (x := j) (by omega)
  rw [h3] at h4
  omega
set_option maxRecDepth 10000 in
theorem t_cyDr {pg : Pg} (hp : pg.fn 378 = some c_spec_l05Draw) (h336 : S_nxt pg) (h427 : S_cyD pg 427) (h368 : S_drw pg) (h367 : S_image pg 367) : S_cyD pg 378 := by
  intro c s most hs m0 m12
  have hfind := Call.findA (α := (Int × Int) × Nat × List (List Int)) (Q := fun Y => Sr c Y.1 ∧ 0 < Y.2.1 ∧ Y.2.1 ≤ most ∧ CY Y.2.1 Y.2.2) (args := [src c s, I most]) (args' := fun Y => [src c Y.1, I most]) (r := fun Y => ownC Y.2.2) hp rfl (by simp [F.lets, c_spec_l05Draw, List.range, List.range.loop]) (by simp [kindOf]) ?_
  · obtain ⟨Y, h1, h2⟩ := hfind
    exact ⟨_, _, _, h1, h2⟩
  show wp _ _ c_spec_l05Draw.body (postX _ _ _ _ _) _
  generalize hR : postX (fun Y : (Int × Int) × Nat × List (List Int) => Sr c Y.1 ∧ 0 < Y.2.1 ∧ Y.2.1 ≤ most ∧ CY Y.2.1 Y.2.2) c_spec_l05Draw.rs [src c s, I most] (fun Y => [src c Y.1, I most]) (fun Y => ownC Y.2.2) = R
  have hfin : ∀ (s' : Int × Int) (k : Nat) (t : List (List Int)), Sr c s' → 0 < k → k ≤ most → CY k t → R .ret (fr [(0, some (.val (src c s'))), (1, some (.val (I most))), (4, some (.val (.mem .own none [ownTb t])))]) := by
    intro s' k X a1 a2 a3 a4
    subst hR
    exact ⟨(s', k, X), ⟨a1, a2, a3, a4⟩, by simp [post, c_spec_l05Draw]⟩
  obtain ⟨s1, n, t, ⟨k1, k2, k3, k4⟩, hc1⟩ := h427 c s most hs m0 m12
  obtain ⟨s2, r, ⟨k5, _⟩, hc2⟩ := h336.at k1 (n := 3) (by omega)
  obtain ⟨s3, p, ⟨k6, k7, k8⟩, hc3⟩ := h368 c s2 n k5 (by omega)
  have hpm := pm_of k7 k8 k2 (by omega)
  have hl1 := k4.1.1
  have hc4 := h367 t p k4.1.tab hpm (by rw [k7.1, hl1])
  simp [c_spec_l05Draw]
  refine callS (ts' := [rawB c, I s1.1, H64 s1.2]) (r := ownC t) (by simpa using hc1) ?_
  simp
  refine callS (ts' := [rawB c, I s2.1, H64 s2.2]) (r := I r) (by simpa using hc2) ?_
  by_cases hr : 0 < r
  · simp [hr, hl1]
    refine callS (ts' := [rawB c, I s3.1, H64 s3.2]) (r := ownL p) (by simpa using hc3) ?_
    simp [hl1]
    refine callR hc4 rfl rfl (fun _ => by simp) ?_
    simp
    refine hfin s3 n (imT t p) k6 k2 k3 ⟨imT_tabN k4.1 hpm k7.1, ?_⟩
    exact imT_nodup k4 hpm k7.1
  · simp [hr]
    exact hfin s2 n t k5 k2 k3 k4
set_option maxRecDepth 10000 in
theorem t_spl7 {pg : Pg} (hp : pg.fn 268 = some c_spec_l07Spoil) (h336 : S_nxt pg) (h378 : S_cyD pg 378) (h366 : S_cys pg) (h379 : S_spl pg 379) : S_spl pg 268 := by
  intro c s most hs m0 m12
  have hfind := Call.findA (α := (Int × Int) × S2) (Q := fun Y => Sr c Y.1 ∧ Bd Y.2.1 ∧ Bd Y.2.2) (args := [src c s, I most]) (args' := fun Y => [src c Y.1, I most]) (r := fun Y => ownS Y.2) hp rfl (by simp [F.lets, c_spec_l07Spoil, List.range, List.range.loop]) (by simp [kindOf]) ?_
  · obtain ⟨Y, h1, h2⟩ := hfind
    exact ⟨_, _, h1, h2⟩
  show wp _ _ c_spec_l07Spoil.body (postX _ _ _ _ _) _
  generalize hR : postX (fun Y : (Int × Int) × S2 => Sr c Y.1 ∧ Bd Y.2.1 ∧ Bd Y.2.2) c_spec_l07Spoil.rs [src c s, I most] (fun Y => [src c Y.1, I most]) (fun Y => ownS Y.2) = R
  have hfin : ∀ (s' : Int × Int) (X : S2), Sr c s' → Bd X.1 → Bd X.2 → R .ret (fr [(0, some (.val (src c s'))), (1, some (.val (I most))), (4, some (.val (.mem .own none [ownTb X.1, ownTb X.2])))]) := by
    intro s' X a1 a2 a3
    subst hR
    exact ⟨(s', X), ⟨a1, a2, a3⟩, by simp [post, c_spec_l07Spoil]⟩
  obtain ⟨s1, r, ⟨k1, _⟩, hc1⟩ := h336.at hs (n := 3) (by omega)
  simp [c_spec_l07Spoil]
  refine callS (ts' := [rawB c, I s1.1, H64 s1.2]) (r := I r) (by simpa using hc1) ?_
  by_cases hr : r = 0
  · obtain ⟨s2, n, t, ⟨k2, k3, k4, k5⟩, hc2⟩ := h378 c s1 most k1 m0 m12
    obtain ⟨X, hX, hc3⟩ := h366 n t k3 (by omega) k5
    simp [hr]
    refine callS (ts' := [rawB c, I s2.1, H64 s2.2]) (r := ownC t) (by simpa using hc2) ?_
    simp
    refine callR hc3 rfl rfl (fun _ => by simp) ?_
    simp
    exact hfin s2 X k2 (hX.1.bd (by omega)) (hX.2.bd (by omega))
  · obtain ⟨s2, X, ⟨k2, k3, k4⟩, hc2⟩ := h379 c s1 most k1 m0 m12
    simp [hr]
    refine callS (ts' := [rawB c, I s2.1, H64 s2.2]) (r := ownS X) (by simpa using hc2) ?_
    simp
    exact hfin s2 X k2 k3 k4
def S_drS (pg : Pg) (f : Nat) : Prop := ∀ c : Rw Int, okB c → ∃ X : S2, (Bd X.1 ∧ Bd X.2) ∧ Call pg f [rawB c] [rawB c] (ownS X)
end Go.Mch
namespace Go.Mch

theorem isSetL.inN {n : Nat} {xs : List Int} (h : isSetL n xs) : inN n xs := fun v hv => by
  have := h.2.1 v hv
  omega
end Go.Mch
namespace Go.Mch

noncomputable def osM (f s : List (List Int)) (c : Int) : List Int := pl (solO f s) fun x => decide (x = c)
end Go.Mch
namespace Go.Mch

def solsT (L : List (List (List Int) × List (List Int))) : List T := L.flatMap fun x => [.mem .own (some 1) (rows x.1), .mem .own (some 1) (rows x.2)]
@[simp] theorem solsT_length (L : List (List (List Int) × List (List Int))) : (solsT L).length = 2 * L.length := by
  induction L with
  | nil => rfl
  | cons x L ih => simp only [solsT, List.flatMap_cons, List.length_append, List.length_cons, List.length_nil] at ih ⊢; omega
noncomputable def osL (f s : List (List Int)) (k : Nat) : List (List (List Int) × List (List Int)) := (List.range k).map fun c : Nat => (subT f (osM f s c), subT s (osM f s c))
@[simp] theorem osL_length (f s : List (List Int)) (k : Nat) : (osL f s k).length = k := by simp [osL]
end Go.Mch
namespace Go.Mch
def S_big (pg : Pg) : Prop := ∀ c : Rw Int, Call pg 128 [rawB c] [rawB c] (B (decide ((4096 : Int) < (lst c).length)))
theorem t_big {pg : Pg} (hp : pg.fn 128 = some c_laws_big) : S_big pg := by
  intro c
  refine Call.intro hp rfl (by simp) ?_
  show wp _ _ c_laws_big.body (post [.t 2] _ _ _) _
  simp [c_laws_big]
def S_likeI (pg : Pg) : Prop := ∀ a b : Rw Int, (lst a).length ≤ 1048576 → Call pg 141 [rawI a, rawI b] [rawI a, rawI b] (B (decide (lst a = lst b)))
theorem t_likeI {pg : Pg} (hp : pg.fn 141 = some c_laws_likeInts) : S_likeI pg := by
  intro a b ha
  refine Call.intro hp rfl (by simp) ?_
  show wp _ _ c_laws_likeInts.body (post [.t 4] _ _ _) _
  by_cases hl : (lst a).length = (lst b).length
  · simp [c_laws_likeInts, hl]
    refine wpLoop_count (fun k e => (∀ i, i < k → (lst a)[i]? = (lst b)[i]?) ∧ e = fr [(0, some (.val (rawI a))), (1, some (.val (rawI b))), (5, some (.val (I k)))]) (lst a).length ?_ ?_ 0 _ (by omega) ?_
    · rintro k e hk ⟨h1, rfl⟩
      have hk2 : k < (lst b).length := by omega
      by_cases hne : (lst a)[k] = (lst b)[k]
      · simp [hk, hk2, hne]
        refine ⟨by omega, fun i hi => ?_⟩
        rcases Nat.lt_or_ge i k with h2 | h2
        · exact h1 i h2
        · have : i = k := by omega
          subst this
          rw [List.getElem?_eq_getElem hk, List.getElem?_eq_getElem hk2, hne]
      · simp [hk, hk2, hne]
        intro h2
        exact hne (by simp [h2])
    · rintro e ⟨h1, rfl⟩
      simp [hl]
      apply List.ext_getElem?
      intro i
      rcases Nat.lt_or_ge i (lst a).length with h2 | h2
      · exact h1 i h2
      · rw [List.getElem?_eq_none h2, List.getElem?_eq_none (by omega)]
    · exact ⟨fun i hi => by omega, by simp⟩
  · have : lst a ≠ lst b := fun h => hl (by rw [h])
    have h2 : ((lst a).length : Int) ≠ (lst b).length := by omega
    simp [c_laws_likeInts, h2, this]

def S_likeT (pg : Pg) : Prop := ∀ a b : Rw (Rw Int), small a → Call pg 137 [rawT a, rawT b] [rawT a, rawT b] (B (decide ((lst a).map lst = (lst b).map lst)))
theorem t_likeT {pg : Pg} (hp : pg.fn 137 = some c_laws_likeRows5) (h141 : S_likeI pg) : S_likeT pg := by
  intro a b ⟨ha, hr⟩
  refine Call.intro hp rfl (by simp) ?_
  show wp _ _ c_laws_likeRows5.body (post [.t 4] _ _ _) _
  by_cases hl : (lst a).length = (lst b).length
  · simp [c_laws_likeRows5, hl]
    refine wpLoop_count (fun k e => (∀ i, i < k → ((lst a).map lst)[i]? = ((lst b).map lst)[i]?) ∧ e = fr [(0, some (.val (rawT a))), (1, some (.val (rawT b))), (5, some (.val (I k)))]) (lst a).length ?_ ?_ 0 _ (by omega) ?_
    · rintro k e hk ⟨h1, rfl⟩
      have hk2 : k < (lst b).length := by omega
      simp [hk, hk2]
      refine callR (h141 _ _ (hr _ (List.getElem_mem hk))) rfl rfl (fun _ => rfl) ?_
      by_cases hne : lst (lst a)[k] = lst (lst b)[k]
      · simp [hne]
        refine ⟨by omega, fun i hi => ?_⟩
        rcases Nat.lt_or_ge i k with h2 | h2
        · have := h1 i h2
          simpa using this
        · have : i = k := by omega
          subst this
          simp [hk, hk2, hne]
      · simp [hne]
        intro h2
        have h3 := congrArg (fun l => l[k]?) h2
        simp [hk, hk2] at h3
        exact hne h3
    · rintro e ⟨h1, rfl⟩
      simp [hl]
      apply List.ext_getElem?
      intro i
      rcases Nat.lt_or_ge i (lst a).length with h2 | h2
      · exact h1 i h2
      · rw [List.getElem?_eq_none (by simpa using h2), List.getElem?_eq_none (by simp; omega)]
    · exact ⟨fun i hi => by omega, by simp⟩
  · have : (lst a).map lst ≠ (lst b).map lst := fun h => hl (by have := congrArg List.length h; simpa using this)
    have h2 : ((lst a).length : Int) ≠ (lst b).length := by omega
    simp [c_laws_likeRows5, h2, this]

def S_same9 (pg : Pg) : Prop := ∀ a b : Rw (Rw Int), small a → Call pg 178 [rawT a, rawT b] [rawT a, rawT b] (B (decide ((lst a).map lst = (lst b).map lst)))
theorem S_likeI.o {pg : Pg} (h : S_likeI pg) (o o' : Option (List Int)) (hs : (lso o).length ≤ 1048576) : Call pg 141 [rawI (.ofO o), rawI (.ofO o')] [rawI (.ofO o), rawI (.ofO o')] (B (decide (lso o = lso o'))) := by
  have := h (.ofO o) (.ofO o') (by simpa using hs)
  simpa using this
theorem S_likeT.tb {pg : Pg} (h : S_likeT pg) (X Y : List (List Int)) (hs : smallT X) : Call pg 137 [tb X, tb Y] [tb X, tb Y] (B (decide (X = Y))) := by
  have := h (ryT (some X)) (ryT (some Y)) (small_ry hs)
  simp only [rawT_ry, lst_ry] at this
  exact this
theorem S_same9.tb {pg : Pg} (h : S_same9 pg) (X Y : List (List Int)) (hs : smallT X) : Call pg 178 [tb X, tb Y] [tb X, tb Y] (B (decide (X = Y))) := by
  have := h (ryT (some X)) (ryT (some Y)) (small_ry hs)
  simp only [rawT_ry, lst_ry] at this
  exact this
def S_likeS (pg : Pg) : Prop := ∀ X Y Z W : List (List Int), smallT X → smallT Y → Call pg 218 [sol X Y, sol Z W] [sol X Y, sol Z W] (B (decide (X = Z ∧ Y = W)))
set_option maxRecDepth 10000 in
theorem t_likeS {pg : Pg} (hp : pg.fn 218 = some c_laws_likeSolution5) (h137 : S_likeT pg) : S_likeS pg := by
  intro X Y Z W hX hY
  refine Call.intro hp rfl (by simp) ?_
  show wp _ _ c_laws_likeSolution5.body (post [.t 4] _ _ _) _
  simp [c_laws_likeSolution5]
  refine callR (h137.tb X Z hX) rfl rfl (fun _ => rfl) ?_
  by_cases h : X = Z
  · simp [h]
    refine callR (h137.tb Y W hY) rfl rfl (fun _ => rfl) ?_
    simp
  · simp [h, undefV]
def S_top5 (pg : Pg) : Prop := ∀ xs : List Int, xs.length ≤ 1048576 → (∀ x ∈ xs, 0 ≤ x ∧ x ≤ 1048576) → Call pg 219 [ix xs] [ix xs] (I (greatest xs))
theorem t_top5 {pg : Pg} (hp : pg.fn 219 = some c_laws_top5) : S_top5 pg := by
  intro xs hl hx
  refine Call.intro hp rfl (by simp) ?_
  show wp _ _ c_laws_top5.body (post [.t 2] _ _ _) _
  simp [c_laws_top5]
  refine wpLoop_count (fun k e => e = fr [(0, some (.val (ix xs))), (3, some (.val (I (greatest (xs.take k))))), (4, some (.val (I k)))]) xs.length ?_ ?_ 0 _ (by omega) ?_
  · rintro k e hk rfl
    have h1 := hx _ (List.getElem_mem hk)
    have hs := greatest_succ hk
    by_cases hg : greatest (xs.take k) ≤ xs[k]
    · rw [if_pos hg] at hs
      simp [hk, hg, hs]
      omega
    · rw [if_neg hg] at hs
      simp [hk, hg, hs]
      omega
  · rintro e rfl
    simp
  · simp [greatest]
end Go.Mch
namespace Go.Mch
theorem inj_of_sur {N : Nat} {g : Nat → Nat} (hs : ∀ w, w < N → ∃ a, a < N ∧ g a = w) : ∀ a b, a < N → b < N → g a = g b → a = b := by
  have hc : ∀ w, ∃ a, w < N → a < N ∧ g a = w := fun w => by
    by_cases h : w < N
    · obtain ⟨a, h1, h2⟩ := hs w h
      exact ⟨a, fun _ => ⟨h1, h2⟩⟩
    · exact ⟨0, fun h0 => absurd h0 h⟩
  obtain ⟨h, hh⟩ : ∃ h : Nat → Nat, ∀ w, w < N → h w < N ∧ g (h w) = w := ⟨fun w => Classical.choose (hc w), fun w hw => Classical.choose_spec (hc w) hw⟩
  have hsur := surj_of_inj (n := N) (g := h) (fun y hy => (hh y hy).1) (fun y y' h1 h2 he => by
    have e1 := (hh y h1).2
    have e2 := (hh y' h2).2
    rw [he] at e1
    omega)
  intro a b ha hb he
  obtain ⟨a', a1, rfl⟩ := hsur a ha
  obtain ⟨b', b1, rfl⟩ := hsur b hb
  rw [(hh a' a1).2, (hh b' b1).2] at he
  rw [he]
theorem pairN_div {n x y : Nat} (hy : y < n) : (x * n + y) / n = x ∧ (x * n + y) % n = y := by
  have hn : 0 < n := by omega
  refine ⟨?_, ?_⟩
  · rw [Nat.add_comm, Nat.add_mul_div_right _ _ hn, Nat.div_eq_of_lt hy, Nat.zero_add]
  · rw [Nat.add_comm, Nat.add_mul_mod_self_right, Nat.mod_eq_of_lt hy]
theorem pairN_lt {n x y : Nat} (hx : x < n) (hy : y < n) : x * n + y < n * n := by
  have : (x + 1) * n ≤ n * n := Nat.mul_le_mul_right n hx
  have h2 : (x + 1) * n = x * n + n := Nat.succ_mul x n
  omega
theorem pairN_eq {n x y x' y' : Nat} (hy : y < n) (hy' : y' < n) (h : x * n + y = x' * n + y') : x = x' ∧ y = y' := by
  have h1 := pairN_div (x := x) hy
  have h2 := pairN_div (x := x') hy'
  rw [h] at h1
  exact ⟨h1.1.symm.trans h2.1, h1.2.symm.trans h2.2⟩
def ldN (f s : List (List Int)) (a : Nat) : Nat := σN f (a / f.length) (a % f.length) * f.length + τN s (a % f.length) (a / f.length)
theorem ldN_lt {f s : List (List Int)} (h : PM f s) (a : Nat) : ldN f s a < f.length * f.length := pairN_lt (h.v2f _ _).2 (h.v2s _ _).2
theorem inj_ld {f s : List (List Int)} (h : PM f s) : Inj f s ↔ ∀ a b, a < f.length * f.length → b < f.length * f.length → ldN f s a = ldN f s b → a = b := by
  constructor
  · intro hi a b ha hb he
    apply Classical.byContradiction
    intro hne
    obtain ⟨e1, e2⟩ := pairN_eq (h.v2s (a / f.length) (a % f.length)).2 (h.v2s (b / f.length) (b % f.length)).2 he
    have a1 := (h.v2f (a / f.length) (a % f.length)).1
    have a2 := (h.v2f (b / f.length) (b % f.length)).1
    have a3 := (h.v2s (a / f.length) (a % f.length)).1
    have a4 := (h.v2s (b / f.length) (b % f.length)).1
    exact hi a ha b hb ⟨hne, by rw [← a1, ← a2, e1], by rw [← a3, ← a4, e2]⟩
  · intro hi a ha b hb ⟨hne, e1, e2⟩
    refine hne (hi a b ha hb ?_)
    unfold ldN σN τN
    rw [e1, e2]
theorem ret_inj {f s : List (List Int)} (h : Rg f s) (hi : Inj f s) : Inj (retF f s) (retS f s) := by
  have hpm := h.1
  have hr := ret_rg h
  have q := quo_of hpm
  rw [inj_ld hr.1]
  rw [inj_ld hpm] at hi
  have hsur := surj_of_inj (n := f.length * f.length) (g := ldN f s) (fun y _ => ldN_lt hpm y) (fun y y' h1 h2 he => hi y y' h1 h2 he)
  refine inj_of_sur fun w hw => ?_
  rw [retF_length] at hw ⊢
  have hm0 := clM_pos (s := s) hpm.pos
  have hk : w / clM f s < clM f s := Nat.div_lt_of_lt_mul hw
  have hl : w % clM f s < clM f s := Nat.mod_lt _ hm0
  have dk := q.dn _ hk
  have dl := q.dn _ hl
  obtain ⟨a, ha, he⟩ := hsur (clD f s (w / clM f s) * f.length + clD f s (w % clM f s)) (pairN_lt dk dl)
  have hx : a / f.length < f.length := Nat.div_lt_of_lt_mul ha
  have hy : a % f.length < f.length := Nat.mod_lt _ hpm.pos
  obtain ⟨e1, e2⟩ := pairN_eq (hpm.v2s (a / f.length) (a % f.length)).2 dl he
  generalize a / f.length = x at *
  generalize a % f.length = y at *
  have cx := q.cm x hx
  have cy := q.cm y hy
  refine ⟨clC f s x * clM f s + clC f s y, pairN_lt cx cy, ?_⟩
  obtain ⟨p1, p2⟩ := pairN_div (x := clC f s x) cy
  obtain ⟨r1, r2⟩ := ret_at h hx hy
  unfold ldN
  rw [retF_length, p1, p2]
  have s1 : σN (retF f s) (clC f s x) (clC f s y) = w / clM f s := by
    unfold σN; rw [r1, e1, q.cd _ hk, Int.toNat_natCast]
  have s2 : τN (retS f s) (clC f s y) (clC f s x) = w % clM f s := by
    unfold τN; rw [r2, e2, q.cd _ hl, Int.toNat_natCast]
  rw [s1, s2, Nat.mul_comm]
  exact Nat.div_add_mod _ _
theorem ret_isSol {f s : List (List Int)} (h : isReg f s) : isReg (retF f s) (retS f s) := by
  have hr := ret_rg (rg_of h)
  refine ⟨⟨?_, ret_inj (rg_of h) h.1.2.1, hr.2.1⟩, hr.2.2⟩
  have hp := hr.1
  exact ⟨⟨hp.pos, hp.small, hp.tf⟩, ⟨by rw [hp.len]; exact hp.pos, by rw [hp.len]; exact hp.small, hp.ts⟩, hp.len.symm⟩
theorem ret_inv {f s : List (List Int)} (h : Rg f s) (hi : isInv f s) : isInv (retF f s) (retS f s) := by
  have q := quo_of h.1
  intro i hI j hJ
  rw [retF_length] at hI hJ
  have dx := q.dn _ hI
  have dy := q.dn _ hJ
  obtain ⟨r1, r2⟩ := ret_at h dx dy
  rw [q.cd _ hI, q.cd _ hJ] at r1 r2
  have s1 : σN (retF f s) i j = clC f s (σN f (clD f s i) (clD f s j)) := by unfold σN; rw [r1]; simp [σN]
  have s2 : τN (retS f s) j i = clC f s (τN s (clD f s j) (clD f s i)) := by unfold τN; rw [r2]; simp [τN]
  obtain ⟨h1, h2⟩ := hi _ dx _ dy
  obtain ⟨t1, t2⟩ := ret_at h (h.1.v2f (clD f s i) (clD f s j)).2 (h.1.v2s (clD f s i) (clD f s j)).2
  unfold iv
  rw [s1, s2, t1, t2]
  have g1 : σN f (σN f (clD f s i) (clD f s j)) (τN s (clD f s j) (clD f s i)) = clD f s i := by unfold σN at h1 ⊢; rw [h1]; simp
  have g2 : τN s (τN s (clD f s j) (clD f s i)) (σN f (clD f s i) (clD f s j)) = clD f s j := by
    show (v2 s (σN f (clD f s i) (clD f s j)) (τN s (clD f s j) (clD f s i))).toNat = _
    rw [h2]; simp
  rw [g1, g2, q.cd _ hI, q.cd _ hJ]
  exact ⟨rfl, rfl⟩

def S_ndI (pg : Pg) : Prop := ∀ f s : List (List Int), isPairMap f s → Call pg 159 [sol f s] [sol f s] (.tup [B (decide (nonDeg f s)), I 0])
theorem t_ndI {pg : Pg} (hp : pg.fn 159 = some c_impl_IsNondegenerate) (h59 : S_pairMap pg 59) (h285 : S_nonDeg pg 285) : S_ndI pg := by
  intro f s hpm
  have h := PM.of hpm
  have h12 := h.small
  have hfs : fits s := ⟨by have := h.len; omega, fun r hr => by have := (h.ts r hr).1; have := h.len; omega⟩
  refine Call.intro hp rfl (by simp) ?_
  show wp _ _ c_impl_IsNondegenerate.body (post [.t 2, .t 3] _ _ _) _
  simp [c_impl_IsNondegenerate]
  refine callR (h59 f s h.fitsF hfs) rfl rfl (fun _ => rfl) ?_
  simp [hpm]
  refine callR (h285 f s h) rfl rfl (fun _ => rfl) ?_
  simp
def S_ivI (pg : Pg) : Prop := ∀ f s : List (List Int), isPairMap f s → Call pg 160 [sol f s] [sol f s] (.tup [B (dec (isInv f s)), I 0])
theorem t_ivI {pg : Pg} (hp : pg.fn 160 = some c_impl_IsInvolutive) (h59 : S_pairMap pg 59) (h298 : S_twice pg 298) : S_ivI pg := by
  intro f s hpm
  have h := PM.of hpm
  have h12 := h.small
  have hfs : fits s := ⟨by have := h.len; omega, fun r hr => by have := (h.ts r hr).1; have := h.len; omega⟩
  refine Call.intro hp rfl (by simp) ?_
  show wp _ _ c_impl_IsInvolutive.body (post [.t 2, .t 3] _ _ _) _
  simp [c_impl_IsInvolutive]
  refine callR (h59 f s h.fitsF hfs) rfl rfl (fun _ => rfl) ?_
  simp [hpm]
  refine callR (h298 f s h) rfl rfl (fun _ => rfl) ?_
  simp
set_option maxRecDepth 10000 in
theorem t_dRet {pg : Pg} (hp : pg.fn 217 = some c_spec_DrawRetractOf) (h269 : S_from pg) (h268 : S_spl pg 268) : S_drS pg 217 := by
  intro c hc
  obtain ⟨s, hs, hc1⟩ := h269 c hc
  obtain ⟨s1, X, ⟨k1, k2, k3⟩, hc2⟩ := h268 c s 10 hs (by omega) (by omega)
  refine ⟨X, ⟨k2, k3⟩, Call.intro hp rfl (by simp) ?_⟩
  show wp _ _ c_spec_DrawRetractOf.body (post [.cell 2 (some 2)] _ _ _) _
  simp [c_spec_DrawRetractOf]
  refine callR hc1 rfl rfl (fun h => by simp at h) ?_
  simp
  refine callM (ts' := [src c s1, I 10]) (r := ownS X) ?_ ?_ ?_ ?_
  · simp
  · simpa using hc2
  · simp
  simp
end Go.Mch
namespace Go.Mch
def S_likeS0 (pg : Pg) : Prop := Call pg 218 [.agg [nil, nil], .agg [nil, nil]] [.agg [nil, nil], .agg [nil, nil]] (B true)
theorem t_likeS0 {pg : Pg} (hp : pg.fn 218 = some c_laws_likeSolution5) (h137 : S_likeT pg) : S_likeS0 pg := by
  have h0 : Call pg 137 [nil, nil] [nil, nil] (B true) := by
    have := h137 .no .no ⟨by simp, by simp⟩
    simpa [rawT] using this
  refine Call.intro hp rfl (by simp) ?_
  show wp _ _ c_laws_likeSolution5.body (post [.t 4] _ _ _) _
  simp [c_laws_likeSolution5]
  refine callR h0 rfl rfl (fun _ => rfl) ?_
  simp
  refine callR h0 rfl rfl (fun _ => rfl) ?_
  simp
theorem S_likeI.ix {pg : Pg} (h : S_likeI pg) (X Y : List Int) (hs : X.length ≤ 1048576) : Call pg 141 [ix X, ix Y] [ix X, ix Y] (B (decide (X = Y))) := h (.of X) (.of Y) hs
theorem cl_iff {f s : List (List Int)} (h : PM f s) {x y : Nat} (hx : x < f.length) (hy : y < f.length) : clC f s x = clC f s y ↔ (f.getD x [] = f.getD y [] ∧ (turnL s).getD x [] = (turnL s).getD y []) := by
  rw [(quo_of h).ca x y hx hy, ← eqv_alk h hx hy]
  rfl
def S_law107 (pg : Pg) : Prop := ∀ c : Rw Int, okB c → ∃ args', Call pg 107 [rawB c] args' (B true)
set_option maxHeartbeats 2000000 in
set_option maxRecDepth 20000 in
theorem t_law107 {pg : Pg} (hp : pg.fn 107 = some c_laws_FnRetracts) (h128 : S_big pg) (h217 : S_drS pg 217) (h187 : S_ro pg 187) (h186 : S_ro pg 186) (h218 : S_likeS pg) (h218z : S_likeS0 pg) (h163 : S_alike pg 163) (h135 : S_lambda pg 135) (h127 : S_rho pg 127) (h159 : S_ndI pg) (h160 : S_ivI pg) (h219 : S_top5 pg) (h42 : S_isSol pg 42) (h141 : S_likeI pg) : S_law107 pg := by
  intro c hc
  obtain ⟨X, ⟨hX1, hX2⟩, hd⟩ := h217 c hc
  obtain ⟨f, s⟩ := X
  have hf : fits f := ⟨by have := hX1.1; simp only at this; omega, fun r hr => by have := hX1.2 r hr; omega⟩
  have hs : fits s := ⟨by have := hX2.1; simp only at this; omega, fun r hr => by have := hX2.2 r hr; omega⟩
  refine ⟨[rawB c], Call.intro hp rfl (by simp) ?_⟩
  show wp _ _ c_laws_FnRetracts.body (post [.t 2] _ _ _) _
  simp [c_laws_FnRetracts]
  refine callR (h128 c) rfl rfl (fun _ => rfl) ?_
  by_cases hbig : (4096 : Int) < (lst c).length
  · simp [hbig]
  · simp [hbig]
    refine callR hd rfl rfl (fun _ => by simp) ?_
    have hc1 := h187 f s hf hs
    have hc2 := h186 f s hf hs
    by_cases h : isReg f s
    · have hrg := rg_of h
      have hpm := PM.of h.1.1
      have h12 := hpm.small
      have h0 := hpm.pos
      have hrr := ret_isSol h
      have hFl := retF_length f s
      have hSl := retS_length f s
      have hm := clM_le f s
      have hm0 := clM_pos (s := s) h0
      have hFf : fits (retF f s) := ⟨by omega, fun r hr => by rw [tabL_row hr]; omega⟩
      have hSf : fits (retS f s) := ⟨by omega, fun r hr => by rw [tabL_row hr]; omega⟩
      have hro : roR f s = some (retF f s, retS f s) := if_pos h
      simp only [hro, solT, onReg_true h] at hc1 hc2
      have hlk := h218 (retF f s) (retS f s) (retF f s) (retS f s) hFf hSf
      obtain ⟨oL, eL, hc3⟩ := h163 f s hf hs
      obtain ⟨oA, eA, hc4⟩ := h135 f s hf hs
      obtain ⟨oB, eB, hc5⟩ := h127 f s hf hs
      simp only [onReg_true h] at hc3 hc4 hc5 eL eA eB
      have hll : (classes f s).length = f.length := classes_length f s
      obtain rfl : oL = some (classes f s) := by
        cases oL with
        | none => simp only [lso_none] at eL; rw [← eL] at hll; simp at hll; omega
        | some l => simp only [lso_some] at eL; rw [eL]
      obtain rfl : oA = some f := by
        cases oA with
        | none => simp only [lso_none] at eA; rw [← eA] at h0; simp at h0
        | some l => simp only [lso_some] at eA; rw [eA]
      have htl : (turnL s).length = f.length := by rw [turnL_length, hpm.len]
      obtain rfl : oB = some (turnL s) := by
        cases oB with
        | none => simp only [lso_none] at eB; rw [← eB] at htl; simp at htl; omega
        | some l => simp only [lso_some] at eB; rw [eB]
      simp only [ownI, ownT] at hc3 hc4 hc5
      have hc6 := h159 (retF f s) (retS f s) hrr.1.1
      have hc7 := h160 f s h.1.1
      have hc8 := h160 (retF f s) (retS f s) hrr.1.1
      have hcl : ∀ x (hx : x < (classes f s).length), (classes f s)[x] = (clC f s x : Int) := fun x hx => by
        have := (clC_int (f := f) (s := s) (x := x) (by omega)).1
        rw [this, List.getD_eq_getElem?_getD, List.getElem?_eq_getElem hx]; rfl
      have hcm : ∀ x, x < f.length → clC f s x < clM f s := fun x hx => (quo_of hpm).cm x hx
      have hgr : ∀ x ∈ classes f s, 0 ≤ x ∧ x ≤ 1048576 := fun x hx => by
        obtain ⟨i, hi, rfl⟩ := List.getElem_of_mem hx
        have := hcl i hi
        have := hcm i (by omega)
        omega
      have hc9 := h219 (classes f s) (by omega) hgr
      rw [greatest_classes] at hc9
      have hc10 := h42 (retF f s) (retS f s) hFf hSf
      simp only [dec_true hrr.1, decide_eq_true hrr.2] at hc10 hc6
      have hiv : dec (isInv f s) = true → dec (isInv (retF f s) (retS f s)) = true := fun hi => by
        by_cases hh : isInv f s
        · exact dec_true (ret_inv hrg hh)
        · rw [dec_false hh] at hi; cases hi
      have hiff := fun {x y : Nat} hx hy => cl_iff hpm (x := x) (y := y) hx hy
      have hrat := fun {a b : Nat} ha hb => ret_at hrg (a := a) (b := b) ha hb
      have htF := hrr.1.1.1.2.2
      have htS := hrr.1.1.2.1.2.2
      generalize dec (isInv f s) = i1 at *
      generalize dec (isInv (retF f s) (retS f s)) = i2 at *
      generalize retF f s = F at *
      generalize retS f s = S at *
      simp
      refine callR hc1 rfl rfl (fun _ => by simp) ?_
      simp
      refine callR hc2 rfl rfl (fun _ => by simp) ?_
      simp
      refine callR hlk rfl rfl (fun _ => rfl) ?_
      simp
      refine callR hc3 rfl rfl (fun _ => by simp) ?_
      simp
      refine callR hc4 rfl rfl (fun _ => by simp) ?_
      simp
      refine callR hc5 rfl rfl (fun _ => by simp) ?_
      simp
      refine callR hc6 rfl rfl (fun _ => rfl) ?_
      simp
      refine callR hc7 rfl rfl (fun _ => rfl) ?_
      simp
      refine callR hc8 rfl rfl (fun _ => rfl) ?_
      simp [hll, htl]
      refine callR hc9 rfl rfl (fun _ => rfl) ?_
      simp [hFl]
      refine callR hc10 rfl rfl (fun _ => rfl) ?_
      cases i1 with
      | true =>
        rw [hiv rfl]
        simp
        refine wpLoop_count (fun x e => e = fr [(3, some (.val (.mem .own none [ownTb f, ownTb s]))), (4, some (.val (.mem .own none [ownTb F, ownTb S]))), (8, some (.val (ownL (classes f s)))), (10, some (.val (ownTb f))), (12, some (.val (ownTb (turnL s)))), (20, some (.val (I x)))]) f.length ?_ ?_ 0 _ (by omega) rfl
        · rintro x e hx rfl
          simp [hx, hll]
          refine wpLoop_count (fun y e => e = fr [(3, some (.val (.mem .own none [ownTb f, ownTb s]))), (4, some (.val (.mem .own none [ownTb F, ownTb S]))), (8, some (.val (ownL (classes f s)))), (10, some (.val (ownTb f))), (12, some (.val (ownTb (turnL s)))), (20, some (.val (I x))), (21, some (.val (I y)))]) f.length ?_ ?_ 0 _ (by omega) rfl
          · rintro y e hy rfl
            have xL : x < (classes f s).length := by omega
            have yL : y < (classes f s).length := by omega
            have xT : x < (turnL s).length := by omega
            have yT : y < (turnL s).length := by omega
            have xs : x < s.length := by rw [hpm.len]; exact hx
            have eX := hcl x xL
            have eY := hcl y yL
            have hcx := hcm x hx
            have hcy := hcm y hy
            have hrow := hpm.tf.row hx
            have hrow2 := hpm.ts.row xs
            have hlt1 : (f[x]).length ≤ 1048576 := by omega
            have hlt2 : ((turnL s)[x]).length ≤ 1048576 := by rw [tabL_row (List.getElem_mem xT)]; have := hpm.len; omega
            have c1 := h141.ix f[x] f[y] hlt1
            have c2 := h141.ix (turnL s)[x] (turnL s)[y] hlt2
            have hi := hiff hx hy
            have g1 : f.getD x [] = f[x] := by simp [hx]
            have g2 : f.getD y [] = f[y] := by simp [hy]
            have g3 : (turnL s).getD x [] = (turnL s)[x] := by rw [List.getD_eq_getElem?_getD, List.getElem?_eq_getElem xT]; rfl
            have g4 : (turnL s).getD y [] = (turnL s)[y] := by rw [List.getD_eq_getElem?_getD, List.getElem?_eq_getElem yT]; rfl
            rw [g1, g2, g3, g4] at hi
            clear g1 g2 g3 g4
            obtain ⟨r1, r2⟩ := hrat hx hy
            obtain ⟨p1, p2⟩ := hpm.v2f x y
            obtain ⟨q1, q2⟩ := hpm.v2s x y
            have yf : y < (f[x]).length := by omega
            have ys : y < (s[x]).length := by rw [hrow2, hpm.len]; exact hy
            have w1 : (f[x])[y] = (σN f x y : Int) := by rw [get_v2 hx yf, p1]
            have w2 : (s[x])[y] = (τN s y x : Int) := by rw [get_v2 xs ys, q1]
            have pL : σN f x y < (classes f s).length := by omega
            have qL : τN s y x < (classes f s).length := by omega
            have e3 := hcl _ pL
            have e4 := hcl _ qL
            have hFx : clC f s x < F.length := by omega
            have hSx : clC f s x < S.length := by omega
            have hFr := htF.row hFx
            have hSr := htS.row hSx
            have hFy : clC f s y < (F[clC f s x]).length := by omega
            have hSy : clC f s y < (S[clC f s x]).length := by omega
            have w3 := get_v2 hFx hFy
            have w4 := get_v2 hSx hSy
            rw [r1] at w3
            rw [r2] at w4
            have hsl := hpm.len
            have hTr : ∀ (i : Nat) (h : i < (turnL s).length), ((turnL s)[i]).length = f.length := fun i h => by rw [tabL_row (List.getElem_mem h)]; exact hsl
            have hxs2 : x < s.length := xs
            have nx : ¬ ((clC f s x : Nat) : Int) < 0 := by omega
            have ny : ¬ ((clC f s y : Nat) : Int) < 0 := by omega
            have ys' : y < s.length := by omega
            generalize clC f s x = cx at *
            generalize clC f s y = cy at *
            by_cases k1 : f[x] = f[y]
            · by_cases k2 : (turnL s)[x] = (turnL s)[y]
              · have hee := hi.2 ⟨k1, k2⟩
                subst hee
                simp [hx, hy, hll, eX, eY, hrow]
                refine callR c1 rfl rfl (fun _ => rfl) ?_
                simp [hx, hy, htl, k1]
                refine callR c2 rfl rfl (fun _ => rfl) ?_
                simp [hx, hy, hll, hFl, hSl, xs, eX, eY, e3, e4, hcx, w1, w2, w3, w4, p2, q2, hFr, hSr, hrow, hrow2, nx, ys', k2]
                omega
              · have hee : ¬ cx = cy := fun hh => k2 (hi.1 hh).2
                have hei : ¬ (cx : Int) = cy := by omega
                simp [hx, hy, hll, eX, eY, hrow]
                refine callR c1 rfl rfl (fun _ => rfl) ?_
                simp [hx, hy, htl, k1]
                refine callR c2 rfl rfl (fun _ => rfl) ?_
                simp [hx, hy, hll, hFl, hSl, xs, eX, eY, e3, e4, hcx, hcy, w1, w2, w3, w4, p2, q2, hFr, hSr, hrow, hrow2, nx, ny, ys', k2, hei]
                omega
            · have hee : ¬ cx = cy := fun hh => k1 (hi.1 hh).1
              have hei : ¬ (cx : Int) = cy := by omega
              simp [hx, hy, hll, eX, eY, hrow]
              refine callR c1 rfl rfl (fun _ => rfl) ?_
              simp [hx, hy, hll, hFl, hSl, xs, eX, eY, e3, e4, hcx, hcy, w1, w2, w3, w4, p2, q2, hFr, hSr, hrow, hrow2, nx, ny, ys', k1, hei, undefV]
              omega
          · rintro e rfl
            simp [hll]
            omega
        · rintro e rfl
          simp [hll]
      | false =>
        simp [undefV]
        refine wpLoop_count (fun x e => e = fr [(3, some (.val (.mem .own none [ownTb f, ownTb s]))), (4, some (.val (.mem .own none [ownTb F, ownTb S]))), (8, some (.val (ownL (classes f s)))), (10, some (.val (ownTb f))), (12, some (.val (ownTb (turnL s)))), (20, some (.val (I x)))]) f.length ?_ ?_ 0 _ (by omega) rfl
        · rintro x e hx rfl
          simp [hx, hll]
          refine wpLoop_count (fun y e => e = fr [(3, some (.val (.mem .own none [ownTb f, ownTb s]))), (4, some (.val (.mem .own none [ownTb F, ownTb S]))), (8, some (.val (ownL (classes f s)))), (10, some (.val (ownTb f))), (12, some (.val (ownTb (turnL s)))), (20, some (.val (I x))), (21, some (.val (I y)))]) f.length ?_ ?_ 0 _ (by omega) rfl
          · rintro y e hy rfl
            have xL : x < (classes f s).length := by omega
            have yL : y < (classes f s).length := by omega
            have xT : x < (turnL s).length := by omega
            have yT : y < (turnL s).length := by omega
            have xs : x < s.length := by rw [hpm.len]; exact hx
            have eX := hcl x xL
            have eY := hcl y yL
            have hcx := hcm x hx
            have hcy := hcm y hy
            have hrow := hpm.tf.row hx
            have hrow2 := hpm.ts.row xs
            have hlt1 : (f[x]).length ≤ 1048576 := by omega
            have hlt2 : ((turnL s)[x]).length ≤ 1048576 := by rw [tabL_row (List.getElem_mem xT)]; have := hpm.len; omega
            have c1 := h141.ix f[x] f[y] hlt1
            have c2 := h141.ix (turnL s)[x] (turnL s)[y] hlt2
            have hi := hiff hx hy
            have g1 : f.getD x [] = f[x] := by simp [hx]
            have g2 : f.getD y [] = f[y] := by simp [hy]
            have g3 : (turnL s).getD x [] = (turnL s)[x] := by rw [List.getD_eq_getElem?_getD, List.getElem?_eq_getElem xT]; rfl
            have g4 : (turnL s).getD y [] = (turnL s)[y] := by rw [List.getD_eq_getElem?_getD, List.getElem?_eq_getElem yT]; rfl
            rw [g1, g2, g3, g4] at hi
            clear g1 g2 g3 g4
            obtain ⟨r1, r2⟩ := hrat hx hy
            obtain ⟨p1, p2⟩ := hpm.v2f x y
            obtain ⟨q1, q2⟩ := hpm.v2s x y
            have yf : y < (f[x]).length := by omega
            have ys : y < (s[x]).length := by rw [hrow2, hpm.len]; exact hy
            have w1 : (f[x])[y] = (σN f x y : Int) := by rw [get_v2 hx yf, p1]
            have w2 : (s[x])[y] = (τN s y x : Int) := by rw [get_v2 xs ys, q1]
            have pL : σN f x y < (classes f s).length := by omega
            have qL : τN s y x < (classes f s).length := by omega
            have e3 := hcl _ pL
            have e4 := hcl _ qL
            have hFx : clC f s x < F.length := by omega
            have hSx : clC f s x < S.length := by omega
            have hFr := htF.row hFx
            have hSr := htS.row hSx
            have hFy : clC f s y < (F[clC f s x]).length := by omega
            have hSy : clC f s y < (S[clC f s x]).length := by omega
            have w3 := get_v2 hFx hFy
            have w4 := get_v2 hSx hSy
            rw [r1] at w3
            rw [r2] at w4
            have hsl := hpm.len
            have hTr : ∀ (i : Nat) (h : i < (turnL s).length), ((turnL s)[i]).length = f.length := fun i h => by rw [tabL_row (List.getElem_mem h)]; exact hsl
            have hxs2 : x < s.length := xs
            have nx : ¬ ((clC f s x : Nat) : Int) < 0 := by omega
            have ny : ¬ ((clC f s y : Nat) : Int) < 0 := by omega
            have ys' : y < s.length := by omega
            generalize clC f s x = cx at *
            generalize clC f s y = cy at *
            by_cases k1 : f[x] = f[y]
            · by_cases k2 : (turnL s)[x] = (turnL s)[y]
              · have hee := hi.2 ⟨k1, k2⟩
                subst hee
                simp [hx, hy, hll, eX, eY, hrow]
                refine callR c1 rfl rfl (fun _ => rfl) ?_
                simp [hx, hy, htl, k1]
                refine callR c2 rfl rfl (fun _ => rfl) ?_
                simp [hx, hy, hll, hFl, hSl, xs, eX, eY, e3, e4, hcx, w1, w2, w3, w4, p2, q2, hFr, hSr, hrow, hrow2, nx, ys', k2]
                omega
              · have hee : ¬ cx = cy := fun hh => k2 (hi.1 hh).2
                have hei : ¬ (cx : Int) = cy := by omega
                simp [hx, hy, hll, eX, eY, hrow]
                refine callR c1 rfl rfl (fun _ => rfl) ?_
                simp [hx, hy, htl, k1]
                refine callR c2 rfl rfl (fun _ => rfl) ?_
                simp [hx, hy, hll, hFl, hSl, xs, eX, eY, e3, e4, hcx, hcy, w1, w2, w3, w4, p2, q2, hFr, hSr, hrow, hrow2, nx, ny, ys', k2, hei]
                omega
            · have hee : ¬ cx = cy := fun hh => k1 (hi.1 hh).1
              have hei : ¬ (cx : Int) = cy := by omega
              simp [hx, hy, hll, eX, eY, hrow]
              refine callR c1 rfl rfl (fun _ => rfl) ?_
              simp [hx, hy, hll, hFl, hSl, xs, eX, eY, e3, e4, hcx, hcy, w1, w2, w3, w4, p2, q2, hFr, hSr, hrow, hrow2, nx, ny, ys', k1, hei, undefV]
              omega
          · rintro e rfl
            simp [hll]
            omega
        · rintro e rfl
          simp [hll]
    · have hro : roR f s = none := if_neg h
      simp only [hro, solT, onReg_false h] at hc1 hc2
      simp
      refine callR hc1 rfl rfl (fun _ => by simp) ?_
      simp
      refine callR hc2 rfl rfl (fun _ => by simp) ?_
      simp
      refine callR h218z rfl rfl (fun _ => rfl) ?_
      simp
end Go.Mch
