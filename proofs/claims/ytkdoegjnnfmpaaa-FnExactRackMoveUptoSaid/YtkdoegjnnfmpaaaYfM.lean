/- Racks, as the reference and the program test them. -/
import Derived.Test.YtkdoegjnnfmpaaaYfL
namespace Go.Mch

/-- Left distributive at three numbers. -/
def sdAt (t : List (List Int)) (x y z : Nat) : Prop := v2 t x (v2 t y z).toNat = v2 t (v2 t x y).toNat (v2 t x z).toNat
instance (t : List (List Int)) (x y z : Nat) : Decidable (sdAt t x y z) := by unfold sdAt; infer_instance
def SD (t : List (List Int)) : Prop := ∀ x y z : Nat, x < t.length → y < t.length → z < t.length → sdAt t x y z
theorem rfault (t : List (List Int)) : ∃ (a b c : Nat) (o : Option (List Int)), (o = none ↔ SD t) ∧ (a < t.length → o = some [(a : Int), b, c] ∧ b < t.length ∧ c < t.length ∧ ¬ sdAt t a b c) ∧ (¬ a < t.length → a = t.length ∧ o = none) ∧
    ∀ x y z, x < t.length → y < t.length → z < t.length → ¬ sdAt t x y z → a < x ∨ (a = x ∧ (b < y ∨ (b = y ∧ c ≤ z))) := by
  rcases first3 (fun x y z => ¬ sdAt t x y z) t.length with h | ⟨a, b, c, ha, hb, hc, hp, h⟩
  · refine ⟨t.length, 0, 0, none, ⟨fun _ x y z hx hy hz => ?_, fun _ => rfl⟩, fun h => absurd h (Nat.lt_irrefl _), fun _ => ⟨rfl, rfl⟩, fun x y z hx hy hz hn => absurd hn (h x y z hx hy hz)⟩
    exact Decidable.of_not_not (h x y z hx hy hz)
  · exact ⟨a, b, c, some [(a : Int), b, c], ⟨fun h => by simp at h, fun h => absurd (h a b c ha hb hc) hp⟩, fun _ => ⟨rfl, hb, hc, hp⟩, fun h => absurd ha h, h⟩
def S_rackFault (pg : Pg) (n : Nat) : Prop := ∀ t : List (List Int), Tab t → 0 < t.length → t.length ≤ 12 → ∃ o : Option (List Int), (o = none ↔ SD t) ∧ (∀ l, o = some l → l.length = 3) ∧ Call pg n [tb t] [tb t] (ownI o)

set_option maxRecDepth 10000 in
theorem t_rf48 {pg : Pg} (hp : pg.fn 48 = some c_spec_l03Fault) : S_rackFault pg 48 := by
  intro t h hpos h12
  obtain ⟨a, b, c, o, hl, hf1, hf2, hmin⟩ := rfault t
  have fr' := fun x hx => h.row (x := x) hx
  have hF0 : ∀ i j, 0 ≤ v2 t i j := h.nonneg
  have hF1 : ∀ i j, v2 t i j < t.length := h.lt hpos
  have hF2 : ∀ i j, (v2 t i j).toNat < t.length := h.ltN hpos
  have h3 : ∀ l, o = some l → l.length = 3 := fun l hl => by
    by_cases ha : a < t.length
    · have := (hf1 ha).1
      rw [hl] at this
      cases this
      rfl
    · have := (hf2 ha).2
      rw [hl] at this
      cases this
  refine ⟨o, hl, h3, Call.intro hp rfl (by simp) ?_⟩
  show wp _ _ c_spec_l03Fault.body (post [.t 2] _ _ _) _
  simp [c_spec_l03Fault]
  refine wpLoop_count (fun x e => x ≤ a ∧ e = fr [(0, some (.val (tb t))), (3, some (.val (I t.length))), (4, some (.val (I x)))]) t.length ?_ ?_ 0 _ (by omega) ?_
  · rintro x e hx ⟨hxa, rfl⟩
    simp [hx]
    refine wpLoop_count (fun y e => (x = a → y ≤ b) ∧ e = fr [(0, some (.val (tb t))), (3, some (.val (I t.length))), (4, some (.val (I x))), (5, some (.val (I y)))]) t.length ?_ ?_ 0 _ (by omega) ?_
    · rintro y e hy ⟨hyb, rfl⟩
      simp [hy]
      refine wpLoop_count (fun z e => (x = a → y = b → z ≤ c) ∧ e = fr [(0, some (.val (tb t))), (3, some (.val (I t.length))), (4, some (.val (I x))), (5, some (.val (I y))), (6, some (.val (I z)))]) t.length ?_ ?_ 0 _ (by omega) ?_
      · rintro z e hz ⟨hzc, rfl⟩
        by_cases e1 : sdAt t x y z
        · have e2 := e1
          unfold sdAt at e2
          simp [hx, hy, hz, fr', get_v2, hF0, hF1, hF2, e2]
          have : ¬ (x = a ∧ y = b ∧ z = c) := fun ⟨g1, g2, g3⟩ => by
            subst g1 g2 g3
            exact (hf1 hx).2.2.2 e1
          omega
        · have := hmin x y z hx hy hz e1
          have g1 : x = a := by omega
          subst g1
          have g2 : y = b := by have := hyb rfl; omega
          subst g2
          have g3 : z = c := by have := hzc rfl rfl; omega
          subst g3
          have e2 := e1
          unfold sdAt at e2
          simp [hx, hy, hz, fr', get_v2, hF0, hF1, hF2, e2, (hf1 hx).1, ownI]
      · rintro e ⟨hzc, rfl⟩
        simp
        have : ¬ (x = a ∧ y = b) := fun ⟨e1, e2⟩ => by
          have := hzc e1 e2
          have := (hf1 (by omega)).2.2.1
          omega
        omega
      · simp
    · rintro e ⟨hyb, rfl⟩
      simp
      have : ¬ x = a := fun e1 => by
        have := hyb e1
        have := (hf1 (by omega)).2.1
        omega
      omega
    · simp
  · rintro e ⟨h1, rfl⟩
    simp [(hf2 (by omega)).2, ownI]
  · simp


set_option maxRecDepth 10000 in
theorem t_rf52 {pg : Pg} (hp : pg.fn 52 = some c_impl_rackFault) : S_rackFault pg 52 := by
  intro t h hpos h12
  obtain ⟨a, b, c, o, hl, hf1, hf2, hmin⟩ := rfault t
  have fr' := fun x hx => h.row (x := x) hx
  have hF0 : ∀ i j, 0 ≤ v2 t i j := h.nonneg
  have hF1 : ∀ i j, v2 t i j < t.length := h.lt hpos
  have hF2 : ∀ i j, (v2 t i j).toNat < t.length := h.ltN hpos
  have h3 : ∀ l, o = some l → l.length = 3 := fun l hl => by
    by_cases ha : a < t.length
    · have := (hf1 ha).1
      rw [hl] at this
      cases this
      rfl
    · have := (hf2 ha).2
      rw [hl] at this
      cases this
  refine ⟨o, hl, h3, Call.intro hp rfl (by simp) ?_⟩
  show wp _ _ c_impl_rackFault.body (post [.t 2] _ _ _) _
  simp [c_impl_rackFault]
  refine wpLoop_count (fun x e => x ≤ a ∧ e = fr [(0, some (.val (tb t))), (3, some (.val (I t.length))), (9, some (.val (I t.length))), (10, some (.val (I x)))]) t.length ?_ ?_ 0 _ (by omega) ?_
  · rintro x e hx ⟨hxa, rfl⟩
    simp [hx]
    refine wpLoop_count (fun y e => (x = a → y ≤ b) ∧ e = fr [(0, some (.val (tb t))), (3, some (.val (I t.length))), (4, some (.val (I x))), (9, some (.val (I t.length))), (10, some (.val (I x))), (13, some (.val (I t.length))), (14, some (.val (I y)))]) t.length ?_ ?_ 0 _ (by omega) ?_
    · rintro y e hy ⟨hyb, rfl⟩
      simp [hy]
      refine wpLoop_count (fun z e => (x = a → y = b → z ≤ c) ∧ e = fr [(0, some (.val (tb t))), (3, some (.val (I t.length))), (4, some (.val (I x))), (5, some (.val (I y))), (9, some (.val (I t.length))), (10, some (.val (I x))), (13, some (.val (I t.length))), (14, some (.val (I y))), (17, some (.val (I t.length))), (18, some (.val (I z)))]) t.length ?_ ?_ 0 _ (by omega) ?_
      · rintro z e hz ⟨hzc, rfl⟩
        by_cases e1 : sdAt t x y z
        · have e2 := e1
          unfold sdAt at e2
          simp [hx, hy, hz, fr', get_v2, hF0, hF1, hF2, e2]
          have : ¬ (x = a ∧ y = b ∧ z = c) := fun ⟨g1, g2, g3⟩ => by
            subst g1 g2 g3
            exact (hf1 hx).2.2.2 e1
          omega
        · have := hmin x y z hx hy hz e1
          have g1 : x = a := by omega
          subst g1
          have g2 : y = b := by have := hyb rfl; omega
          subst g2
          have g3 : z = c := by have := hzc rfl rfl; omega
          subst g3
          have e2 := e1
          unfold sdAt at e2
          simp [hx, hy, hz, fr', get_v2, hF0, hF1, hF2, e2, (hf1 hx).1, ownI]
      · rintro e ⟨hzc, rfl⟩
        simp
        have : ¬ (x = a ∧ y = b) := fun ⟨e1, e2⟩ => by
          have := hzc e1 e2
          have := (hf1 (by omega)).2.2.1
          omega
        omega
      · simp
    · rintro e ⟨hyb, rfl⟩
      simp
      have : ¬ x = a := fun e1 => by
        have := hyb e1
        have := (hf1 (by omega)).2.1
        omega
      omega
    · simp
  · rintro e ⟨h1, rfl⟩
    simp [(hf2 (by omega)).2, ownI]
  · simp

def isRk (t : List (List Int)) : Prop := isTable t ∧ permRows t ∧ SD t
abbrev rk (t : List (List Int)) : T := .agg [tb t]
def S_isRk (pg : Pg) (n : Nat) : Prop := ∀ t : List (List Int), fits t → Call pg n [rk t] [rk t] (B (dec (isRk t)))
theorem t_l03Is {pg : Pg} (hp : pg.fn 28 = some c_spec_l03Is) (h46 : S_table pg 46) (h47 : S_perm pg 47) (h48 : S_rackFault pg 48) : S_isRk pg 28 := by
  intro t hf
  refine Call.intro hp rfl (by simp) ?_
  show wp _ _ c_spec_l03Is.body (post [.t 2] _ _ _) _
  simp [c_spec_l03Is]
  refine callR (h46 t hf.1 hf.2) rfl rfl (fun _ => rfl) ?_
  by_cases h1 : isTable t
  · have h12 := h1.2.1
    have hpp : ∀ r ∈ t, isPerm r ↔ isPermuted r := fun r hr => by
      have h2 := h1.2.2 r hr
      exact perm_permuted (by have := h1.1; omega) (by have := h1.2.1; omega) (fun x hx => by have := h2.2 x hx; omega)
    simp [h1]
    refine wpLoop_count (fun k e => (∀ i (h : i < t.length), i < k → isPermuted t[i]) ∧ e = fr [(1, some (.val (.mem .own none [tb t]))), (3, some (.val (I k)))]) t.length ?_ ?_ 0 _ (by omega) ?_
    · rintro k e hk ⟨h2, rfl⟩
      simp [hk]
      refine callR (h47 t[k] (hf.2 _ (List.getElem_mem hk))) rfl rfl (fun _ => rfl) ?_
      by_cases h3 : isPerm t[k]
      · have h4 := (hpp _ (List.getElem_mem hk)).1 h3
        simp [h3]
        refine ⟨by omega, fun i hi hik => ?_⟩
        rcases Nat.lt_or_ge i k with h5 | h5
        · exact h2 i hi h5
        · have : i = k := by omega
          subst this; exact h4
      · have h4 : ¬ isRk t := fun hh => h3 ((hpp _ (List.getElem_mem hk)).2 (hh.2.1 _ (List.getElem_mem hk)))
        simp [h3, dec_false h4]
    · rintro e ⟨h2, rfl⟩
      have hpr : permRows t := fun r hr => by
        obtain ⟨i, hi, rfl⟩ := List.getElem_of_mem hr
        exact h2 i hi hi
      obtain ⟨o, ho, ho3, hc⟩ := h48 t h1.2.2 h1.1 h1.2.1
      simp
      refine callR hc rfl rfl (fun _ => by cases o <;> simp [ownI]) ?_
      by_cases h5 : SD t
      · have h6 := ho.2 h5
        subst h6
        simp [ownI, dec_true (show isRk t from ⟨h1, hpr, h5⟩)]
      · cases o with
        | none => exact absurd (ho.1 rfl) h5
        | some l =>
          have h6 : ¬ ((l.length : Nat) : Int) = 0 := by have := ho3 l rfl; omega
          have h7 : ¬ l.length = 0 := by have := ho3 l rfl; omega
          simp [ownI, h7, dec_false (show ¬ isRk t from fun h => h5 h.2.2)]
    · simp
  · simp [h1, dec_false (show ¬ isRk t from fun h => h1 h.1)]

theorem t_IsRack {pg : Pg} (hp : pg.fn 33 = some c_impl_IsRack) (h50 : S_table pg 50) (h51 : S_permRows pg) (h52 : S_rackFault pg 52) : S_isRk pg 33 := by
  intro t hf
  refine Call.intro hp rfl (by simp) ?_
  show wp _ _ c_impl_IsRack.body (post [.t 2] _ _ _) _
  simp [c_impl_IsRack]
  refine callR (h50 t hf.1 hf.2) rfl rfl (fun _ => rfl) ?_
  by_cases h1 : isTable t
  · simp [h1]
    refine callR (h51 t hf.1 hf.2) rfl rfl (fun _ => rfl) ?_
    by_cases h2 : permRows t
    · obtain ⟨o, ho, ho3, hc⟩ := h52 t h1.2.2 h1.1 h1.2.1
      simp [h2]
      refine callR hc rfl rfl (fun _ => by cases o <;> simp [ownI]) ?_
      by_cases h5 : SD t
      · have h6 := ho.2 h5
        subst h6
        simp [ownI, dec_true (show isRk t from ⟨h1, h2, h5⟩)]
      · cases o with
        | none => exact absurd (ho.1 rfl) h5
        | some l => simp [ownI, dec_false (show ¬ isRk t from fun h => h5 h.2.2)]
    · simp [h2, undefV, dec_false (show ¬ isRk t from fun h => h2 h.2.1)]
  · simp [h1, undefV, dec_false (show ¬ isRk t from fun h => h1 h.1)]
end Go.Mch
