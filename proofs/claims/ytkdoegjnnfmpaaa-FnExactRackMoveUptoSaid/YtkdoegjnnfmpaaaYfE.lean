/- Tables and pair maps as the program and the reference see them. -/
import Derived.Test.YtkdoegjnnfmpaaaYfD
namespace Go.Mch

def S_isTable1 (pg : Pg) : Prop := ∀ (r : List Int) (n : Int), r.length ≤ 1048576 → 0 ≤ n → n ≤ 1048576 → Call pg 64 [ix r, .mem .old none [I n]] [ix r, .mem .old none [I n]] (B (decide ((r.length : Int) ≠ n ∨ ¬ inR 0 (n - 1) r)))
theorem t_isTable1 {pg : Pg} (hp : pg.fn 64 = some c_impl_IsTable_1) (h54 : S_allWithin pg) : S_isTable1 pg := by
  intro r n hl h1 h2
  refine Call.intro hp rfl (by simp) ?_
  show wp _ _ c_impl_IsTable_1.body (post [.t 3] _ _ _) _
  by_cases hn : (r.length : Int) = n
  · simp [c_impl_IsTable_1, hn]
    refine ⟨by omega, ?_⟩
    refine callR (h54 _ _ _ hl) rfl rfl (fun _ => rfl) ?_
    by_cases hr : inR 0 (n - 1) r <;> simp [hr]
  · simp [c_impl_IsTable_1, hn, undefV]

theorem t_isTable {pg : Pg} (hp : pg.fn 50 = some c_impl_IsTable) (h35 : S_in pg 35) (h64 : S_isTable1 pg) (h63 : S_containsFunc pg) : S_table pg 50 := by
  intro t hl hr
  refine Call.intro hp rfl (by simp) ?_
  show wp _ _ c_impl_IsTable.body (post [.t 2] _ _ _) _
  simp [c_impl_IsTable]
  refine callR (h35 _ 1 12) rfl rfl (fun _ => rfl) ?_
  by_cases hn : 1 ≤ t.length ∧ t.length ≤ 12
  · have hn' : (1 : Int) ≤ t.length ∧ (t.length : Int) ≤ 12 := by omega
    simp [hn']
    refine callR (h63 t (fun r => decide ((r.length : Int) ≠ t.length ∨ ¬ inR 0 ((t.length : Int) - 1) r)) 64 [.mem .old none [I t.length]] hl rfl rfl (fun r hm => h64 r _ (hr r hm) (by omega) (by omega))) rfl rfl (fun _ => rfl) ?_
    simp
    by_cases ht : isTable t
    · simp [ht]
      intro r hm
      have := ht.2.2 r hm
      exact ⟨by omega, fun v hv => by have := this.2 v hv; omega⟩
    · simp [ht]
      rcases Classical.em (∃ x, x ∈ t ∧ (¬ ((x.length : Nat) : Int) = t.length ∨ ¬ inR 0 ((t.length : Int) - 1) x)) with h | h
      · exact h
      · exfalso
        refine ht ⟨hn.1, hn.2, fun r hm => ?_⟩
        have h1 : ((r.length : Nat) : Int) = t.length ∧ inR 0 ((t.length : Int) - 1) r := by
          refine Classical.byContradiction fun h2 => h ⟨r, hm, ?_⟩
          rcases Classical.em (((r.length : Nat) : Int) = t.length) with h3 | h3
          · exact .inr fun h4 => h2 ⟨h3, h4⟩
          · exact .inl h3
        exact ⟨by omega, fun v hv => by have := h1.2 v hv; omega⟩
  · have hvd : ¬ isTable t := fun ht => hn ⟨ht.1, ht.2.1⟩
    have hn' : ¬ ((1 : Int) ≤ t.length ∧ (t.length : Int) ≤ 12) := by omega
    simp [hn', hvd, undefV]

def S_permRows1 (pg : Pg) : Prop := ∀ r : List Int, r.length ≤ 1048576 → Call pg 65 [ix r] [ix r] (B (!decide (isPermuted r)))
theorem t_permRows1 {pg : Pg} (hp : pg.fn 65 = some c_impl_permutationRows_1) (h66 : S_isPermuted pg) : S_permRows1 pg := by
  intro r hl
  refine Call.intro hp rfl (by simp) ?_
  show wp _ _ c_impl_permutationRows_1.body (post [.t 2] _ _ _) _
  simp [c_impl_permutationRows_1]
  refine callR (h66 _ hl) rfl rfl (fun _ => rfl) ?_
  simp

def permRows (t : List (List Int)) : Prop := ∀ r ∈ t, isPermuted r
instance (t : List (List Int)) : Decidable (permRows t) := by unfold permRows; infer_instance

def S_permRows (pg : Pg) : Prop := ∀ t : List (List Int), t.length ≤ 1048576 → (∀ r ∈ t, r.length ≤ 1048576) → Call pg 51 [tb t] [tb t] (B (decide (permRows t)))
theorem t_permRows {pg : Pg} (hp : pg.fn 51 = some c_impl_permutationRows) (h65 : S_permRows1 pg) (h63 : S_containsFunc pg) : S_permRows pg := by
  intro t hl hr
  refine Call.intro hp rfl (by simp) ?_
  show wp _ _ c_impl_permutationRows.body (post [.t 2] _ _ _) _
  simp [c_impl_permutationRows]
  refine callR (h63 t (fun r => !decide (isPermuted r)) 65 [] hl rfl rfl (fun r hm => h65 r (hr r hm))) rfl rfl (fun _ => rfl) ?_
  simp only [permRows]
  cases h : t.any fun r => !decide (isPermuted r) with
  | true =>
    obtain ⟨r, h1, h2⟩ := List.any_eq_true.1 h
    have : ¬ ∀ r, r ∈ t → isPermuted r := fun hh => by simp [hh r h1] at h2
    simp [this]
  | false =>
    have : ∀ r, r ∈ t → isPermuted r := fun r hr => by
      have := List.any_eq_false.1 h r hr
      simpa using this
    simp
    exact decide_eq_true this

def S_same (pg : Pg) : Prop := ∀ a b : List Int, a.length ≤ 1048576 → Call pg 67 [ix a, ix b] [ix a, ix b] (B (decide (a = b)))
theorem t_same {pg : Pg} (hp : pg.fn 67 = some c_spec_l01Same) : S_same pg := by
  intro a b ha
  refine Call.intro hp rfl (by simp) ?_
  show wp _ _ c_spec_l01Same.body (post [.t 4] _ _ _) _
  by_cases hl : a.length = b.length
  · simp [c_spec_l01Same, hl]
    refine wpLoop_count (fun k e => (∀ i, i < k → a[i]? = b[i]?) ∧ e = fr [(0, some (.val (ix a))), (1, some (.val (ix b))), (5, some (.val (I k)))]) a.length ?_ ?_ 0 _ (by omega) ?_
    · rintro k e hk ⟨h1, rfl⟩
      have hk2 : k < b.length := by omega
      by_cases hne : a[k] = b[k]
      · simp [hk, hk2, hne]
        refine ⟨by omega, fun i hi => ?_⟩
        rcases Nat.lt_or_ge i k with h2 | h2
        · exact h1 i h2
        · have : i = k := by omega
          subst this
          rw [List.getElem?_eq_getElem hk, List.getElem?_eq_getElem hk2, hne]
      · simp [hk, hk2, hne]
        intro h2
        exact hne (by simp [h2])
    · rintro e ⟨h1, rfl⟩
      simp [hl]
      apply List.ext_getElem?
      intro i
      rcases Nat.lt_or_ge i a.length with h2 | h2
      · exact h1 i h2
      · rw [List.getElem?_eq_none h2, List.getElem?_eq_none (by omega)]
    · exact ⟨fun i hi => by omega, by simp⟩
  · have : a ≠ b := fun h => hl (by rw [h])
    have h2 : (a.length : Int) ≠ b.length := by omega
    simp [c_spec_l01Same, h2, this]

/-! ### Pair maps -/

abbrev sol (f s : List (List Int)) : T := .agg [tb f, tb s]
def isPairMap (f s : List (List Int)) : Prop := isTable f ∧ isTable s ∧ f.length = s.length
instance (f s : List (List Int)) : Decidable (isPairMap f s) := by unfold isPairMap; infer_instance

def fits (t : List (List Int)) : Prop := t.length ≤ 1048576 ∧ ∀ r ∈ t, r.length ≤ 1048576

def S_pairMap (pg : Pg) (n : Nat) : Prop := ∀ f s : List (List Int), fits f → fits s → Call pg n [sol f s] [sol f s] (B (decide (isPairMap f s)))
theorem t_l02Map {pg : Pg} (hp : pg.fn 56 = some c_spec_l02Map) (h46 : S_table pg 46) : S_pairMap pg 56 := by
  intro f s hf hs
  refine Call.intro hp rfl (by simp) ?_
  show wp _ _ c_spec_l02Map.body (post [.t 2] _ _ _) _
  simp [c_spec_l02Map]
  refine callR (h46 _ hf.1 hf.2) rfl rfl (fun _ => rfl) ?_
  by_cases h1 : isTable f
  · simp [h1]
    refine callR (h46 _ hs.1 hs.2) rfl rfl (fun _ => rfl) ?_
    by_cases h2 : isTable s
    · simp [h2, isPairMap, h1]
      omega
    · simp [h2, isPairMap, undefV]
  · simp [h1, isPairMap, undefV]
theorem t_isPairMap {pg : Pg} (hp : pg.fn 59 = some c_impl_IsPairMap) (h50 : S_table pg 50) : S_pairMap pg 59 := by
  intro f s hf hs
  refine Call.intro hp rfl (by simp) ?_
  show wp _ _ c_impl_IsPairMap.body (post [.t 2] _ _ _) _
  simp [c_impl_IsPairMap]
  refine callR (h50 _ hf.1 hf.2) rfl rfl (fun _ => rfl) ?_
  by_cases h1 : isTable f
  · simp [h1]
    refine callR (h50 _ hs.1 hs.2) rfl rfl (fun _ => rfl) ?_
    by_cases h2 : isTable s
    · simp [h2, isPairMap, h1]
      omega
    · simp [h2, isPairMap, undefV]
  · simp [h1, isPairMap, undefV]

/-! ### Values of tables -/

/-- The value of a table at places. -/
def v2 (t : List (List Int)) (x y : Nat) : Int := (t.getD x []).getD y 0
theorem get_v2 {t : List (List Int)} {x y : Nat} (hx : x < t.length) (hy : y < (t[x]).length) : (t[x])[y] = v2 t x y := by
  simp [v2, List.getD_eq_getElem?_getD, hx, hy]
theorem Tab.row {t : List (List Int)} (h : Tab t) {x : Nat} (hx : x < t.length) : (t[x]).length = t.length := (h _ (List.getElem_mem hx)).1
theorem Tab.nonneg {t : List (List Int)} (h : Tab t) (x y : Nat) : 0 ≤ v2 t x y := by
  unfold v2
  rw [List.getD_eq_getElem?_getD, List.getD_eq_getElem?_getD]
  cases h1 : t[x]? with
  | none => simp
  | some r =>
    simp only [Option.getD_some]
    cases h2 : r[y]? with
    | none => simp
    | some v => exact ((h r (List.mem_of_getElem? h1)).2 v (List.mem_of_getElem? h2)).1
theorem Tab.lt {t : List (List Int)} (h : Tab t) (h0 : 0 < t.length) (x y : Nat) : v2 t x y < t.length := by
  unfold v2
  rw [List.getD_eq_getElem?_getD, List.getD_eq_getElem?_getD]
  cases h1 : t[x]? with
  | none => simp; omega
  | some r =>
    simp only [Option.getD_some]
    cases h2 : r[y]? with
    | none => simp; omega
    | some v => exact ((h r (List.mem_of_getElem? h1)).2 v (List.mem_of_getElem? h2)).2
theorem Tab.ltN {t : List (List Int)} (h : Tab t) (h0 : 0 < t.length) (x y : Nat) : (v2 t x y).toNat < t.length := by
  have := h.lt h0 x y
  have := h.nonneg x y
  omega

@[simp] theorem tdiv_nat (a b : Nat) : (a : Int).tdiv (b : Int) = ((a / b : Nat) : Int) := rfl
@[simp] theorem tmod_nat (a b : Nat) : (a : Int).tmod (b : Int) = ((a % b : Nat) : Int) := rfl

theorem least {P : Nat → Prop} {m : Nat} (h : ∃ k, k < m ∧ P k) : ∃ k, k < m ∧ P k ∧ ∀ i, i < k → ¬ P i := by
  obtain ⟨k, h1, h2⟩ := h
  induction k using Nat.strongRecOn with
  | _ k ih =>
    by_cases hh : ∃ i, i < k ∧ P i
    · obtain ⟨i, h3, h4⟩ := hh
      exact ih i h3 (by omega) h4
    · exact ⟨k, h1, h2, fun i hi hp => hh ⟨i, hi, hp⟩⟩

end Go.Mch
