/- The first functions of the program and of the reference: ranges, places in lists, tables, permutations. -/
import Derived.Test.YtkdoegjnnfmpaaaYfA
namespace Go.Mch

def S_in (pg : Pg) (f : Nat) : Prop := ∀ n lo hi : Int, Call pg f [I n, I lo, I hi] [I n, I lo, I hi] (B (decide (lo ≤ n ∧ n ≤ hi)))
theorem t_l01In {pg : Pg} (hp : pg.fn 30 = some c_spec_l01In) : S_in pg 30 := by
  intro n lo hi
  refine Call.intro hp rfl (by simp) ?_
  show wp _ _ c_spec_l01In.body (post [.t 6] _ _ _) _
  by_cases h1 : lo ≤ n
  · by_cases h2 : n ≤ hi <;> simp [c_spec_l01In, h1, h2]
  · simp [c_spec_l01In, h1, undefV]
theorem t_within {pg : Pg} (hp : pg.fn 35 = some c_impl_within) : S_in pg 35 := by
  intro n lo hi
  refine Call.intro hp rfl (by simp) ?_
  show wp _ _ c_impl_within.body (post [.t 6] _ _ _) _
  by_cases h1 : lo ≤ n
  · by_cases h2 : n ≤ hi <;> simp [c_impl_within, h1, h2]
  · simp [c_impl_within, h1, undefV]

def S_own (pg : Pg) : Prop := ∀ xs : List Int, xs.length ≤ 1048576 → Call pg 31 [ix xs] [ix xs] (.mem .own (some 1) (xs.map I))
theorem t_own {pg : Pg} (hp : pg.fn 31 = some c_spec_l01Own) : S_own pg := by
  intro xs hl
  refine Call.intro hp rfl (by simp) ?_
  show wp _ _ c_spec_l01Own.body (post [.t 2] _ _ _) _
  simp [c_spec_l01Own, roomy]
  omega

/-- The first place of a number in a list, or -1. -/
def ixOf : List Int → Int → Int
  | [], _ => -1
  | x :: xs, n => if x = n then 0 else if ixOf xs n < 0 then -1 else ixOf xs n + 1
theorem ixOf_le : ∀ (xs : List Int) (n : Int), -1 ≤ ixOf xs n ∧ ixOf xs n < xs.length
  | [], n => by simp [ixOf]
  | x :: xs, n => by
    have := ixOf_le xs n
    unfold ixOf
    simp only [List.length_cons]
    split
    · omega
    · split <;> omega
theorem ixOf_mem : ∀ (xs : List Int) (n : Int), 0 ≤ ixOf xs n ↔ n ∈ xs
  | [], n => by simp [ixOf]
  | x :: xs, n => by
    have := ixOf_mem xs n
    have h2 := ixOf_le xs n
    unfold ixOf
    by_cases h : x = n
    · subst h; simp
    · rw [if_neg h]
      split
      · rename_i h3
        simp only [List.mem_cons]
        constructor
        · intro h4; omega
        · intro h4
          rcases h4 with h4 | h4
          · exact (h h4.symm).elim
          · have := this.2 h4; omega
      · rename_i h3
        simp only [List.mem_cons]
        exact ⟨fun _ => .inr (this.1 (by omega)), fun _ => by omega⟩
/-- Found behind k places that do not have it. -/
theorem ixOf_at : ∀ {xs : List Int} {n : Int} {k : Nat} (hk : k < xs.length), (∀ i (h : i < k), xs[i] ≠ n) → xs[k] = n → ixOf xs n = k
  | x :: xs, n, 0, _, _, h => by simp at h; simp [ixOf, h]
  | x :: xs, n, k + 1, hk, h1, h2 => by
    have h0 := h1 0 (by omega)
    simp only [List.getElem_cons_zero] at h0
    have := ixOf_at (xs := xs) (n := n) (k := k) (by simpa using hk) (fun i hi => by
      have := h1 (i + 1) (by omega)
      simpa using this) (by simpa using h2)
    unfold ixOf
    rw [if_neg h0, this, if_neg (by omega)]
    omega
theorem ixOf_none {xs : List Int} {n : Int} (h : ∀ i (h : i < xs.length), xs[i] ≠ n) : ixOf xs n = -1 := by
  have h1 := ixOf_le xs n
  have h2 : ¬ 0 ≤ ixOf xs n := fun hh => by
    obtain ⟨i, hi, he⟩ := List.getElem_of_mem ((ixOf_mem xs n).1 hh)
    exact h i hi he
  omega

def S_index (pg : Pg) : Prop := ∀ (xs : List Int) (n : Int), xs.length ≤ 1048576 → Call pg 69 [ix xs, I n] [ix xs, I n] (I (ixOf xs n))
theorem t_index {pg : Pg} (hp : pg.fn 69 = some c_spec_l01Index) : S_index pg := by
  intro xs n hl
  refine Call.intro hp rfl (by simp) ?_
  show wp _ _ c_spec_l01Index.body (post [.t 4] _ _ _) _
  simp [c_spec_l01Index]
  refine wpLoop_count (fun k e => (∀ i (h : i < xs.length), i < k → xs[i] ≠ n) ∧ e = fr [(0, some (.val (ix xs))), (1, some (.val (I n))), (5, some (.val (I k)))]) xs.length ?_ ?_ 0 _ (by omega) ?_
  · rintro k e hk ⟨h1, rfl⟩
    by_cases hx : xs[k] = n
    · simp [hk, hx]
      exact (ixOf_at hk (fun i hi => h1 i (by omega) hi) hx).symm
    · simp [hk, hx]
      refine ⟨by omega, fun i hi hik => ?_⟩
      rcases Nat.lt_or_ge i k with h2 | h2
      · exact h1 i hi h2
      · have : i = k := by omega
        subst this; exact hx
  · rintro e ⟨h1, rfl⟩
    simp
    exact (ixOf_none fun i hi => h1 i hi hi).symm
  · simp

def S_has (pg : Pg) : Prop := ∀ (xs : List Int) (n : Int), xs.length ≤ 1048576 → Call pg 62 [ix xs, I n] [ix xs, I n] (B (decide (n ∈ xs)))
theorem t_has {pg : Pg} (hp : pg.fn 62 = some c_spec_l01Has) (h69 : S_index pg) : S_has pg := by
  intro xs n hl
  refine Call.intro hp rfl (by simp) ?_
  show wp _ _ c_spec_l01Has.body (post [.t 4] _ _ _) _
  simp [c_spec_l01Has]
  refine callR (h69 xs n hl) rfl rfl (fun _ => rfl) ?_
  simp [ixOf_mem]

/-! ### Tables -/

/-- A square table of its own places. -/
def Tab (t : List (List Int)) : Prop := ∀ r ∈ t, r.length = t.length ∧ ∀ v ∈ r, 0 ≤ v ∧ v < t.length

def isTable (t : List (List Int)) : Prop := 1 ≤ t.length ∧ t.length ≤ 12 ∧ Tab t

instance (t : List (List Int)) : Decidable (Tab t) := by unfold Tab; infer_instance
instance (t : List (List Int)) : Decidable (isTable t) := by unfold isTable; infer_instance

def S_table (pg : Pg) (f : Nat) : Prop := ∀ t : List (List Int), t.length ≤ 1048576 → (∀ r ∈ t, r.length ≤ 1048576) → Call pg f [tb t] [tb t] (B (decide (isTable t)))

theorem tbL_get {t : List (List Int)} {k : Nat} (h : k < t.length) : (tbL t)[k]? = some (ix t[k]) := by simp [tbL, h]
@[simp] theorem tbL_getElem {t : List (List Int)} {k : Nat} (h : k < (tbL t).length) : (tbL t)[k] = ix (t[k]'(by simpa using h)) := by simp [tbL]

theorem t_l01Table {pg : Pg} (hp : pg.fn 46 = some c_spec_l01Table) (h30 : S_in pg 30) : S_table pg 46 := by
  intro t hl hr
  refine Call.intro hp rfl (by simp) ?_
  show wp _ _ c_spec_l01Table.body (post [.t 2] _ _ _) _
  simp [c_spec_l01Table]
  refine callR (h30 _ 1 12) rfl rfl (fun _ => rfl) ?_
  by_cases hn : 1 ≤ t.length ∧ t.length ≤ 12
  · have hn' : (1 : Int) ≤ t.length ∧ (t.length : Int) ≤ 12 := by omega
    simp [hn']
    refine wpLoop_count (fun k e => (∀ i (h : i < t.length), i < k → t[i].length = t.length ∧ ∀ v ∈ t[i], 0 ≤ v ∧ v < t.length) ∧ e = fr [(0, some (.val (tb t))), (3, some (.val (I t.length))), (4, some (.val (I k)))]) t.length ?_ ?_ 0 _ (by omega) ?_
    · rintro k e hk ⟨h1, rfl⟩
      by_cases hlen : t[k].length = t.length
      · simp [hk, hlen]
        refine wpLoop_count (fun j e => (∀ i (h : i < t[k].length), i < j → 0 ≤ t[k][i] ∧ t[k][i] < t.length) ∧ e = fr [(0, some (.val (tb t))), (3, some (.val (I t.length))), (4, some (.val (I k))), (5, some (.val (I j)))]) t.length ?_ ?_ 0 _ (by omega) ?_
        · rintro j e hj ⟨h2, rfl⟩
          have hj2 : j < t[k].length := by omega
          simp [hk, hj, hj2]
          refine ⟨by omega, ?_⟩
          refine callR (h30 _ 0 _) rfl rfl (fun _ => rfl) ?_
          by_cases hv : 0 ≤ t[k][j] ∧ t[k][j] ≤ (t.length : Int) - 1
          · simp [hv]
            refine ⟨by omega, fun i hi hij => ?_⟩
            rcases Nat.lt_or_ge i j with h3 | h3
            · exact h2 i hi h3
            · have : i = j := by omega
              subst this; omega
          · have hvd : ¬ isTable t := fun ht => hv (by
              have := (ht.2.2 t[k] (List.getElem_mem hk)).2 t[k][j] (List.getElem_mem hj2)
              omega)
            simp [hv, hvd]
        · rintro e ⟨h2, rfl⟩
          simp
          refine ⟨by omega, fun i hi hik => ?_⟩
          rcases Nat.lt_or_ge i k with h3 | h3
          · exact h1 i hi h3
          · have : i = k := by omega
            subst this
            refine ⟨hlen, fun v hv => ?_⟩
            obtain ⟨j, hj, rfl⟩ := List.getElem_of_mem hv
            exact h2 j hj (by omega)
        · simp
      · have hvd : ¬ isTable t := fun ht => hlen (ht.2.2 t[k] (List.getElem_mem hk)).1
        have hne : ((t[k].length : Nat) : Int) ≠ t.length := by omega
        simp [hk, hne, hvd]
    · rintro e ⟨h1, rfl⟩
      have : isTable t := ⟨hn.1, hn.2, fun r hr => by
        obtain ⟨i, hi, rfl⟩ := List.getElem_of_mem hr
        exact h1 i hi hi⟩
      simp [this]
    · simp
  · have hvd : ¬ isTable t := fun ht => hn ⟨ht.1, ht.2.1⟩
    have hn' : ¬ ((1 : Int) ≤ t.length ∧ (t.length : Int) ≤ 12) := by omega
    simp [hn', hvd]

end Go.Mch
