/- Pair maps that are bijections and satisfy the equation. -/
import Derived.Test.YtkdoegjnnfmpaaaYfE
import Derived.Test.YtkdoegjnnfmpaaaYfB
namespace Go.Mch

/-- Two pairs, by number, that are led to the same one. -/
def coll (f s : List (List Int)) (a b : Nat) : Prop :=
  a ≠ b ∧ v2 f (a / f.length) (a % f.length) = v2 f (b / f.length) (b % f.length) ∧ v2 s (a / f.length) (a % f.length) = v2 s (b / f.length) (b % f.length)
def Inj (f s : List (List Int)) : Prop := ∀ a, a < f.length * f.length → ∀ b, b < f.length * f.length → ¬ coll f s a b
instance (f s : List (List Int)) (a b : Nat) : Decidable (coll f s a b) := by unfold coll; infer_instance
instance (f s : List (List Int)) : Decidable (Inj f s) := by unfold Inj; infer_instance

/-- What a pair map of tables has. -/
structure PM (f s : List (List Int)) : Prop where
  tf : Tab f
  ts : Tab s
  len : s.length = f.length
  pos : 0 < f.length
  small : f.length ≤ 12
theorem PM.of {f s : List (List Int)} (h : isPairMap f s) : PM f s := ⟨h.1.2.2, h.2.1.2.2, h.2.2.symm, h.1.1, h.1.2.1⟩

theorem dm_lt {n a : Nat} (h : a < n * n) : a / n < n ∧ a % n < n := by
  have hn : 0 < n := by
    rcases Nat.eq_zero_or_pos n with h0 | h0
    · subst h0; simp at h
    · exact h0
  exact ⟨Nat.div_lt_of_lt_mul h, Nat.mod_lt _ hn⟩

def S_coll57 (pg : Pg) : Prop := ∀ f s : List (List Int), PM f s → ∃ l : List Int, (l.length = 0 ↔ Inj f s) ∧ l.length ≤ 4 ∧ Call pg 57 [sol f s] [sol f s] (.mem .own (some 1) (l.map I))
set_option maxRecDepth 10000 in
theorem t_coll57 {pg : Pg} (hp : pg.fn 57 = some c_spec_l02Collision) : S_coll57 pg := by
  intro f s h
  have h0 := h.pos
  have h12 := h.small
  have h0' : f.length ≠ 0 := by omega
  have hsq : f.length * f.length ≤ 144 := Nat.mul_le_mul h12 h12
  have hsq' : ((f.length : Int) * f.length) ≤ 144 := by exact_mod_cast hsq
  have hsq0 : 0 ≤ ((f.length : Int) * f.length) := by exact_mod_cast Nat.zero_le _
  have fr' := fun x hx => h.tf.row (x := x) hx
  have sr' : ∀ x (hx : x < s.length), (s[x]).length = f.length := fun x hx => (h.ts.row hx).trans h.len
  have loop : ∀ (a b : Nat), a < f.length * f.length → b < f.length * f.length → coll f s a b → True := fun _ _ _ _ _ => trivial
  by_cases hex : ∃ a, a < f.length * f.length ∧ ∃ b, b < f.length * f.length ∧ coll f s a b
  · obtain ⟨a, ha, hb, hmin⟩ := least hex
    obtain ⟨b, hb, hc, hmin2⟩ := least hb
    have hni : ¬ Inj f s := fun hi => hi a ha b hb hc
    refine ⟨[((a / f.length : Nat) : Int), ((a % f.length : Nat) : Int), ((b / f.length : Nat) : Int), ((b % f.length : Nat) : Int)], by simp [hni], by simp, Call.intro hp rfl (by simp) ?_⟩
    show wp _ _ c_spec_l02Collision.body (post [.t 2] _ _ _) _
    simp [c_spec_l02Collision]
    refine wpLoop_count (fun k e => k ≤ a ∧ e = fr [(1, some (.val (.mem .own none [tb f, tb s]))), (3, some (.val (I f.length))), (4, some (.val (I k)))]) (f.length * f.length) ?_ ?_ 0 _ (by omega) ?_
    · rintro k e hk ⟨h1, rfl⟩
      have hk1 := dm_lt hk
      have hki : (k : Int) < (f.length : Int) * f.length := by exact_mod_cast hk
      have hq1 : 0 ≤ (k : Int) / f.length ∧ (k : Int) / f.length < f.length := ⟨by exact_mod_cast Nat.zero_le _, by exact_mod_cast hk1.1⟩
      have hr1 : 0 ≤ (k : Int) % f.length ∧ (k : Int) % f.length < f.length := ⟨by exact_mod_cast Nat.zero_le _, by exact_mod_cast hk1.2⟩
      have ht1 : ((k : Int) / f.length).toNat = k / f.length := by rw [← Int.natCast_ediv]; exact Int.toNat_natCast _
      have hu1 : ((k : Int) % f.length).toNat = k % f.length := by rw [← Int.natCast_emod]; exact Int.toNat_natCast _
      simp [hki]
      refine ⟨by omega, ?_⟩
      rcases Nat.lt_or_ge k a with hka | hka
      · refine wpLoop_count (fun j e => e = fr [(1, some (.val (.mem .own none [tb f, tb s]))), (3, some (.val (I f.length))), (4, some (.val (I k))), (5, some (.val (I j)))]) (f.length * f.length) ?_ ?_ 0 _ (by omega) ?_
        · rintro j e hj rfl
          have hj1 := dm_lt hj
          have hji : (j : Int) < (f.length : Int) * f.length := by exact_mod_cast hj
          have hq2 : 0 ≤ (j : Int) / f.length ∧ (j : Int) / f.length < f.length := ⟨by exact_mod_cast Nat.zero_le _, by exact_mod_cast hj1.1⟩
          have hr2 : 0 ≤ (j : Int) % f.length ∧ (j : Int) % f.length < f.length := ⟨by exact_mod_cast Nat.zero_le _, by exact_mod_cast hj1.2⟩
          have ht2 : ((j : Int) / f.length).toNat = j / f.length := by rw [← Int.natCast_ediv]; exact Int.toNat_natCast _
          have hu2 : ((j : Int) % f.length).toNat = j % f.length := by rw [← Int.natCast_emod]; exact Int.toNat_natCast _
          have hnc : ¬ coll f s k j := fun hcc => hmin k hka ⟨j, hj, hcc⟩
          by_cases hkj : k = j
          · subst hkj
            clear hj hj1 hnc
            simp [hji, h0', undefV]
            omega
          · have hkjI : (k : Int) ≠ j := by omega
            by_cases hv1 : v2 f (k / f.length) (k % f.length) = v2 f (j / f.length) (j % f.length)
            · by_cases hv2 : v2 s (k / f.length) (k % f.length) = v2 s (j / f.length) (j % f.length)
              · have hcc : coll f s k j := ⟨hkj, hv1, hv2⟩
                exact (hnc hcc).elim
              · simp [hkjI, hk1, hj1, hq1, hq2, hr1, hr2, ht1, ht2, hu1, hu2, hji, h0', fr', sr', h.len, get_v2, hv1, hv2]
                omega
            · simp [hkjI, hk1, hj1, hq1, hq2, hr1, hr2, ht1, ht2, hu1, hu2, hji, h0', fr', get_v2, undefV, hv1]
              omega
        · rintro e rfl
          simp
          omega
        · simp
      · have hka2 : k = a := by omega
        subst hka2
        refine wpLoop_count (fun j e => j ≤ b ∧ e = fr [(1, some (.val (.mem .own none [tb f, tb s]))), (3, some (.val (I f.length))), (4, some (.val (I k))), (5, some (.val (I j)))]) (f.length * f.length) ?_ ?_ 0 _ (by omega) ?_
        · rintro j e hj ⟨hjb, rfl⟩
          have hj1 := dm_lt hj
          have hji : (j : Int) < (f.length : Int) * f.length := by exact_mod_cast hj
          have hq2 : 0 ≤ (j : Int) / f.length ∧ (j : Int) / f.length < f.length := ⟨by exact_mod_cast Nat.zero_le _, by exact_mod_cast hj1.1⟩
          have hr2 : 0 ≤ (j : Int) % f.length ∧ (j : Int) % f.length < f.length := ⟨by exact_mod_cast Nat.zero_le _, by exact_mod_cast hj1.2⟩
          have ht2 : ((j : Int) / f.length).toNat = j / f.length := by rw [← Int.natCast_ediv]; exact Int.toNat_natCast _
          have hu2 : ((j : Int) % f.length).toNat = j % f.length := by rw [← Int.natCast_emod]; exact Int.toNat_natCast _
          rcases Nat.lt_or_ge j b with hlt | hge
          · have hnc : ¬ coll f s k j := hmin2 j hlt
            by_cases hkj : k = j
            · subst hkj
              clear hj hj1 hnc
              simp [hji, h0', undefV]
              omega
            · have hkjI : (k : Int) ≠ j := by omega
              by_cases hv1 : v2 f (k / f.length) (k % f.length) = v2 f (j / f.length) (j % f.length)
              · by_cases hv2 : v2 s (k / f.length) (k % f.length) = v2 s (j / f.length) (j % f.length)
                · have hcc : coll f s k j := ⟨hkj, hv1, hv2⟩
                  exact (hnc hcc).elim
                · simp [hkjI, hk1, hj1, hq1, hq2, hr1, hr2, ht1, ht2, hu1, hu2, hji, h0', fr', sr', h.len, get_v2, hv1, hv2]
                  omega
              · simp [hkjI, hk1, hj1, hq1, hq2, hr1, hr2, ht1, ht2, hu1, hu2, hji, h0', fr', get_v2, undefV, hv1]
                omega
          · have hjb2 : j = b := by omega
            subst hjb2
            obtain ⟨hkj, hv1, hv2⟩ := hc
            have hkjI : (k : Int) ≠ j := by omega
            simp [hkjI, hk1, hj1, hq1, hq2, hr1, hr2, ht1, ht2, hu1, hu2, hji, h0', fr', sr', h.len, get_v2, hv1, hv2]
            try omega
        · rintro e ⟨h1, rfl⟩
          omega
        · simp
    · rintro e ⟨h1, rfl⟩
      omega
    · simp
  · have hi : Inj f s := fun a ha b hb hc => hex ⟨a, ha, b, hb, hc⟩
    refine ⟨[], by simp [hi], by simp, Call.intro hp rfl (by simp) ?_⟩
    show wp _ _ c_spec_l02Collision.body (post [.t 2] _ _ _) _
    simp [c_spec_l02Collision]
    refine wpLoop_count (fun k e => e = fr [(1, some (.val (.mem .own none [tb f, tb s]))), (3, some (.val (I f.length))), (4, some (.val (I k)))]) (f.length * f.length) ?_ ?_ 0 _ (by omega) ?_
    · rintro k e hk rfl
      have hk1 := dm_lt hk
      have hki : (k : Int) < (f.length : Int) * f.length := by exact_mod_cast hk
      have hq1 : 0 ≤ (k : Int) / f.length ∧ (k : Int) / f.length < f.length := ⟨by exact_mod_cast Nat.zero_le _, by exact_mod_cast hk1.1⟩
      have hr1 : 0 ≤ (k : Int) % f.length ∧ (k : Int) % f.length < f.length := ⟨by exact_mod_cast Nat.zero_le _, by exact_mod_cast hk1.2⟩
      have ht1 : ((k : Int) / f.length).toNat = k / f.length := by rw [← Int.natCast_ediv]; exact Int.toNat_natCast _
      have hu1 : ((k : Int) % f.length).toNat = k % f.length := by rw [← Int.natCast_emod]; exact Int.toNat_natCast _
      simp [hki]
      refine ⟨by omega, ?_⟩
      refine wpLoop_count (fun j e => e = fr [(1, some (.val (.mem .own none [tb f, tb s]))), (3, some (.val (I f.length))), (4, some (.val (I k))), (5, some (.val (I j)))]) (f.length * f.length) ?_ ?_ 0 _ (by omega) ?_
      · rintro j e hj rfl
        have hj1 := dm_lt hj
        have hji : (j : Int) < (f.length : Int) * f.length := by exact_mod_cast hj
        have hq2 : 0 ≤ (j : Int) / f.length ∧ (j : Int) / f.length < f.length := ⟨by exact_mod_cast Nat.zero_le _, by exact_mod_cast hj1.1⟩
        have hr2 : 0 ≤ (j : Int) % f.length ∧ (j : Int) % f.length < f.length := ⟨by exact_mod_cast Nat.zero_le _, by exact_mod_cast hj1.2⟩
        have ht2 : ((j : Int) / f.length).toNat = j / f.length := by rw [← Int.natCast_ediv]; exact Int.toNat_natCast _
        have hu2 : ((j : Int) % f.length).toNat = j % f.length := by rw [← Int.natCast_emod]; exact Int.toNat_natCast _
        have hnc : ¬ coll f s k j := hi k hk j hj
        by_cases hkj : k = j
        · subst hkj
          clear hj hj1 hnc
          simp [hji, h0', undefV]
          omega
        · have hkjI : (k : Int) ≠ j := by omega
          by_cases hv1 : v2 f (k / f.length) (k % f.length) = v2 f (j / f.length) (j % f.length)
          · by_cases hv2 : v2 s (k / f.length) (k % f.length) = v2 s (j / f.length) (j % f.length)
            · have hcc : coll f s k j := ⟨hkj, hv1, hv2⟩
              exact (hnc hcc).elim
            · simp [hkjI, hk1, hj1, hq1, hq2, hr1, hr2, ht1, ht2, hu1, hu2, hji, h0', fr', sr', h.len, get_v2, hv1, hv2]
              omega
          · simp [hkjI, hk1, hj1, hq1, hq2, hr1, hr2, ht1, ht2, hu1, hu2, hji, h0', fr', get_v2, undefV, hv1]
            omega
      · rintro e rfl
        simp
        omega
      · simp
    · rintro e rfl
      simp
      try omega
    · simp

def S_coll60 (pg : Pg) : Prop := ∀ f s : List (List Int), PM f s → ∃ o : Option (List Int), (o = none ↔ Inj f s) ∧ Call pg 60 [sol f s] [sol f s] (ownI o)
set_option maxRecDepth 10000 in
theorem t_coll60 {pg : Pg} (hp : pg.fn 60 = some c_impl_collisionOf) : S_coll60 pg := by
  intro f s h
  have h0 := h.pos
  have h12 := h.small
  have h0' : f.length ≠ 0 := by omega
  have hsq : f.length * f.length ≤ 144 := Nat.mul_le_mul h12 h12
  have hsq' : ((f.length : Int) * f.length) ≤ 144 := by exact_mod_cast hsq
  have hsq0 : 0 ≤ ((f.length : Int) * f.length) := by exact_mod_cast Nat.zero_le _
  have fr' := fun x hx => h.tf.row (x := x) hx
  have sr' : ∀ x (hx : x < s.length), (s[x]).length = f.length := fun x hx => (h.ts.row hx).trans h.len
  have loop : ∀ (a b : Nat), a < f.length * f.length → b < f.length * f.length → coll f s a b → True := fun _ _ _ _ _ => trivial
  by_cases hex : ∃ a, a < f.length * f.length ∧ ∃ b, b < f.length * f.length ∧ coll f s a b
  · obtain ⟨a, ha, hb, hmin⟩ := least hex
    obtain ⟨b, hb, hc, hmin2⟩ := least hb
    have hni : ¬ Inj f s := fun hi => hi a ha b hb hc
    refine ⟨some [((a / f.length : Nat) : Int), ((a % f.length : Nat) : Int), ((b / f.length : Nat) : Int), ((b % f.length : Nat) : Int)], by simp [hni], Call.intro hp rfl (by simp) ?_⟩
    simp only [ownI]
    show wp _ _ c_impl_collisionOf.body (post [.t 2] _ _ _) _
    simp [c_impl_collisionOf]
    refine ⟨by omega, ?_⟩
    refine wpLoop_count (fun k e => k ≤ a ∧ e = fr [(1, some (.val (.mem .own none [tb f, tb s]))), (3, some (.val (I f.length))), (15, some (.val (I ((f.length : Int) * f.length)))), (16, some (.val (I k)))]) (f.length * f.length) ?_ ?_ 0 _ (by omega) ?_
    · rintro k e hk ⟨h1, rfl⟩
      have hk1 := dm_lt hk
      have hki : (k : Int) < (f.length : Int) * f.length := by exact_mod_cast hk
      have hq1 : 0 ≤ (k : Int) / f.length ∧ (k : Int) / f.length < f.length := ⟨by exact_mod_cast Nat.zero_le _, by exact_mod_cast hk1.1⟩
      have hr1 : 0 ≤ (k : Int) % f.length ∧ (k : Int) % f.length < f.length := ⟨by exact_mod_cast Nat.zero_le _, by exact_mod_cast hk1.2⟩
      have ht1 : ((k : Int) / f.length).toNat = k / f.length := by rw [← Int.natCast_ediv]; exact Int.toNat_natCast _
      have hu1 : ((k : Int) % f.length).toNat = k % f.length := by rw [← Int.natCast_emod]; exact Int.toNat_natCast _
      simp [hki, h0']
      refine ⟨by omega, by omega, ?_⟩
      rcases Nat.lt_or_ge k a with hka | hka
      · refine wpLoop_count (fun j e => e = fr [(1, some (.val (.mem .own none [tb f, tb s]))), (3, some (.val (I f.length))), (4, some (.val (I k))), (5, some (.val (I ((k / f.length : Nat) : Int)))), (6, some (.val (I ((k % f.length : Nat) : Int)))), (15, some (.val (I ((f.length : Int) * f.length)))), (16, some (.val (I k))), (27, some (.val (I ((f.length : Int) * f.length)))), (28, some (.val (I j)))]) (f.length * f.length) ?_ ?_ 0 _ (by omega) ?_
        · rintro j e hj rfl
          have hj1 := dm_lt hj
          have hji : (j : Int) < (f.length : Int) * f.length := by exact_mod_cast hj
          have hq2 : 0 ≤ (j : Int) / f.length ∧ (j : Int) / f.length < f.length := ⟨by exact_mod_cast Nat.zero_le _, by exact_mod_cast hj1.1⟩
          have hr2 : 0 ≤ (j : Int) % f.length ∧ (j : Int) % f.length < f.length := ⟨by exact_mod_cast Nat.zero_le _, by exact_mod_cast hj1.2⟩
          have ht2 : ((j : Int) / f.length).toNat = j / f.length := by rw [← Int.natCast_ediv]; exact Int.toNat_natCast _
          have hu2 : ((j : Int) % f.length).toNat = j % f.length := by rw [← Int.natCast_emod]; exact Int.toNat_natCast _
          have hnc : ¬ coll f s k j := fun hcc => hmin k hka ⟨j, hj, hcc⟩
          by_cases hkj : k = j
          · subst hkj
            clear hj hj1 hnc
            simp [hji, h0', undefV]
            omega
          · have hkjI : (k : Int) ≠ j := by omega
            by_cases hv1 : v2 f (k / f.length) (k % f.length) = v2 f (j / f.length) (j % f.length)
            · by_cases hv2 : v2 s (k / f.length) (k % f.length) = v2 s (j / f.length) (j % f.length)
              · have hcc : coll f s k j := ⟨hkj, hv1, hv2⟩
                exact (hnc hcc).elim
              · simp [hkjI, hk1, hj1, hq1, hq2, hr1, hr2, ht1, ht2, hu1, hu2, hji, h0', fr', sr', h.len, get_v2, hv1, hv2]
                omega
            · simp [hkjI, hk1, hj1, hq1, hq2, hr1, hr2, ht1, ht2, hu1, hu2, hji, h0', fr', get_v2, undefV, hv1]
              omega
        · rintro e rfl
          simp
          omega
        · simp
      · have hka2 : k = a := by omega
        subst hka2
        refine wpLoop_count (fun j e => j ≤ b ∧ e = fr [(1, some (.val (.mem .own none [tb f, tb s]))), (3, some (.val (I f.length))), (4, some (.val (I k))), (5, some (.val (I ((k / f.length : Nat) : Int)))), (6, some (.val (I ((k % f.length : Nat) : Int)))), (15, some (.val (I ((f.length : Int) * f.length)))), (16, some (.val (I k))), (27, some (.val (I ((f.length : Int) * f.length)))), (28, some (.val (I j)))]) (f.length * f.length) ?_ ?_ 0 _ (by omega) ?_
        · rintro j e hj ⟨hjb, rfl⟩
          have hj1 := dm_lt hj
          have hji : (j : Int) < (f.length : Int) * f.length := by exact_mod_cast hj
          have hq2 : 0 ≤ (j : Int) / f.length ∧ (j : Int) / f.length < f.length := ⟨by exact_mod_cast Nat.zero_le _, by exact_mod_cast hj1.1⟩
          have hr2 : 0 ≤ (j : Int) % f.length ∧ (j : Int) % f.length < f.length := ⟨by exact_mod_cast Nat.zero_le _, by exact_mod_cast hj1.2⟩
          have ht2 : ((j : Int) / f.length).toNat = j / f.length := by rw [← Int.natCast_ediv]; exact Int.toNat_natCast _
          have hu2 : ((j : Int) % f.length).toNat = j % f.length := by rw [← Int.natCast_emod]; exact Int.toNat_natCast _
          rcases Nat.lt_or_ge j b with hlt | hge
          · have hnc : ¬ coll f s k j := hmin2 j hlt
            by_cases hkj : k = j
            · subst hkj
              clear hj hj1 hnc
              simp [hji, h0', undefV]
              omega
            · have hkjI : (k : Int) ≠ j := by omega
              by_cases hv1 : v2 f (k / f.length) (k % f.length) = v2 f (j / f.length) (j % f.length)
              · by_cases hv2 : v2 s (k / f.length) (k % f.length) = v2 s (j / f.length) (j % f.length)
                · have hcc : coll f s k j := ⟨hkj, hv1, hv2⟩
                  exact (hnc hcc).elim
                · simp [hkjI, hk1, hj1, hq1, hq2, hr1, hr2, ht1, ht2, hu1, hu2, hji, h0', fr', sr', h.len, get_v2, hv1, hv2]
                  omega
              · simp [hkjI, hk1, hj1, hq1, hq2, hr1, hr2, ht1, ht2, hu1, hu2, hji, h0', fr', get_v2, undefV, hv1]
                omega
          · have hjb2 : j = b := by omega
            subst hjb2
            obtain ⟨hkj, hv1, hv2⟩ := hc
            have hkjI : (k : Int) ≠ j := by omega
            simp [hkjI, hk1, hj1, hq1, hq2, hr1, hr2, ht1, ht2, hu1, hu2, hji, h0', fr', sr', h.len, get_v2, hv1, hv2]
            try omega
        · rintro e ⟨h1, rfl⟩
          omega
        · simp
    · rintro e ⟨h1, rfl⟩
      omega
    · simp
  · have hi : Inj f s := fun a ha b hb hc => hex ⟨a, ha, b, hb, hc⟩
    refine ⟨none, by simp [hi], Call.intro hp rfl (by simp) ?_⟩
    simp only [ownI]
    show wp _ _ c_impl_collisionOf.body (post [.t 2] _ _ _) _
    simp [c_impl_collisionOf]
    refine ⟨by omega, ?_⟩
    refine wpLoop_count (fun k e => e = fr [(1, some (.val (.mem .own none [tb f, tb s]))), (3, some (.val (I f.length))), (15, some (.val (I ((f.length : Int) * f.length)))), (16, some (.val (I k)))]) (f.length * f.length) ?_ ?_ 0 _ (by omega) ?_
    · rintro k e hk rfl
      have hk1 := dm_lt hk
      have hki : (k : Int) < (f.length : Int) * f.length := by exact_mod_cast hk
      have hq1 : 0 ≤ (k : Int) / f.length ∧ (k : Int) / f.length < f.length := ⟨by exact_mod_cast Nat.zero_le _, by exact_mod_cast hk1.1⟩
      have hr1 : 0 ≤ (k : Int) % f.length ∧ (k : Int) % f.length < f.length := ⟨by exact_mod_cast Nat.zero_le _, by exact_mod_cast hk1.2⟩
      have ht1 : ((k : Int) / f.length).toNat = k / f.length := by rw [← Int.natCast_ediv]; exact Int.toNat_natCast _
      have hu1 : ((k : Int) % f.length).toNat = k % f.length := by rw [← Int.natCast_emod]; exact Int.toNat_natCast _
      simp [hki, h0']
      refine ⟨by omega, by omega, ?_⟩
      refine wpLoop_count (fun j e => e = fr [(1, some (.val (.mem .own none [tb f, tb s]))), (3, some (.val (I f.length))), (4, some (.val (I k))), (5, some (.val (I ((k / f.length : Nat) : Int)))), (6, some (.val (I ((k % f.length : Nat) : Int)))), (15, some (.val (I ((f.length : Int) * f.length)))), (16, some (.val (I k))), (27, some (.val (I ((f.length : Int) * f.length)))), (28, some (.val (I j)))]) (f.length * f.length) ?_ ?_ 0 _ (by omega) ?_
      · rintro j e hj rfl
        have hj1 := dm_lt hj
        have hji : (j : Int) < (f.length : Int) * f.length := by exact_mod_cast hj
        have hq2 : 0 ≤ (j : Int) / f.length ∧ (j : Int) / f.length < f.length := ⟨by exact_mod_cast Nat.zero_le _, by exact_mod_cast hj1.1⟩
        have hr2 : 0 ≤ (j : Int) % f.length ∧ (j : Int) % f.length < f.length := ⟨by exact_mod_cast Nat.zero_le _, by exact_mod_cast hj1.2⟩
        have ht2 : ((j : Int) / f.length).toNat = j / f.length := by rw [← Int.natCast_ediv]; exact Int.toNat_natCast _
        have hu2 : ((j : Int) % f.length).toNat = j % f.length := by rw [← Int.natCast_emod]; exact Int.toNat_natCast _
        have hnc : ¬ coll f s k j := hi k hk j hj
        by_cases hkj : k = j
        · subst hkj
          clear hj hj1 hnc
          simp [hji, h0', undefV]
          omega
        · have hkjI : (k : Int) ≠ j := by omega
          by_cases hv1 : v2 f (k / f.length) (k % f.length) = v2 f (j / f.length) (j % f.length)
          · by_cases hv2 : v2 s (k / f.length) (k % f.length) = v2 s (j / f.length) (j % f.length)
            · have hcc : coll f s k j := ⟨hkj, hv1, hv2⟩
              exact (hnc hcc).elim
            · simp [hkjI, hk1, hj1, hq1, hq2, hr1, hr2, ht1, ht2, hu1, hu2, hji, h0', fr', sr', h.len, get_v2, hv1, hv2]
              omega
          · simp [hkjI, hk1, hj1, hq1, hq2, hr1, hr2, ht1, ht2, hu1, hu2, hji, h0', fr', get_v2, undefV, hv1]
            omega
      · rintro e rfl
        simp
        omega
      · simp
    · rintro e rfl
      simp
      try omega
    · simp


end Go.Mch
