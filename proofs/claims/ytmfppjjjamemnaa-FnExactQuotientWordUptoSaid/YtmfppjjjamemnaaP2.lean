/- Our texts YjP YjQ YjR YjS YjD YgJ YgK YgL YgP YjE YjU YjF YjG YjW YjX YkA YkB YkD YkE YgW, end to end. -/
import Derived.Test.YtmfppjjjamemnaaP1
import Derived.Test.YtmfppjjjamemnaaYeD
/- Sorting by insertion, partly. -/
namespace Go.Mch

def Lb (X : List (List Int)) (a b : Nat) : Prop := a = 0 ∨ ∀ k, a ≤ k → k < b → bef (gt X (a - 1)) (gt X k)
theorem Lb.pi {X Y : List (List Int)} {a b : Nat} (h : Lb X a b) (g : PI X Y a b) : Lb Y a b := by
  rcases h with h | h
  · exact .inl h
  · by_cases h0 : a = 0
    · exact .inl h0
    · refine .inr fun k h1 h2 => ?_
      obtain ⟨k', p1, p2, p3⟩ := g.fwd k h1 h2
      rw [g.out (a - 1) (by omega), p3]
      exact h k' p1 p2
theorem SI.keep {Y Z : List (List Int)} {a i : Nat} (h : SI Y a i) (hk : ∀ k, k < i → gt Z k = gt Y k) : SI Z a i := fun p q h1 h2 h3 => by
  rw [hk p (by omega), hk q h3]
  exact h p q h1 h2 h3
theorem SI.grow {Y : List (List Int)} {a r : Nat} (h : SI Y a (r + 1)) (hb : bef (gt Y r) (gt Y (r + 1))) : SI Y a (r + 2) := fun p q h1 h2 h3 => by
  by_cases hq : q = r + 1
  · subst hq
    by_cases hp : p = r
    · subst hp; exact hb
    · exact bef_trans (h p r h1 (by omega) (by omega)) hb
  · exact h p q h1 h2 (by omega)
def S_pins (pg : Pg) : Prop := ∀ (X : List (List Int)) (a b : Nat), Sm X → Dj X → a < b → b ≤ X.length → Lb X a b →
  ∃ (Y : List (List Int)) (t : Bool), (PI X Y a b ∧ (t = true → SI Y a b)) ∧ Call pg 438 [ownR X, I a, I b, .fn 314 []] [ownR Y, I a, I b, .fn 314 []] (.sc (.bool t))
set_option maxRecDepth 10000 in
theorem t_partialInsertionSort {pg : Pg} (hp : pg.fn 438 = some c_slices_partialInsertionSortCmpFunc___int64_) (h314 : S_cmpL pg) : S_pins pg := by
  intro X a b hS hD hab hb hLb
  have hX1 := hS.1
  have hfind := Call.findA (α := List (List Int) × Bool) (Q := fun z => PI X z.1 a b ∧ (z.2 = true → SI z.1 a b)) (args := [ownR X, I a, I b, .fn 314 []]) (args' := fun z => [ownR z.1, I a, I b, .fn 314 []]) (r := fun z => .sc (.bool z.2)) hp rfl (by simp [F.lets, c_slices_partialInsertionSortCmpFunc___int64_, List.range, List.range.loop]) (kind_own _ _) ?_
  · obtain ⟨z, h1, h2⟩ := hfind
    exact ⟨z.1, z.2, h1, h2⟩
  show wp _ _ c_slices_partialInsertionSortCmpFunc___int64_.body (postX _ [.t 8] _ _ _) _
  generalize hR : postX (fun z : List (List Int) × Bool => PI X z.1 a b ∧ (z.2 = true → SI z.1 a b)) [.t 8] [ownR X, I a, I b, .fn 314 []] (fun z => [ownR z.1, I a, I b, .fn 314 []]) (fun z => .sc (.bool z.2)) = R
  simp [c_slices_partialInsertionSortCmpFunc___int64_]
  repeat (refine And.intro (by omega) ?_)
  refine wpLoop_lower (α := List (List Int) × Nat × Nat) (fun z => 5 - z.2.2) (fun z e => (PI X z.1 a b ∧ SI z.1 a z.2.1 ∧ a < z.2.1 ∧ z.2.1 ≤ b ∧ z.2.2 ≤ 5) ∧ e = fr [(0, some (.val (ownR z.1))), (1, some (.val (I a))), (2, some (.val (I b))), (3, some (.val (.fn 314 []))), (9, some (.val (I z.2.1))), (10, some (.val (I z.2.2)))]) ?_ (X, a + 1, 0) _ ⟨⟨PI.refl hD a b, SI.one X (by simp), by simp, by simp only; omega, by simp⟩, by simp⟩
  rintro ⟨Y, i, k⟩ e ⟨⟨g1, g2, g3, g4, g5⟩, rfl⟩
  simp only at g1 g2 g3 g4 g5
  by_cases hk5 : k < 5
  · have hk5' : (k : Int) < 5 := by omega
    simp [hk5']
    generalize hK2 : Go.Mch.X.out 2 _ = K2
    have hk2 : ∀ s : Nat, SI Y a s → a < s → s ≤ b → (s = b ∨ bef (gt Y s) (gt Y (s - 1))) → K2 (.ext 2) (fr [(0, some (.val (ownR Y))), (1, some (.val (I a))), (2, some (.val (I b))), (3, some (.val (.fn 314 []))), (9, some (.val (I s))), (10, some (.val (I k))), (36, some (.val (.sc (.bool false))))]) := by
      intro s g2 g3 g4 hx
      rw [← hK2]
      have hY := g1.len
      simp
      by_cases hsb : s = b
      · subst hsb
        simp
        rw [← hR]
        exact ⟨(Y, true), ⟨g1, fun _ => g2⟩, by simp [post]⟩
      · obtain ⟨r, rfl⟩ : ∃ r, s = r + 1 := ⟨s - 1, by omega⟩
        have hsb' : ¬ (r : Int) + 1 = b := by omega
        by_cases h50 : (b : Int) - a < 50
        · simp [hsb', h50]
          repeat (refine And.intro (by omega) ?_)
          rw [← hR]
          exact ⟨(Y, false), ⟨g1, fun h => by simp at h⟩, by simp [post]⟩
        · have hrl : r < Y.length := by omega
          have hrl1 : r + 1 < Y.length := by omega
          have e1 := gt_at hrl
          have e2 := gt_at hrl1
          have n1 : (r + 1 == r) = false := by simp
          have n2 : (r == r + 1) = false := by simp
          have hsw : PI X (swL Y (r + 1) r) a b := g1.swap hb ⟨by omega, by omega⟩ ⟨by omega, by omega⟩
          have hsj : SJ (swL Y (r + 1) r) a r (r + 1) := fun p q h1 h2 h3 h4 => by
            rw [gt_swL (by omega) (by omega), gt_swL (by omega) (by omega)]
            unfold tau
            rw [if_neg (by omega), if_neg (by omega), if_neg (by omega), if_neg (by omega)]
            exact g2 p q h1 h2 (by omega)
          by_cases h2 : 2 ≤ (r : Int) + 1 - a
          · simp [hsb', h50, hrl, hrl1, e1, e2, n1, h2]
            rw [rows_swL]
            repeat (refine And.intro (by omega) ?_)
            generalize hK4 : Go.Mch.X.out 4 _ = K4
            have hk4 : ∀ (Z : List (List Int)) (j : Nat) (e : Env), PI X Z a b → SI Z a (r + 1) → (e = fr [(0, some (.val (ownR Z))), (1, some (.val (I a))), (2, some (.val (I b))), (3, some (.val (.fn 314 []))), (9, some (.val (I (r + 1)))), (10, some (.val (I k))), (11, some (.val (I j))), (69, some (.val (.sc (.bool false))))] ∨ e = fr [(0, some (.val (ownR Z))), (1, some (.val (I a))), (2, some (.val (I b))), (3, some (.val (.fn 314 []))), (9, some (.val (I (r + 1)))), (10, some (.val (I k))), (11, some (.val (I j))), (84, some (.val (.sc (.bool true))))]) → K4 (.ext 4) e := by
              intro Z j e z1 z2 hee
              rw [← hK4]
              have hZ := z1.len
              rcases hee with rfl | rfl
              all_goals
                simp
                by_cases hbi : 2 ≤ (b : Int) - ((r : Int) + 1)
                · simp [hbi]
                  repeat (refine And.intro (by omega) ?_)
                  refine wpLoop_lower (α := List (List Int) × Nat) (fun z => b - z.2) (fun z e => (PI X z.1 a b ∧ SI z.1 a (r + 1) ∧ r + 1 < z.2 ∧ z.2 ≤ b) ∧ e = fr [(0, some (.val (ownR z.1))), (1, some (.val (I a))), (2, some (.val (I b))), (3, some (.val (.fn 314 []))), (9, some (.val (I (r + 1)))), (10, some (.val (I k))), (12, some (.val (I z.2)))]) ?_ (Z, r + 1 + 1) _ ⟨⟨z1, z2, by simp, by simp only; omega⟩, by simp⟩
                  rintro ⟨W, j⟩ e ⟨⟨w1, w2, w3, w4⟩, rfl⟩
                  simp only at w1 w2 w3 w4
                  have hW := w1.len
                  have hSW := hS.pi w1
                  by_cases hjb : j < b
                  · obtain ⟨s, rfl⟩ : ∃ s, j = s + 1 := ⟨j - 1, by omega⟩
                    have hsl : s < W.length := by omega
                    have hsl1 : s + 1 < W.length := by omega
                    have e1 := gt_at hsl
                    have e2 := gt_at hsl1
                    have hc := h314 (gt W (s + 1)) (gt W s) (hSW.2 _)
                    have hjb' : (s : Int) + 1 < b := by omega
                    simp [hjb', hsl, hsl1, e1, e2]
                    repeat (refine And.intro (by omega) ?_)
                    refine callR hc rfl rfl (fun _ => rfl) ?_
                    by_cases hbf : bef (gt W (s + 1)) (gt W s)
                    · have hb' : cmpL (gt W (s + 1)) (gt W s) < 0 := hbf
                      have n1 : (s + 1 == s) = false := by simp
                      have n2 : (s == s + 1) = false := by simp
                      simp [hb', hsl, hsl1, e1, e2, n1]
                      rw [rows_swL]
                      repeat (refine And.intro (by omega) ?_)
                      exact ⟨swL W (s + 1) s, s + 1 + 1, by omega, ⟨w1.swap hb ⟨by omega, by omega⟩ ⟨by omega, by omega⟩, w2.keep fun q hq => by
                        rw [gt_swL (by omega) (by omega)]
                        unfold tau
                        rw [if_neg (by omega), if_neg (by omega)], by omega, by omega⟩, by simp⟩
                    · have hb' : ¬ cmpL (gt W (s + 1)) (gt W s) < 0 := hbf
                      simp [hb']
                      repeat (refine And.intro (by omega) ?_)
                      exact ⟨W, r + 1, k + 1, by omega, ⟨w1, w2, by omega, by omega, by omega⟩, by simp⟩
                  · simp [hjb]
                    repeat (refine And.intro (by omega) ?_)
                    exact ⟨W, r + 1, k + 1, by omega, ⟨w1, w2, by omega, by omega, by omega⟩, by simp⟩
                · simp [hbi]
                  repeat (refine And.intro (by omega) ?_)
                  exact ⟨Z, r + 1, k + 1, by omega, ⟨z1, z2, by omega, by omega, by omega⟩, by simp⟩
            clear hK4
            refine wpLoop_lower (α := List (List Int) × Nat) (fun z => z.2) (fun z e => (PI X z.1 a b ∧ SJ z.1 a z.2 (r + 1) ∧ a ≤ z.2 ∧ z.2 < r + 1) ∧ e = fr [(0, some (.val (ownR z.1))), (1, some (.val (I a))), (2, some (.val (I b))), (3, some (.val (.fn 314 []))), (9, some (.val (I (r + 1)))), (10, some (.val (I k))), (11, some (.val (I z.2)))]) ?_ (swL Y (r + 1) r, r) _ ⟨⟨hsw, hsj, by omega, by omega⟩, by simp⟩
            rintro ⟨Z, j⟩ e ⟨⟨z1, z2, z3, z4⟩, rfl⟩
            simp only at z1 z2 z3 z4
            have hZ := z1.len
            have hSZ := hS.pi z1
            have hLZ := hLb.pi z1
            by_cases hj1 : 1 ≤ j
            · obtain ⟨s, rfl⟩ : ∃ s, j = s + 1 := ⟨j - 1, by omega⟩
              have hsl : s < Z.length := by omega
              have hsl1 : s + 1 < Z.length := by omega
              have e1 := gt_at hsl
              have e2 := gt_at hsl1
              have hc := h314 (gt Z (s + 1)) (gt Z s) (hSZ.2 _)
              have hj1' : (1 : Int) ≤ (s : Int) + 1 := by omega
              simp [hj1', hsl, hsl1, e1, e2]
              repeat (refine And.intro (by omega) ?_)
              refine callR hc rfl rfl (fun _ => rfl) ?_
              by_cases hbf : bef (gt Z (s + 1)) (gt Z s)
              · have has : a ≤ s := by
                  by_cases h : a = s + 1
                  · rcases hLZ with h0 | h0
                    · omega
                    · have := h0 (s + 1) (by omega) (by omega)
                      rw [h] at this
                      exact absurd this (bef_not hbf)
                  · omega
                have hb' : cmpL (gt Z (s + 1)) (gt Z s) < 0 := hbf
                have n1 : (s + 1 == s) = false := by simp
                have n2 : (s == s + 1) = false := by simp
                simp [hb', hsl, hsl1, e1, e2, n1]
                rw [rows_swL]
                repeat (refine And.intro (by omega) ?_)
                exact ⟨swL Z (s + 1) s, s, by omega, ⟨z1.swap hb ⟨by omega, by omega⟩ ⟨by omega, by omega⟩, z2.step has (by omega) (by omega) hbf, by omega, by omega⟩, by simp⟩
              · have hb' : ¬ cmpL (gt Z (s + 1)) (gt Z s) < 0 := hbf
                have hbb := z1.dj.or hsl1 hsl (by omega) hbf
                simp [hb']
                refine hk4 Z (s + 1) _ z1 (z2.done (.inr hbb)) (.inr ?_)
                simp
            · have hj0 : j = 0 := by omega
              subst hj0
              simp
              exact hk4 Z 0 _ z1 (z2.done (.inl (by omega))) (.inl (by simp))
          · have hsi : SI (swL Y (r + 1) r) a (r + 1) := SI.one _ (by omega)
            simp [hsb', h50, hrl, hrl1, e1, e2, n1, h2]
            rw [rows_swL]
            repeat (refine And.intro (by omega) ?_)
            by_cases hbi : 2 ≤ (b : Int) - ((r : Int) + 1)
            · simp [hbi]
              repeat (refine And.intro (by omega) ?_)
              refine wpLoop_lower (α := List (List Int) × Nat) (fun z => b - z.2) (fun z e => (PI X z.1 a b ∧ SI z.1 a (r + 1) ∧ r + 1 < z.2 ∧ z.2 ≤ b) ∧ e = fr [(0, some (.val (ownR z.1))), (1, some (.val (I a))), (2, some (.val (I b))), (3, some (.val (.fn 314 []))), (9, some (.val (I (r + 1)))), (10, some (.val (I k))), (12, some (.val (I z.2)))]) ?_ ((swL Y (r + 1) r), r + 1 + 1) _ ⟨⟨hsw, hsi, by simp, by simp only; omega⟩, by simp⟩
              rintro ⟨W, j⟩ e ⟨⟨w1, w2, w3, w4⟩, rfl⟩
              simp only at w1 w2 w3 w4
              have hW := w1.len
              have hSW := hS.pi w1
              by_cases hjb : j < b
              · obtain ⟨s, rfl⟩ : ∃ s, j = s + 1 := ⟨j - 1, by omega⟩
                have hsl : s < W.length := by omega
                have hsl1 : s + 1 < W.length := by omega
                have e1 := gt_at hsl
                have e2 := gt_at hsl1
                have hc := h314 (gt W (s + 1)) (gt W s) (hSW.2 _)
                have hjb' : (s : Int) + 1 < b := by omega
                simp [hjb', hsl, hsl1, e1, e2]
                repeat (refine And.intro (by omega) ?_)
                refine callR hc rfl rfl (fun _ => rfl) ?_
                by_cases hbf : bef (gt W (s + 1)) (gt W s)
                · have hb' : cmpL (gt W (s + 1)) (gt W s) < 0 := hbf
                  have n1 : (s + 1 == s) = false := by simp
                  have n2 : (s == s + 1) = false := by simp
                  simp [hb', hsl, hsl1, e1, e2, n1]
                  rw [rows_swL]
                  repeat (refine And.intro (by omega) ?_)
                  exact ⟨swL W (s + 1) s, s + 1 + 1, by omega, ⟨w1.swap hb ⟨by omega, by omega⟩ ⟨by omega, by omega⟩, w2.keep fun q hq => by
                    rw [gt_swL (by omega) (by omega)]
                    unfold tau
                    rw [if_neg (by omega), if_neg (by omega)], by omega, by omega⟩, by simp⟩
                · have hb' : ¬ cmpL (gt W (s + 1)) (gt W s) < 0 := hbf
                  simp [hb']
                  repeat (refine And.intro (by omega) ?_)
                  exact ⟨W, r + 1, k + 1, by omega, ⟨w1, w2, by omega, by omega, by omega⟩, by simp⟩
              · simp [hjb]
                repeat (refine And.intro (by omega) ?_)
                exact ⟨W, r + 1, k + 1, by omega, ⟨w1, w2, by omega, by omega, by omega⟩, by simp⟩
            · simp [hbi]
              repeat (refine And.intro (by omega) ?_)
              exact ⟨(swL Y (r + 1) r), r + 1, k + 1, by omega, ⟨hsw, hsi, by omega, by omega, by omega⟩, by simp⟩
    clear hK2
    refine wpLoop_lower (α := Nat) (fun z => b - z) (fun z e => (SI Y a z ∧ a < z ∧ z ≤ b) ∧ (e = fr [(0, some (.val (ownR Y))), (1, some (.val (I a))), (2, some (.val (I b))), (3, some (.val (.fn 314 []))), (9, some (.val (I z))), (10, some (.val (I k))), (16, some (.val (.sc (.bool true))))] ∨ e = fr [(0, some (.val (ownR Y))), (1, some (.val (I a))), (2, some (.val (I b))), (3, some (.val (.fn 314 []))), (9, some (.val (I z))), (10, some (.val (I k)))])) ?_ i _ ⟨⟨g2, g3, g4⟩, .inl rfl⟩
    rintro s e ⟨⟨s1, s2, s3⟩, hee⟩
    have hY := g1.len
    have hSY := hS.pi g1
    by_cases hsb : s < b
    · obtain ⟨r, rfl⟩ : ∃ r, s = r + 1 := ⟨s - 1, by omega⟩
      have hrl : r < Y.length := by omega
      have hrl1 : r + 1 < Y.length := by omega
      have e1 := gt_at hrl
      have e2 := gt_at hrl1
      have hc := h314 (gt Y (r + 1)) (gt Y r) (hSY.2 _)
      have hsb' : (r : Int) + 1 < b := by omega
      rcases hee with rfl | rfl
      all_goals
        simp [hsb', hrl, hrl1, e1, e2]
        repeat (refine And.intro (by omega) ?_)
        refine callR hc rfl rfl (fun _ => rfl) ?_
        by_cases hbf : bef (gt Y (r + 1)) (gt Y r)
        · have hb' : cmpL (gt Y (r + 1)) (gt Y r) < 0 := hbf
          simp [hb']
          have := hk2 (r + 1) s1 s2 s3 (.inr (by simpa using hbf))
          simpa using this
        · have hb' : ¬ cmpL (gt Y (r + 1)) (gt Y r) < 0 := hbf
          simp [hb']
          exact ⟨by omega, r + 1 + 1, by omega, ⟨s1.grow (g1.dj.or hrl1 hrl (by omega) hbf), by omega, by omega⟩, .inr (by simp)⟩
    · have hsb2 : s = b := by omega
      rcases hee with rfl | rfl
      all_goals
        simp [hsb, undefV]
        exact hk2 s s1 s2 s3 (.inl hsb2)
  · have hk5' : ¬ (k : Int) < 5 := by omega
    simp [hk5']
    rw [← hR]
    exact ⟨(Y, false), ⟨g1, fun h => by simp at h⟩, by simp [post]⟩
end Go.Mch
/- Quicksort: cuts, in plain Lean. -/
namespace Go.Mch

def Cut (Y : List (List Int)) (m a b : Nat) : Prop := ∀ p q, a ≤ p → p < m → m ≤ q → q < b → bef (gt Y p) (gt Y q)
section
variable {Y Z : List (List Int)} {m a b c d u v : Nat}
theorem Cut.pi (h : Cut Y m a b) (g : PI Y Z u v) (hu : a ≤ u) (hv : v ≤ b) (hm : v ≤ m ∨ m ≤ u) : Cut Z m a b := by
  intro p q h1 h2 h3 h4
  have hp : ∃ p', a ≤ p' ∧ p' < m ∧ gt Z p = gt Y p' := by
    by_cases hk : u ≤ p ∧ p < v
    · obtain ⟨p', q1, q2, q3⟩ := g.fwd p hk.1 hk.2
      exact ⟨p', by omega, by omega, q3⟩
    · exact ⟨p, h1, h2, g.out p (by omega)⟩
  have hq : ∃ q', m ≤ q' ∧ q' < b ∧ gt Z q = gt Y q' := by
    by_cases hk : u ≤ q ∧ q < v
    · obtain ⟨p', q1, q2, q3⟩ := g.fwd q hk.1 hk.2
      exact ⟨p', by omega, by omega, q3⟩
    · exact ⟨q, h3, h4, g.out q (by omega)⟩
  obtain ⟨p', p1, p2, p3⟩ := hp
  obtain ⟨q', q1, q2, q3⟩ := hq
  rw [p3, q3]
  exact h p' q' p1 p2 q1 q2
theorem SI.out (h : SI Y c d) (g : PI Y Z u v) (hm : d ≤ u ∨ v ≤ c) : SI Z c d := fun p q h1 h2 h3 => by
  rw [g.out p (by omega), g.out q (by omega)]
  exact h p q h1 h2 h3
theorem SI.join (h1 : SI Y c m) (h2 : SI Y m d) (h : Cut Y m a b) (hc : a ≤ c) (hd : d ≤ b) : SI Y c d := fun p q p1 p2 p3 => by
  by_cases hp : p < m
  · by_cases hq : q < m
    · exact h1 p q p1 p2 hq
    · exact h p q (by omega) hp (by omega) (by omega)
  · exact h2 p q (by omega) p2 p3
structure Fr (Y : List (List Int)) (a c d b : Nat) : Prop where
  lo : SI Y a c
  hi : SI Y d b
  cl : Cut Y c a b
  ch : Cut Y d a b
  h1 : a ≤ c
  h2 : c ≤ d
  h3 : d ≤ b
theorem Fr.pi (h : Fr Y a c d b) (g : PI Y Z c d) : Fr Z a c d b :=
  ⟨h.lo.out g (.inl (Nat.le_refl _)), h.hi.out g (.inr (Nat.le_refl _)), h.cl.pi g h.h1 h.h3 (.inr (Nat.le_refl _)), h.ch.pi g h.h1 h.h3 (.inl (Nat.le_refl _)), h.h1, h.h2, h.h3⟩
theorem Fr.fin (h : Fr Y a c d b) (hs : SI Y c d) : SI Y a b :=
  h.lo.join (hs.join h.hi h.ch h.h1 (Nat.le_refl _)) h.cl (Nat.le_refl _) (Nat.le_refl _)
theorem Fr.lb (h : Fr Y a c d b) (hl : Lb Y a b) : Lb Y c d := by
  have h1 := h.h1
  have h3 := h.h3
  by_cases hc : c = a
  · subst hc
    rcases hl with hl | hl
    · exact .inl hl
    · exact .inr fun k k1 k2 => hl k k1 (by omega)
  · exact .inr fun k k1 k2 => h.cl (c - 1) k (by omega) (by omega) k1 (by omega)
theorem Fr.cutm (h : Fr Y a c d b) (hm1 : c ≤ m) (hm2 : m < d) (hl : ∀ k, c ≤ k → k < m → bef (gt Y k) (gt Y m)) (hr : ∀ k, m < k → k < d → bef (gt Y m) (gt Y k)) : Cut Y m a b ∧ Cut Y (m + 1) a b := by
  have h3 := h.h3
  have key : ∀ p q, a ≤ p → p < q → q < b → p ≤ m → m ≤ q → bef (gt Y p) (gt Y q) := fun p q p1 p2 p3 p4 p5 => by
    by_cases hq : d ≤ q
    · exact h.ch p q p1 (by omega) hq p3
    · by_cases hp : p < c
      · exact h.cl p q p1 hp (by omega) p3
      · by_cases hpm : p = m
        · subst hpm; exact hr q p2 (by omega)
        · by_cases hqm : q = m
          · subst hqm; exact hl p (by omega) p2
          · exact bef_trans (hl p (by omega) (by omega)) (hr q (by omega) (by omega))
  exact ⟨fun p q p1 p2 p3 p4 => key p q p1 (by omega) p4 (by omega) p3, fun p q p1 p2 p3 p4 => key p q p1 (by omega) p4 (by omega) (by omega)⟩
theorem Fr.left (h : Fr Y a c d b) (hm1 : c ≤ m) (hm2 : m < d) (hc : Cut Y m a b ∧ Cut Y (m + 1) a b) (g : PI Y Z c m) (hs : SI Z c m) : Fr Z a (m + 1) d b := by
  have h1 := h.h1
  have h3 := h.h3
  have c1 : Cut Z c a b := h.cl.pi g h1 (by omega) (.inr (Nat.le_refl _))
  have c2 : Cut Z m a b := hc.1.pi g h1 (by omega) (.inl (Nat.le_refl _))
  have c3 : Cut Z (m + 1) a b := hc.2.pi g h1 (by omega) (.inl (by omega))
  have s1 : SI Z a m := (h.lo.out g (.inl (Nat.le_refl _))).join hs c1 (Nat.le_refl _) (by omega)
  exact ⟨s1.join (SI.one Z (Nat.le_refl _)) c2 (Nat.le_refl _) (by omega), h.hi.out g (.inr (by omega)), c3, h.ch.pi g h1 (by omega) (.inl (by omega)), by omega, by omega, h3⟩
theorem Fr.right (h : Fr Y a c d b) (hm1 : c ≤ m) (hm2 : m < d) (hc : Cut Y m a b ∧ Cut Y (m + 1) a b) (g : PI Y Z (m + 1) d) (hs : SI Z (m + 1) d) : Fr Z a c m b := by
  have h1 := h.h1
  have h3 := h.h3
  have c1 : Cut Z d a b := h.ch.pi g (by omega) h3 (.inl (Nat.le_refl _))
  have c2 : Cut Z m a b := hc.1.pi g (by omega) h3 (.inr (by omega))
  have c3 : Cut Z (m + 1) a b := hc.2.pi g (by omega) h3 (.inr (Nat.le_refl _))
  have s1 : SI Z (m + 1) b := hs.join (h.hi.out g (.inr (Nat.le_refl _))) c1 (by omega) (Nat.le_refl _)
  exact ⟨h.lo.out g (.inl (by omega)), (SI.one Z (Nat.le_refl _)).join s1 c3 (by omega) (Nat.le_refl _), h.cl.pi g (by omega) h3 (.inr (by omega)), c2, h1, hm1, by omega⟩
theorem Fr.start (h : a ≤ b) : Fr Y a a b b :=
  ⟨SI.one Y (by omega), SI.one Y (by omega), fun p q h1 h2 h3 h4 => by omega, fun p q h1 h2 h3 h4 => by omega, Nat.le_refl _, h, Nat.le_refl _⟩
end
/-! ### A sequence cut in two -/

def cutP (P : Env → Prop) (R : X → Env → Prop) (x : X) (e : Env) : Prop := if x = .nrm then P e else R x e
theorem cutP_nrm {P : Env → Prop} {R : X → Env → Prop} {e : Env} (h : P e) : cutP P R .nrm e := by
  unfold cutP
  rw [if_pos rfl]
  exact h
theorem cutP_ret {P : Env → Prop} {R : X → Env → Prop} {e : Env} (h : R .ret e) : cutP P R .ret e := by
  unfold cutP
  rw [if_neg (by simp)]
  exact h
theorem wp_cut {G : Rl} {k : K} {A B : C} {R : X → Env → Prop} {e : Env} (P : Env → Prop) (h1 : wp G k A (cutP P R) e) (h2 : ∀ e', P e' → wp G k B R e') : wp G k (.seq A B) R e := by
  show wp G k A (X.after (wp G k B R) R) e
  refine wp_mono (fun _ _ _ _ h => h) _ ?_ h1
  intro x e' hx
  unfold cutP at hx
  cases x with
  | nrm => rw [if_pos rfl] at hx; exact h2 e' hx
  | ret => rw [if_neg (by simp)] at hx; exact hx
  | ext i => rw [if_neg (by simp)] at hx; exact hx
theorem wp_block {G : Rl} {k : K} {i : Nat} {A : C} {R : X → Env → Prop} {e : Env} (h : wp G k A (X.out i R) e) : wp G k (.block i A) R e := h
theorem wp_cut' {G : Rl} {k : K} {A B : C} {R : X → Env → Prop} {e : Env} (P : Env → Prop) (h1 : ∀ J : X → Env → Prop, (∀ e', P e' → J .nrm e') → (∀ e', R .ret e' → J .ret e') → wp G k A J e) (h2 : ∀ e', P e' → wp G k B R e') : wp G k (.seq A B) R e :=
  wp_cut P (h1 _ (fun _ => cutP_nrm) (fun _ => cutP_ret)) h2
def ExWB (P : Bool → Bool → Prop) : Prop := ∃ x y, P x y
def S_pdq (pg : Pg) : Prop := ∀ (X : List (List Int)) (a b lim : Nat), Sm X → Dj X → a ≤ b → b ≤ X.length → Lb X a b → lim ≤ 64 →
  ∃ Y, (PI X Y a b ∧ SI Y a b) ∧ Call pg 393 [ownR X, I a, I b, I lim, .fn 314 []] [ownR Y, I a, I b, I lim, .fn 314 []] (.tup [])
end Go.Mch
/- Quicksort: the walk. -/
namespace Go.Mch

set_option maxRecDepth 10000 in
theorem t_pdq {pg : Pg} (hp : pg.fn 393 = some c_slices_pdqsortCmpFunc___int64_) (h433 : S_insSort pg) (h434 : S_heap pg) (h435 : S_brk pg) (h436 : S_piv pg) (h437 : S_revR pg) (h438 : S_pins pg) (h440 : S_part pg) (h314 : S_cmpL pg) : S_pdq pg := by
  have main : ∀ (n : Nat) (X : List (List Int)) (a b lim : Nat), b - a = n → Sm X → Dj X → a ≤ b → b ≤ X.length → Lb X a b → lim ≤ 64 →
      ∃ Y, (PI X Y a b ∧ SI Y a b) ∧ Call pg 393 [ownR X, I a, I b, I lim, .fn 314 []] [ownR Y, I a, I b, I lim, .fn 314 []] (.tup []) := by
    intro n
    induction n using Nat.strongRecOn with
    | ind n ih =>
    intro X a b lim hn hS hD hab hb hLb hlim
    have hX1 := hS.1
    refine Call.findA (α := List (List Int)) (Q := fun Y => PI X Y a b ∧ SI Y a b) (args' := fun Y => [ownR Y, I a, I b, I lim, .fn 314 []]) (r := fun _ => .tup []) hp rfl (by simp [F.lets, c_slices_pdqsortCmpFunc___int64_, List.range, List.range.loop]) (kind_own _ _) ?_
    show wp _ _ c_slices_pdqsortCmpFunc___int64_.body (postX _ [] _ _ _) _
    generalize hR : postX (fun Y => PI X Y a b ∧ SI Y a b) [] [ownR X, I a, I b, I lim, .fn 314 []] (fun Y => [ownR Y, I a, I b, I lim, .fn 314 []]) (fun _ => T.tup []) = R
    simp [c_slices_pdqsortCmpFunc___int64_]
    refine wpLoop_lower (α := List (List Int) × Nat × Nat × Nat) (fun z => z.2.2.1 - z.2.1) (fun z e => (PI X z.1 a b ∧ Fr z.1 a z.2.1 z.2.2.1 b ∧ z.2.2.2 ≤ 64) ∧ ExWB fun wb wq => e = fr [(0, some (.val (ownR z.1))), (1, some (.val (I z.2.1))), (2, some (.val (I z.2.2.1))), (3, some (.val (I z.2.2.2))), (4, some (.val (.fn 314 []))), (10, some (.val (.sc (.bool wb)))), (11, some (.val (.sc (.bool wq))))]) ?_ (X, a, b, lim) _ ⟨⟨PI.refl hD a b, Fr.start hab, hlim⟩, true, true, by simp⟩
    rintro ⟨Y, c, d, l⟩ e ⟨⟨g1, g2, g3⟩, wb, wq, rfl⟩
    simp only at g1 g2 g3
    have hY := g1.len
    have f1 := g2.h1
    have f2 := g2.h2
    have f3 := g2.h3
    have hSY := hS.pi g1
    have hLY := g2.lb (hLb.pi g1)
    obtain ⟨k0, hk0⟩ : ∃ k0 : Nat, (d : Int) - c = k0 := ⟨d - c, by omega⟩
    refine wp_block ?_
    refine wp_cut' (fun e => e = fr [(0, some (.val (ownR Y))), (1, some (.val (I c))), (2, some (.val (I d))), (3, some (.val (I l))), (4, some (.val (.fn 314 []))), (10, some (.val (.sc (.bool wb)))), (11, some (.val (.sc (.bool wq)))), (12, some (.val (I k0)))]) (fun J hJ hJr => ?_) ?_
    · simp [hk0]
      repeat (refine And.intro (by omega) ?_)
      exact hJ _ (by simp)
    rintro e rfl
    refine wp_cut' (fun e => 12 < k0 ∧ e = fr [(0, some (.val (ownR Y))), (1, some (.val (I c))), (2, some (.val (I d))), (3, some (.val (I l))), (4, some (.val (.fn 314 []))), (10, some (.val (.sc (.bool wb)))), (11, some (.val (.sc (.bool wq)))), (12, some (.val (I k0))), (25, some (.val (.sc (.bool false))))]) (fun J hJ hJr => ?_) ?_
    · by_cases h12 : (k0 : Int) ≤ 12
      · obtain ⟨Z, _, z1, rfl, z2, z3⟩ := h433 Y c d hSY g1.dj (by omega) (by omega) trivial
        have h12' : k0 ≤ 12 := by omega
        simp [h12]
        refine callM (ts' := [ownR Z, I c, I d, .fn 314 []]) (r := .tup []) ?_ ?_ ?_ ?_
        · simp
        · simpa using z3
        · simp
        · simp
          refine hJr _ ?_
          simp
          rw [← hR]
          exact ⟨Z, ⟨g1.trans (z1.wide f1 f3), (g2.pi z1).fin z2⟩, by simp [post]⟩
      · have h12' : ¬ k0 ≤ 12 := by omega
        simp [h12]
        exact hJ _ ⟨by omega, by simp⟩
    rintro e ⟨hk12, rfl⟩
    refine wp_cut' (fun e => 0 < l ∧ e = fr [(0, some (.val (ownR Y))), (1, some (.val (I c))), (2, some (.val (I d))), (3, some (.val (I l))), (4, some (.val (.fn 314 []))), (10, some (.val (.sc (.bool wb)))), (11, some (.val (.sc (.bool wq)))), (12, some (.val (I k0))), (32, some (.val (.sc (.bool false))))]) (fun J hJ hJr => ?_) ?_
    · by_cases hl0 : l = 0
      · obtain ⟨Z, _, z1, rfl, z2, z3⟩ := h434 Y c d hSY g1.dj (by omega) (by omega) trivial
        subst hl0
        simp
        refine callM (ts' := [ownR Z, I c, I d, .fn 314 []]) (r := .tup []) ?_ ?_ ?_ ?_
        · simp
        · simpa using z3
        · simp
        · simp
          refine hJr _ ?_
          simp
          rw [← hR]
          exact ⟨Z, ⟨g1.trans (z1.wide f1 f3), (g2.pi z1).fin z2⟩, by simp [post]⟩
      · simp [hl0]
        exact hJ _ ⟨by omega, by simp⟩
    rintro e ⟨hl0, rfl⟩
    refine wp_cut' (fun e => ∃ (Y1 : List (List Int)) (l1 : Nat), (PI Y Y1 c d ∧ l1 ≤ 64) ∧ (e = fr [(0, some (.val (ownR Y1))), (1, some (.val (I c))), (2, some (.val (I d))), (3, some (.val (I l1))), (4, some (.val (.fn 314 []))), (10, some (.val (.sc (.bool wb)))), (11, some (.val (.sc (.bool wq)))), (12, some (.val (I k0)))] ∨ e = fr [(0, some (.val (ownR Y1))), (1, some (.val (I c))), (2, some (.val (I d))), (3, some (.val (I l1))), (4, some (.val (.fn 314 []))), (10, some (.val (.sc (.bool wb)))), (11, some (.val (.sc (.bool wq)))), (12, some (.val (I k0))), (39, some (.val (.sc (.bool false))))])) (fun J hJ hJr => ?_) ?_
    · cases wb with
      | true =>
        simp
        exact hJ _ ⟨Y, l, ⟨PI.refl g1.dj c d, g3⟩, .inr (by simp)⟩
      | false =>
        obtain ⟨Z, _, z1, rfl, z2, z3⟩ := h435 Y c d hSY g1.dj (by omega) (by omega) trivial
        have hl1 : (l : Int) - 1 = ((l - 1 : Nat) : Int) := by omega
        simp
        refine callM (ts' := [ownR Z, I c, I d, .fn 314 []]) (r := .tup []) ?_ ?_ ?_ ?_
        · simp
        · simpa using z3
        · simp
        · simp
          repeat (refine And.intro (by omega) ?_)
          exact hJ _ ⟨Z, l - 1, ⟨z1, by omega⟩, .inl (by simp [hl1])⟩
    rintro e ⟨Y1, l1, ⟨p1, p3⟩, hee⟩
    have g1 := g1.trans (p1.wide f1 f3)
    have g2 := g2.pi p1
    have hY1 := g1.len
    have hSY1 := hS.pi g1
    have hLY1 := hLY.pi p1
    clear hY hSY hLY p1
    obtain ⟨p, h, ⟨q1, q2⟩, q3⟩ := h436 Y1 c d hSY1 (by omega) (by omega)
    refine wp_cut' (fun e => e = fr [(0, some (.val (ownR Y1))), (1, some (.val (I c))), (2, some (.val (I d))), (3, some (.val (I l1))), (4, some (.val (.fn 314 []))), (10, some (.val (.sc (.bool wb)))), (11, some (.val (.sc (.bool wq)))), (12, some (.val (I k0))), (13, some (.val (I p))), (14, some (.val (I h)))]) (fun J hJ hJr => ?_) ?_
    · rcases hee with rfl | rfl
      all_goals
        simp
        refine callM (ts' := [ownR Y1, I c, I d, .fn 314 []]) (r := .tup [I p, I h]) ?_ ?_ ?_ ?_
        · simp
        · simpa using q3
        · simp
        · simp
          exact hJ _ (by simp)
    clear hee q3
    rintro e rfl
    refine wp_cut' (fun e => ∃ (Y2 : List (List Int)) (p2 h2 : Nat), (PI Y1 Y2 c d ∧ c < p2 ∧ p2 < d) ∧ (e = fr [(0, some (.val (ownR Y2))), (1, some (.val (I c))), (2, some (.val (I d))), (3, some (.val (I l1))), (4, some (.val (.fn 314 []))), (10, some (.val (.sc (.bool wb)))), (11, some (.val (.sc (.bool wq)))), (12, some (.val (I k0))), (13, some (.val (I p2))), (14, some (.val (I h2)))] ∨ e = fr [(0, some (.val (ownR Y2))), (1, some (.val (I c))), (2, some (.val (I d))), (3, some (.val (I l1))), (4, some (.val (.fn 314 []))), (10, some (.val (.sc (.bool wb)))), (11, some (.val (.sc (.bool wq)))), (12, some (.val (I k0))), (13, some (.val (I p2))), (14, some (.val (I h2))), (56, some (.val (.sc (.bool false))))])) (fun J hJ hJr => ?_) ?_
    · by_cases hh2 : h = 2
      · obtain ⟨Z, _, z1, rfl, z2, z3⟩ := h437 Y1 c d hSY1 g1.dj (by omega) (by omega) trivial
        subst hh2
        have hp2 : (d : Int) - 1 - ((p : Int) - c) = ((d - 1 - (p - c) : Nat) : Int) := by omega
        simp
        refine callM (ts' := [ownR Z, I c, I d, .fn 314 []]) (r := .tup []) ?_ ?_ ?_ ?_
        · simp
        · simpa using z3
        · simp
        · simp
          repeat (refine And.intro (by omega) ?_)
          exact hJ _ ⟨Z, d - 1 - (p - c), 1, ⟨z1, by omega, by omega⟩, .inl (by simp [hp2])⟩
      · have hh2' : ¬ (h : Int) = 2 := by omega
        simp [hh2']
        exact hJ _ ⟨Y1, p, h, ⟨PI.refl g1.dj c d, by omega, by omega⟩, .inr (by simp)⟩
    rintro e ⟨Y2, p2, h2, ⟨p1, q3, q4⟩, hee⟩
    have g1 := g1.trans (p1.wide f1 f3)
    have g2 := g2.pi p1
    have hY2 := g1.len
    have hSY2 := hS.pi g1
    have hLY2 := hLY1.pi p1
    clear hY1 hSY1 hLY1 p1 q1 q2
    refine wp_cut' (fun e => ∃ (Y3 : List (List Int)), PI Y2 Y3 c d ∧ (e = fr [(0, some (.val (ownR Y3))), (1, some (.val (I c))), (2, some (.val (I d))), (3, some (.val (I l1))), (4, some (.val (.fn 314 []))), (10, some (.val (.sc (.bool wb)))), (11, some (.val (.sc (.bool wq)))), (12, some (.val (I k0))), (13, some (.val (I p2))), (80, some (.val (.sc (.bool false))))] ∨ e = fr [(0, some (.val (ownR Y3))), (1, some (.val (I c))), (2, some (.val (I d))), (3, some (.val (I l1))), (4, some (.val (.fn 314 []))), (10, some (.val (.sc (.bool wb)))), (11, some (.val (.sc (.bool wq)))), (12, some (.val (I k0))), (13, some (.val (I p2))), (75, some (.val (.sc (.bool false))))])) (fun J hJ hJr => ?_) ?_
    · by_cases hw : wb = true ∧ wq = true ∧ h2 = 1
      · obtain ⟨rfl, rfl, rfl⟩ := hw
        obtain ⟨Z, t, ⟨z1, z2⟩, z3⟩ := h438 Y2 c d hSY2 g1.dj (by omega) (by omega) hLY2
        rcases hee with rfl | rfl
        all_goals
          simp
          refine callM (ts' := [ownR Z, I c, I d, .fn 314 []]) (r := .sc (.bool t)) ?_ ?_ ?_ ?_
          · simp
          · simpa using z3
          · simp
          · simp
            cases t with
            | true =>
              simp
              refine hJr _ ?_
              simp
              rw [← hR]
              exact ⟨Z, ⟨g1.trans (z1.wide f1 f3), (g2.pi z1).fin (z2 rfl)⟩, by simp [post]⟩
            | false =>
              simp
              exact hJ _ ⟨Z, z1, .inl (by simp)⟩
      · have hx := PI.refl g1.dj c d
        rcases hee with rfl | rfl
        all_goals
          cases wb with
          | false =>
            simp [undefV]
            exact hJ _ ⟨Y2, hx, .inr (by simp)⟩
          | true =>
            cases wq with
            | false =>
              simp [undefV]
              exact hJ _ ⟨Y2, hx, .inr (by simp)⟩
            | true =>
              have h21 : ¬ h2 = 1 := fun hh => hw ⟨rfl, rfl, hh⟩
              have h21' : ¬ (h2 : Int) = 1 := by omega
              simp [h21']
              exact hJ _ ⟨Y2, hx, .inr (by simp)⟩
    rintro e ⟨Y3, p1, hee⟩
    have g1 := g1.trans (p1.wide f1 f3)
    have g2 := g2.pi p1
    have hY3 := g1.len
    have hSY3 := hS.pi g1
    have hLY3 := hLY2.pi p1
    clear hY2 hSY2 hLY2 p1
    refine wp_cut' (fun e => e = fr [(0, some (.val (ownR Y3))), (1, some (.val (I c))), (2, some (.val (I d))), (3, some (.val (I l1))), (4, some (.val (.fn 314 []))), (10, some (.val (.sc (.bool wb)))), (11, some (.val (.sc (.bool wq)))), (12, some (.val (I k0))), (13, some (.val (I p2))), (97, some (.val (.sc (.bool false))))]) (fun J hJ hJr => ?_) ?_
    · by_cases hc0 : 0 < c
      · have hbf : bef (gt Y3 (c - 1)) (gt Y3 p2) := by
          rcases hLY3 with h0 | h0
          · omega
          · exact h0 p2 (by omega) (by omega)
        have hb' : cmpL (gt Y3 (c - 1)) (gt Y3 p2) < 0 := hbf
        have hcl : c - 1 < Y3.length := by omega
        have hpl : p2 < Y3.length := by omega
        have e1 := gt_at hcl
        have e2 := gt_at hpl
        have hc := h314 (gt Y3 (c - 1)) (gt Y3 p2) (hSY3.2 _)
        have hc1 : (c : Int) - 1 = ((c - 1 : Nat) : Int) := by omega
        have hc0' : (0 : Int) < c := by omega
        rcases hee with rfl | rfl
        all_goals
          simp [hc0, hc1, hcl, hpl, e1, e2]
          repeat (refine And.intro (by omega) ?_)
          refine callR hc rfl rfl (fun _ => rfl) ?_
          simp [hb']
          exact hJ _ (by simp)
      · have hc0' : ¬ (0 : Int) < c := by omega
        rcases hee with rfl | rfl
        all_goals
          simp [hc0, undefV]
          exact hJ _ (by simp)
    clear hee
    rintro e rfl
    obtain ⟨Z, m, ap, ⟨t1, t2, t3, t4, t5⟩, t6⟩ := h440 Y3 c d p2 hSY3 g1.dj (by omega) (by omega) (by omega)
    have g1 := g1.trans (t1.wide f1 f3)
    have g2 := g2.pi t1
    have hZ := g1.len
    have hSZ := hS.pi g1
    have hLZ := hLY3.pi t1
    have hcut := g2.cutm t2 t3 t4 t5
    obtain ⟨L, hL⟩ : ∃ L : Nat, (m : Int) - c = L := ⟨m - c, by omega⟩
    obtain ⟨M, hM⟩ : ∃ M : Nat, (d : Int) - m = M := ⟨d - m, by omega⟩
    obtain ⟨q, hq⟩ : ∃ q : Nat, (k0 : Int).tdiv 8 = q := ⟨k0 / 8, by rw [Int.tdiv_eq_ediv_of_nonneg (by omega)]; omega⟩
    simp
    refine callM (ts' := [ownR Z, I c, I d, I p2, .fn 314 []]) (r := .tup [I m, .sc (.bool ap)]) ?_ ?_ ?_ ?_
    · simp
    · simpa using t6
    · simp
    · simp
      simp [hL, hM]
      repeat (refine And.intro (by omega) ?_)
      by_cases hlt : L < M
      · have hLb2 : Lb Z c m := by
          rcases hLZ with h0 | h0
          · exact .inl h0
          · exact .inr fun k k1 k2 => h0 k k1 (by omega)
        obtain ⟨W, ⟨w1, w2⟩, w3⟩ := ih (m - c) (by omega) Z c m l1 rfl hSZ g1.dj (by omega) (by omega) hLb2 p3
        simp [hlt]
        refine callM (ts' := [ownR W, I c, I m, I l1, .fn 314 []]) (r := .tup []) ?_ ?_ ?_ ?_
        · simp
        · simpa using w3
        · simp
        · simp
          repeat (refine And.intro (by omega) ?_)
          exact ⟨W, m + 1, d, by omega, l1, ⟨g1.trans (w1.wide f1 (by omega)), g2.left t2 t3 hcut w1 w2, p3⟩, decide ((k0 : Int) / 8 ≤ L), ap, by simp⟩
      · have hLb2 : Lb Z (m + 1) d := .inr fun k k1 k2 => t5 k (by omega) k2
        obtain ⟨W, ⟨w1, w2⟩, w3⟩ := ih (d - (m + 1)) (by omega) Z (m + 1) d l1 rfl hSZ g1.dj (by omega) (by omega) hLb2 p3
        simp [hlt]
        repeat (refine And.intro (by omega) ?_)
        refine callM (ts' := [ownR W, I (m + 1 : Nat), I d, I l1, .fn 314 []]) (r := .tup []) ?_ ?_ ?_ ?_
        · simp
        · simpa using w3
        · simp
        · simp
          exact ⟨W, c, m, by omega, l1, ⟨g1.trans (w1.wide (by omega) f3), g2.right t2 t3 hcut w1 w2, p3⟩, decide ((k0 : Int) / 8 ≤ M), ap, by simp⟩
  exact fun X a b lim => main _ X a b lim rfl
end Go.Mch
/- Sorting. -/
namespace Go.Mch

def S_sort (pg : Pg) : Prop := ∀ X : List (List Int), Sm X → Dj X → ∃ Y, (Srt Y ∧ ∀ x, x ∈ Y ↔ x ∈ X) ∧ Call pg 313 [ownR X, .fn 314 []] [ownR Y, .fn 314 []] (.tup [])
theorem t_sortFunc {pg : Pg} (hp : pg.fn 313 = some c_slices_SortFunc_____int64___int64_) (h394 : S_len pg 394) (h393 : S_pdq pg) : S_sort pg := by
  intro X hS hD
  have hX1 := hS.1
  obtain ⟨L, ⟨_, _, l3⟩, hl⟩ := h394 X.length hX1
  obtain ⟨Y, ⟨y1, y2⟩, hy⟩ := h393 X 0 X.length L hS hD (by omega) (Nat.le_refl _) (.inl rfl) (by omega)
  have hlen := y1.len
  have hY : SI Y 0 Y.length := by rw [hlen]; exact y2
  have ew : IntKind.u64.wrap (X.length : Int) = X.length := wru (by omega) (by omega)
  refine ⟨Y, ⟨hY.srt, y1.mem⟩, Call.intro_own hp rfl (by simp [F.lets, c_slices_SortFunc_____int64___int64_, List.range, List.range.loop]) ?_⟩
  show wp _ _ c_slices_SortFunc_____int64___int64_.body (post [] _ _ _) _
  simp [c_slices_SortFunc_____int64___int64_, ew]
  refine callR hl rfl rfl (fun _ => rfl) ?_
  simp
  refine callM (ts' := [ownR Y, I 0, I X.length, I L, .fn 314 []]) (r := .tup []) ?_ ?_ ?_ ?_
  · simp
  · simpa using hy
  · simp
  · simp
end Go.Mch
/- Putting a list into lists in order, of the reference. -/
namespace Go.Mch

theorem Srt.ins {X : List (List Int)} {w : List Int} {i : Nat} (h : Srt X) (h1 : ∀ j (hj : j < X.length), j < i → cmpL X[j] w < 0) (h2 : ∀ j (hj : j < X.length), i ≤ j → cmpL w X[j] < 0) : Srt (X.take i ++ w :: X.drop i) := by
  refine List.pairwise_append.2 ⟨h.sublist (List.take_sublist _ _), List.pairwise_cons.2 ⟨fun b hb => ?_, h.sublist (List.drop_sublist _ _)⟩, fun a ha b hb => ?_⟩
  · obtain ⟨k, hk, rfl⟩ := List.getElem_of_mem hb
    simp only [List.length_drop] at hk
    rw [List.getElem_drop]
    exact h2 _ (by omega) (by omega)
  · obtain ⟨k, hk, rfl⟩ := List.getElem_of_mem ha
    simp only [List.length_take] at hk
    rw [List.getElem_take]
    rcases List.mem_cons.1 hb with rfl | hb
    · exact h1 _ (by omega) (by omega)
    · obtain ⟨m, hm, rfl⟩ := List.getElem_of_mem hb
      simp only [List.length_drop] at hm
      rw [List.getElem_drop]
      exact h.lt (by omega) (by omega)
theorem thr (n : Nat) (P : Nat → Prop) : (∀ j k, j ≤ k → k < n → P k → P j) → ∃ i, i ≤ n ∧ (∀ j, j < n → j < i → P j) ∧ ∀ j, j < n → i ≤ j → ¬ P j := by
  induction n with
  | zero => intro _; exact ⟨0, by omega, fun j h => by omega, fun j h => by omega⟩
  | succ n ih =>
    intro h
    by_cases hp : P n
    · exact ⟨n + 1, by omega, fun j hj _ => h j n (by omega) (by omega) hp, fun j hj h2 => by omega⟩
    · obtain ⟨i, h1, h2, h3⟩ := ih fun j k hjk hk => h j k hjk (by omega)
      refine ⟨i, by omega, fun j hj hi => h2 j (by omega) hi, fun j hj hi => ?_⟩
      by_cases hjn : j = n
      · subst hjn; exact hp
      · exact h3 j (by omega) hi
/-- w goes to place i. -/
structure At (X : List (List Int)) (w : List Int) (i : Nat) : Prop where
  le : i ≤ X.length
  lo : ∀ j (hj : j < X.length), j < i → cmpL X[j] w < 0
  hi : ∀ j (hj : j < X.length), i ≤ j → ¬ cmpL X[j] w < 0
def S_put (pg : Pg) : Prop := ∀ (X : List (List Int)) (w : List Int), Srt X → X.length ≤ 1000000 → (∀ x ∈ X, x.length ≤ 1048576) → w.length ≤ 1048576 → ∃ (X' : List (List Int)) (b : Bool) (args' : List T), Srt X' ∧ (∀ x, x ∈ X' ↔ x ∈ X ∨ x = w) ∧ (b = true ↔ w ∉ X) ∧ X'.length ≤ X.length + 1 ∧ args'.length = 2 ∧ Call pg 349 [.mem .own (some 1) (tbL X), ix w] args' (.tup [.mem .own (some 1) (tbL X'), B b])
theorem Srt.at {X : List (List Int)} (h : Srt X) (w : List Int) : ∃ i, At X w i := by
  obtain ⟨i, h1, h2, h3⟩ := thr X.length (fun j => cmpL (X.getD j []) w < 0) fun j k hjk hk hp => by
    by_cases he : j = k
    · subst he; exact hp
    · have hj : j < X.length := by omega
      have := h.lt hk (show j < k by omega)
      simp only [List.getD_eq_getElem?_getD, List.getElem?_eq_getElem hk, List.getElem?_eq_getElem hj, Option.getD_some] at hp ⊢
      exact cmpL_trans _ _ _ this hp
  refine ⟨i, h1, fun j hj hl => ?_, fun j hj hl => ?_⟩
  · have := h2 j hj hl
    simpa [hj] using this
  · have := h3 j hj hl
    simpa [hj] using this
theorem At.mem {X : List (List Int)} {w : List Int} {i : Nat} (h : At X w i) (hs : Srt X) : w ∈ X ↔ ∃ hi : i < X.length, X[i] = w := by
  constructor
  · intro hm
    obtain ⟨j, hj, rfl⟩ := List.getElem_of_mem hm
    have hij : i ≤ j := by
      refine Classical.byContradiction fun hn => ?_
      have := h.lo j hj (by omega)
      have z := (cmpL_zero X[j] X[j]).2 rfl
      omega
    by_cases he : i = j
    · subst he; exact ⟨hj, rfl⟩
    · exact absurd (hs.lt hj (by omega)) (h.hi i (by omega) (Nat.le_refl _))
  · rintro ⟨hi, rfl⟩
    exact List.getElem_mem hi
theorem At.ins {X : List (List Int)} {w : List Int} {i : Nat} (h : At X w i) (hs : Srt X) (hn : w ∉ X) : Srt (X.take i ++ w :: X.drop i) := by
  refine hs.ins h.lo fun j hj hij => ?_
  have h1 := h.hi j hj hij
  have h2 := cmpL_neg X[j] w
  have h3 : cmpL X[j] w ≠ 0 := fun hz => hn (by rw [← (cmpL_zero _ _).1 hz]; exact List.getElem_mem hj)
  omega
/-- The lists from place q on moved up; z is what lies at place q. -/
def shf (X : List (List Int)) (z : List Int) (q : Nat) : List (List Int) := X.take q ++ z :: X.drop q
theorem shf_length (X : List (List Int)) (z : List Int) {q : Nat} (h : q ≤ X.length) : (shf X z q).length = X.length + 1 := by simp [shf]; omega
theorem shf_get (X : List (List Int)) (z : List Int) {r : Nat} (h : r < X.length) : (shf X z (r + 1))[r]? = some X[r] := by
  rw [shf, List.getElem?_append_left (by simp; omega), List.getElem?_take_of_lt (by omega), List.getElem?_eq_getElem h]
theorem shf_set (X : List (List Int)) (z : List Int) {r : Nat} (h : r < X.length) : (shf X z (r + 1)).set (r + 1) X[r] = shf X X[r] r := by
  have hl : (X.take (r + 1)).length = r + 1 := by simp; omega
  rw [shf, List.set_append_right _ _ (by omega), hl, Nat.sub_self, List.set_cons_zero, shf, List.take_succ_eq_append_getElem h, List.drop_eq_getElem_cons h, List.append_assoc]
  rfl
theorem tbL_set (X : List (List Int)) (i : Nat) (v : List Int) : tbL (X.set i v) = (tbL X).set i (ix v) := by simp [tbL, List.map_set]
theorem shf_fin (X : List (List Int)) (z w : List Int) {q : Nat} (h : q ≤ X.length) : (shf X z q).set q w = X.take q ++ w :: X.drop q := by
  have hl : (X.take q).length = q := by simp; omega
  rw [shf, List.set_append_right _ _ (by omega), hl, Nat.sub_self, List.set_cons_zero]
set_option maxRecDepth 10000 in
theorem t_l01Put {pg : Pg} (hp : pg.fn 349 = some c_spec_l01Put) (h408 : S_less pg) (h67 : S_same pg) : S_put pg := by
  intro X w hs hl hr hw
  obtain ⟨i, hi⟩ := hs.at w
  have hmem := hi.mem hs
  have hle := hi.le
  have hlets : ∀ a b : T, c_spec_l01Put.lets [a, b] = true := fun a b => by simp [F.lets, c_spec_l01Put, List.range, List.range.loop]
  by_cases hm : w ∈ X
  · obtain ⟨hiX, hXi⟩ := hmem.1 hm
    refine ⟨X, false, [.gone, ix w], hs, fun x => ⟨.inl, fun h => h.elim id fun h => h ▸ hm⟩, by simp [hm], by omega, rfl, Call.intro_own hp rfl (hlets _ _) ?_⟩
    show wp _ _ c_spec_l01Put.body (post [.t 4, .t 5] _ _ _) _
    simp [c_spec_l01Put, kindOf]
    refine wpLoop_lower (α := Nat × Nat) (fun z => z.2 - z.1) (fun z e => (z.1 ≤ i ∧ i ≤ z.2 ∧ z.2 ≤ X.length) ∧ e = fr [(0, some (.val (.mem .own (some 1) (tbL X)))), (1, some (.val (ix w))), (6, some (.val (I z.1))), (7, some (.val (I z.2)))]) ?_ (0, X.length) _ ⟨⟨by simp, hle, by simp⟩, by simp⟩
    rintro ⟨lo, hI⟩ e ⟨⟨g1, g2, g3⟩, rfl⟩
    simp only at g1 g2 g3
    by_cases hlt : lo < hI
    · have hdiv : ((lo : Int) + hI).tdiv 2 = (((lo + hI) / 2 : Nat) : Int) := by
        rw [Int.tdiv_eq_ediv_of_nonneg (by omega)]; omega
      have hmid : (lo + hI) / 2 < X.length := by omega
      have hlow := hi.lo _ hmid
      have hhi := hi.hi _ hmid
      have hmr := hr _ (List.getElem_mem hmid)
      generalize hM : (lo + hI) / 2 = M at *
      have hcl := h408 X[M] w hmr
      have hcase : cmpL X[M] w < 0 ↔ M < i := ⟨fun hc => Classical.byContradiction fun hn => hhi (by omega) hc, hlow⟩
      simp [hlt, hdiv, hmid]
      refine ⟨by omega, by omega, ?_⟩
      refine callR hcl rfl rfl (fun _ => rfl) ?_
      by_cases hc : cmpL X[M] w < 0
      · have hMi := hcase.1 hc
        simp [hc]
        exact ⟨by omega, M + 1, hI, by omega, ⟨by omega, by omega, by omega⟩, by simp⟩
      · have hMi : ¬ M < i := fun hh => hc (hcase.2 hh)
        simp [hc]
        exact ⟨lo, M, by omega, ⟨by omega, by omega, by omega⟩, by simp⟩
    · have hlo : lo = i := by omega
      have hhi : hI = i := by omega
      subst hlo hhi
      have hsame := h67 X[hI] w (hr _ (List.getElem_mem hiX))
      simp [hiX]
      refine callR hsame rfl rfl (fun _ => rfl) ?_
      simp [hXi]
  · have hX' : Srt (X.take i ++ w :: X.drop i) := hi.ins hs hm
    refine ⟨X.take i ++ w :: X.drop i, true, [.gone, ix w], hX', fun x => ?_, by simp [hm], by simp; omega, rfl, Call.intro_own hp rfl (hlets _ _) ?_⟩
    · rw [List.mem_append, List.mem_cons]
      constructor
      · rintro (h1 | h1 | h1)
        · exact .inl (List.mem_of_mem_take h1)
        · exact .inr h1
        · exact .inl (List.mem_of_mem_drop h1)
      · rintro (h1 | h1)
        · rw [← List.take_append_drop i X] at h1
          rcases List.mem_append.1 h1 with h2 | h2
          · exact .inl h2
          · exact .inr (.inr h2)
        · exact .inr (.inl h1)
    show wp _ _ c_spec_l01Put.body (post [.t 4, .t 5] _ _ _) _
    simp [c_spec_l01Put, kindOf]
    refine wpLoop_lower (α := Nat × Nat) (fun z => z.2 - z.1) (fun z e => (z.1 ≤ i ∧ i ≤ z.2 ∧ z.2 ≤ X.length) ∧ e = fr [(0, some (.val (.mem .own (some 1) (tbL X)))), (1, some (.val (ix w))), (6, some (.val (I z.1))), (7, some (.val (I z.2)))]) ?_ (0, X.length) _ ⟨⟨by simp, hle, by simp⟩, by simp⟩
    rintro ⟨lo, hI⟩ e ⟨⟨g1, g2, g3⟩, rfl⟩
    simp only at g1 g2 g3
    by_cases hlt : lo < hI
    · have hdiv : ((lo : Int) + hI).tdiv 2 = (((lo + hI) / 2 : Nat) : Int) := by
        rw [Int.tdiv_eq_ediv_of_nonneg (by omega)]; omega
      have hmid : (lo + hI) / 2 < X.length := by omega
      have hlow := hi.lo _ hmid
      have hhi := hi.hi _ hmid
      have hmr := hr _ (List.getElem_mem hmid)
      generalize hM : (lo + hI) / 2 = M at *
      have hcl := h408 X[M] w hmr
      have hcase : cmpL X[M] w < 0 ↔ M < i := ⟨fun hc => Classical.byContradiction fun hn => hhi (by omega) hc, hlow⟩
      simp [hlt, hdiv, hmid]
      refine ⟨by omega, by omega, ?_⟩
      refine callR hcl rfl rfl (fun _ => rfl) ?_
      by_cases hc : cmpL X[M] w < 0
      · have hMi := hcase.1 hc
        simp [hc]
        exact ⟨by omega, M + 1, hI, by omega, ⟨by omega, by omega, by omega⟩, by simp⟩
      · have hMi : ¬ M < i := fun hh => hc (hcase.2 hh)
        simp [hc]
        exact ⟨lo, M, by omega, ⟨by omega, by omega, by omega⟩, by simp⟩
    · have hlo : lo = i := by omega
      have hhi : hI = i := by omega
      subst hlo hhi
      have hl2 : X.length + 1 ≤ roomy := by unfold roomy; omega
      have htk : X.take X.length = X := List.take_length
      by_cases hiX : hI < X.length
      · have hne : X[hI] ≠ w := fun hh => hm (hmem.2 ⟨hiX, hh⟩)
        have hsame := h67 X[hI] w (hr _ (List.getElem_mem hiX))
        simp [hiX]
        refine callR hsame rfl rfl (fun _ => rfl) ?_
        simp [hne, hl2]
        refine ⟨by omega, ?_⟩
        refine wpLoop_lower (α := Nat × List Int) (fun z => z.1) (fun z e => (hI ≤ z.1 ∧ z.1 ≤ X.length) ∧ e = fr [(0, none), (1, some (.val (ix w))), (6, some (.val (I hI))), (9, some (.val (.mem .own (some 1) (tbL (shf X z.2 z.1))))), (10, some (.val (I z.1)))]) ?_ (X.length, w) _ ⟨⟨by simp; omega, by simp⟩, by simp [shf, tbL_append]; simp [tbL]⟩
        rintro ⟨q, z⟩ e ⟨⟨k1, k2⟩, rfl⟩
        simp only at k1 k2
        have hYl := shf_length X z k2
        by_cases hq : hI < q
        · obtain ⟨r, rfl⟩ : ∃ r, q = r + 1 := ⟨q - 1, by omega⟩
          have hrX : r < X.length := by omega
          have hYr := shf_get X z hrX
          have hYs := shf_set X z hrX
          generalize shf X z (r + 1) = Y at *
          have hrY : r < Y.length := by omega
          have hrY1 : r + 1 < Y.length := by omega
          have hYr : Y[r] = X[r] := by rw [List.getElem?_eq_getElem hrY] at hYr; exact Option.some.inj hYr
          have hq' : (hI : Int) < (r : Int) + 1 := by omega
          simp [hq', hrY, hrY1, hYr]
          exact ⟨by omega, by omega, by omega, by omega, r, by omega, ⟨by omega, by omega⟩, X[r], by rw [← hYs, tbL_set]⟩
        · have hqe : q = hI := by omega
          subst hqe
          have hfin := shf_fin X z w k2
          generalize shf X z q = Y at *
          have hqY : q < Y.length := by omega
          rw [← hfin]
          rw [tbL_set]
          simp [hqY]
          omega
      · simp [hiX, undefV, hl2]
        refine ⟨by omega, ?_⟩
        refine wpLoop_lower (α := Nat × List Int) (fun z => z.1) (fun z e => (hI ≤ z.1 ∧ z.1 ≤ X.length) ∧ e = fr [(0, none), (1, some (.val (ix w))), (6, some (.val (I hI))), (9, some (.val (.mem .own (some 1) (tbL (shf X z.2 z.1))))), (10, some (.val (I z.1)))]) ?_ (X.length, w) _ ⟨⟨by simp; omega, by simp⟩, by simp [shf, tbL_append]; simp [tbL]⟩
        rintro ⟨q, z⟩ e ⟨⟨k1, k2⟩, rfl⟩
        simp only at k1 k2
        have hYl := shf_length X z k2
        by_cases hq : hI < q
        · obtain ⟨r, rfl⟩ : ∃ r, q = r + 1 := ⟨q - 1, by omega⟩
          have hrX : r < X.length := by omega
          have hYr := shf_get X z hrX
          have hYs := shf_set X z hrX
          generalize shf X z (r + 1) = Y at *
          have hrY : r < Y.length := by omega
          have hrY1 : r + 1 < Y.length := by omega
          have hYr : Y[r] = X[r] := by rw [List.getElem?_eq_getElem hrY] at hYr; exact Option.some.inj hYr
          have hq' : (hI : Int) < (r : Int) + 1 := by omega
          simp [hq', hrY, hrY1, hYr]
          exact ⟨by omega, by omega, by omega, by omega, r, by omega, ⟨by omega, by omega⟩, X[r], by rw [← hYs, tbL_set]⟩
        · have hqe : q = hI := by omega
          subst hqe
          have hfin := shf_fin X z w k2
          generalize shf X z q = Y at *
          have hqY : q < Y.length := by omega
          rw [← hfin]
          rw [tbL_set]
          simp [hqY]
          omega
end Go.Mch
/- The retract, of the reference. -/
namespace Go.Mch

def zeroT (m k : Nat) : List (List Int) := List.replicate k (List.replicate m 0)
def zT (m k : Nat) : T := if k = 0 then nil else .mem .own (some 1) (rows (zeroT m k))
theorem zT_succ (m k : Nat) : zT m (k + 1) = .mem .own (some 1) (rows (zeroT m k) ++ [.mem .own (some 1) (List.replicate m (I 0))]) := by
  simp [zT, zeroT, List.replicate_succ', rows_append]
  simp [rows]
def S_empty (pg : Pg) : Prop := ∀ m : Nat, 0 < m → m ≤ 1000 → Call pg 398 [I m] [I m] (.agg [.mem .own (some 1) (rows (zeroT m m)), .mem .own (some 1) (rows (zeroT m m))])
theorem t_l02Empty {pg : Pg} (hp : pg.fn 398 = some c_spec_l02Empty) : S_empty pg := by
  intro m h0 hm
  refine Call.intro hp rfl (by simp) ?_
  show wp _ _ c_spec_l02Empty.body (post [.cell 2 (some 2)] _ _ _) _
  simp [c_spec_l02Empty]
  refine wpLoop_count (fun k e => e = fr [(0, some (.val (I m))), (2, some (.val (.mem .own none [nil, nil]))), (3, some (.val (.mem .own none [zT m k, zT m k]))), (4, some (.val (I k)))]) m ?_ ?_ 0 _ (by omega) ?_
  · rintro k e hk rfl
    have hr : m ≤ roomy := by unfold roomy; omega
    by_cases hk0 : k = 0
    · subst hk0
      have h1 : 1 ≤ roomy := by unfold roomy; omega
      rw [zT_succ]
      simp [hk, zT, zeroT, rows, hr, h1]
    · have hlen : (zeroT m k).length = k := by simp [zeroT]
      have h1 : k + 1 ≤ roomy := by unfold roomy; omega
      rw [zT_succ]
      have hz : zT m k = .mem .own (some 1) (rows (zeroT m k)) := by simp [zT, hk0]
      rw [hz]
      generalize zeroT m k = Z at *
      simp [hk, hr, hlen, h1]
      omega
  · rintro e rfl
    have hz : zT m m = .mem .own (some 1) (rows (zeroT m m)) := by simp [zT]; omega
    rw [hz]
    simp
  · simp [zT]

/-- Pairs of classes that have been met. -/
def cov (f s : List (List Int)) (a b i j : Nat) : Prop := ∃ x y, x < f.length ∧ y < f.length ∧ (x < a ∨ (x = a ∧ y < b)) ∧ clC f s x = i ∧ clC f s y = j
noncomputable def pT (f s R : List (List Int)) (a b : Nat) : List (List Int) := tabL (clM f s) fun i j => if dec (cov f s a b i j) then v2 R i j else 0
@[simp] theorem pT_length (f s R : List (List Int)) (a b : Nat) : (pT f s R a b).length = clM f s := by simp [pT]
end Go.Mch
/- RetractOf, of the reference. -/
namespace Go.Mch

theorem rows_set2 {X : List (List Int)} {i j : Nat} {v : Int} (h : i < X.length) : (rows X).set i (.mem .own (some 1) ((X[i].map I).set j (I v))) = rows (X.set i (X[i].set j v)) := by
  simp [rows, List.map_set]
end Go.Mch
/- The series of retracts, of the reference and of the program. -/
namespace Go.Mch

/-- A table that is frozen. -/
def frT (X : List (List Int)) : T := .mem .fresh (some 1) (X.map fun xs => .mem .fresh (some 1) (xs.map I))
@[simp] theorem frT_noOwn (X : List (List Int)) : (frT X).noOwn = true := by
  have := (frz_rows_old X).1
  rw [frzL_rows] at this
  simp [frT, this]
@[simp] theorem frT_ery (X : List (List Int)) : (frT X).ery .old = tb X := by
  have := (frz_rows_old X).2
  rw [frzL_rows] at this
  simp [frT, this]
@[simp] theorem frT_peek (X : List (List Int)) (r : Nat) (p : List Nat) : (frT X).peek r p = .val (frT X) := rfl
@[simp] theorem frT_cell (X : List (List Int)) : (frT X).isCell = true := rfl
@[simp] theorem frT_cells (X : List (List Int)) : (frT X).cells = [frT X] := rfl
@[simp] theorem frT_len (X : List (List Int)) : lenV (.val (frT X)) = some X.length := by simp [frT]
/-- A solution and its retracts. -/
def serL : Nat → List (List Int) → List (List Int) → List (List (List Int) × List (List Int))
  | 0, _, _ => []
  | k + 1, f, s => (f, s) :: if clM f s = f.length then [] else serL k (retF f s) (retS f s)
/-- The cells of frozen solutions. -/
def frL (l : List (List (List Int) × List (List Int))) : List T := l.flatMap fun x => [frT x.1, frT x.2]
@[simp] theorem frL_nil : frL [] = [] := rfl
@[simp] theorem frL_cons (x : List (List Int) × List (List Int)) (l : List (List (List Int) × List (List Int))) : frL (x :: l) = frT x.1 :: frT x.2 :: frL l := rfl
end Go.Mch
/- SeriesLabels, of the reference and of the program. -/
namespace Go.Mch

/-- The elements of the solution k of the series to which the elements belong. -/
def slL (f s : List (List Int)) : Nat → List Int
  | 0 => idL f.length
  | k + 1 => thenL (slL f s k) (classes ((serL f.length f s).getD k ([], [])).1 ((serL f.length f s).getD k ([], [])).2)
@[simp] theorem slL_length (f s : List (List Int)) (k : Nat) : (slL f s k).length = f.length := by
  induction k with
  | zero => simp [slL]
  | succ k ih => simp [slL, ih]
end Go.Mch
/- Groups of permutations, of the reference and of the program. -/
namespace Go.Mch

/-- What maps make of the identity, one behind another. -/
def GR (ms : List (List Int)) (n : Nat) (x : List Int) : Prop := ∀ S : List Int → Prop, S (idL n) → (∀ y, S y → ∀ p ∈ ms, S (thenL y p)) → S x
theorem GR.id (ms : List (List Int)) (n : Nat) : GR ms n (idL n) := fun _ h _ => h
theorem GR.step {ms : List (List Int)} {n : Nat} {x : List Int} (h : GR ms n x) {p : List Int} (hp : p ∈ ms) : GR ms n (thenL x p) := fun S h1 h2 => h2 x (h S h1 h2) p hp
/-- The elements of the group, in order. -/
structure Grp (ms : List (List Int)) (n : Nat) (X : List (List Int)) : Prop where
  srt : Srt X
  mem : ∀ x, x ∈ X ↔ GR ms n x
theorem Srt.nodup {X : List (List Int)} (h : Srt X) : X.Nodup := h.imp fun {a b} hab he => by
  subst he
  have := (cmpL_zero a a).2 rfl
  omega
theorem Srt.unique : ∀ {X Y : List (List Int)}, Srt X → Srt Y → (∀ x, x ∈ X ↔ x ∈ Y) → X = Y
  | [], [], _, _, _ => rfl
  | [], y :: Y, _, _, h => by have := (h y).2 (by simp); cases this
  | x :: X, [], _, _, h => by have := (h x).1 (by simp); cases this
  | x :: X, y :: Y, hx, hy, h => by
    have hx1 := List.pairwise_cons.1 hx
    have hy1 := List.pairwise_cons.1 hy
    have hxy : x = y := by
      refine Classical.byContradiction fun hne => ?_
      have m1 : x ∈ Y := by
        have := (h x).1 (by simp)
        rcases List.mem_cons.1 this with e | e
        · exact absurd e hne
        · exact e
      have m2 : y ∈ X := by
        have := (h y).2 (by simp)
        rcases List.mem_cons.1 this with e | e
        · exact absurd e.symm hne
        · exact e
      have a1 := hy1.1 x m1
      have a2 := hx1.1 y m2
      have a3 := cmpL_neg x y
      omega
    subst hxy
    have : X = Y := Srt.unique hx1.2 hy1.2 fun z => by
      have hz := h z
      have n1 : x ∉ X := fun hm => by
        have := hx1.1 x hm
        have z0 := (cmpL_zero x x).2 rfl
        omega
      have n2 : x ∉ Y := fun hm => by
        have := hy1.1 x hm
        have z0 := (cmpL_zero x x).2 rfl
        omega
      by_cases hzx : z = x
      · subst hzx; simp [n1, n2]
      · simpa [hzx] using hz
    rw [this]
theorem len_of_same {X Y : List (List Int)} (h1 : X.Nodup) (h2 : Y.Nodup) (h : ∀ x, x ∈ X ↔ x ∈ Y) : X.length = Y.length :=
  Nat.le_antisymm (len_le_of_sub X Y h1 fun x hx => (h x).1 hx) (len_le_of_sub Y X h2 fun x hx => (h x).2 hx)
/-- Lists can be put in order. -/
theorem srt_ex (Q : List (List Int)) : ∃ X, Srt X ∧ ∀ x, x ∈ X ↔ x ∈ Q := by
  induction Q with
  | nil => exact ⟨[], List.Pairwise.nil, fun x => Iff.rfl⟩
  | cons w Q ih =>
    obtain ⟨X, h1, h2⟩ := ih
    by_cases hw : w ∈ X
    · refine ⟨X, h1, fun x => ?_⟩
      rw [List.mem_cons, h2]
      exact ⟨.inr, fun h => h.elim (fun h => h ▸ (h2 w).1 hw) id⟩
    · obtain ⟨i, hi⟩ := h1.at w
      refine ⟨_, hi.ins h1 hw, fun x => ?_⟩
      rw [List.mem_append, List.mem_cons, List.mem_cons, ← h2]
      constructor
      · rintro (h | h | h)
        · exact .inr (List.mem_of_mem_take h)
        · exact .inl h
        · exact .inr (List.mem_of_mem_drop h)
      · rintro (h | h)
        · exact .inr (.inl h)
        · rw [← List.take_append_drop i X] at h
          rcases List.mem_append.1 h with h | h
          · exact .inl h
          · exact .inr (.inr h)
end Go.Mch
/- Orbits under moves, found breadth first: in plain Lean. -/
namespace Go.Mch

section
variable (mv : List Int → Nat → List Int) (m : Nat) (w : List Int)
/-- In every closed set that holds the start. -/
def TR (x : List Int) : Prop := ∀ C : List Int → Prop, C w → (∀ y, C y → ∀ i, i < m → C (mv y i)) → C x
theorem TR.start : TR mv m w w := fun _ h _ => h
theorem TR.step {x : List Int} (h : TR mv m w x) {i : Nat} (hi : i < m) : TR mv m w (mv x i) := fun C h1 h2 => h2 _ (h C h1 h2) i hi
/-- What is found: each once, each reached. -/
structure TF (Q : List (List Int)) : Prop where
  w0 : w ∈ Q
  nd : Q.Nodup
  gr : ∀ x ∈ Q, TR mv m w x
/-- The first a have all their moves among what is found, the next the first k. -/
structure TB (Q : List (List Int)) (a k : Nat) : Prop where
  f : TF mv m w Q
  cl : ∀ i (h : i < Q.length), i < a → ∀ p, p < m → mv Q[i] p ∈ Q
  cur : ∀ h : a < Q.length, ∀ p, p < k → mv Q[a] p ∈ Q
theorem TB.start : TB mv m w [w] 0 0 := ⟨⟨by simp, by simp, fun x hx => by rw [List.mem_singleton] at hx; subst hx; exact TR.start mv m x⟩, fun i h hi => by omega, fun h p hp => by omega⟩
variable {mv m w}
theorem TB.old {Q : List (List Int)} {a k : Nat} (h : TB mv m w Q a k) (ha : a < Q.length) (hin : mv Q[a] k ∈ Q) : TB mv m w Q a (k + 1) :=
  ⟨h.f, h.cl, fun h1 p hp => by
    by_cases hpk : p = k
    · subst hpk; exact hin
    · exact h.cur h1 p (by omega)⟩
theorem TF.new {Q : List (List Int)} {a k : Nat} (h : TF mv m w Q) (ha : a < Q.length) (hk : k < m) (hin : mv Q[a] k ∉ Q) : TF mv m w (Q ++ [mv Q[a] k]) :=
  ⟨List.mem_append.2 (.inl h.w0), by
    rw [List.nodup_append]
    exact ⟨h.nd, by simp, fun x hx y hy hxy => by
      rw [List.mem_singleton] at hy
      exact hin (by rw [← hy, ← hxy]; exact hx)⟩, fun x hx => by
    rcases List.mem_append.1 hx with hx | hx
    · exact h.gr x hx
    · rw [List.mem_singleton] at hx
      subst hx
      exact (h.gr _ (List.getElem_mem ha)).step mv m w hk⟩
theorem TB.new {Q : List (List Int)} {a k : Nat} (h : TB mv m w Q a k) (ha : a < Q.length) (hk : k < m) (hin : mv Q[a] k ∉ Q) : TB mv m w (Q ++ [mv Q[a] k]) a (k + 1) :=
  ⟨h.f.new ha hk hin, fun i hi hia p hp => by
    have hl : i < Q.length := by omega
    rw [List.getElem_append_left hl]
    exact List.mem_append.2 (.inl (h.cl i hl hia p hp)), fun h1 p hp => by
    rw [List.getElem_append_left ha]
    by_cases hpk : p = k
    · subst hpk; exact List.mem_append.2 (.inr (by simp))
    · exact List.mem_append.2 (.inl (h.cur ha p (by omega)))⟩
theorem TB.up {Q : List (List Int)} {a : Nat} (h : TB mv m w Q a m) (ha : a < Q.length) : TB mv m w Q (a + 1) 0 :=
  ⟨h.f, fun i hi hia p hp => by
    by_cases he : i = a
    · subst he; exact h.cur ha p hp
    · exact h.cl i hi (by omega) p hp, fun h1 p hp => by omega⟩
theorem TB.all {Q : List (List Int)} {a : Nat} (h : TB mv m w Q a 0) (ha : ¬ a < Q.length) (x : List Int) (hx : TR mv m w x) : x ∈ Q :=
  hx (fun y => y ∈ Q) h.f.w0 fun y hy i hi => by
    obtain ⟨j, hj, rfl⟩ := List.getElem_of_mem hy
    exact h.cl j hj (by omega) i hi
variable (mv m w)
/-- The orbit in order. -/
def Orb (S : List (List Int)) : Prop := Srt S ∧ ∀ x, x ∈ S ↔ TR mv m w x
noncomputable def orbO (lim : Nat) : Option (List (List Int)) := by
  classical exact if h : ∃ S, Orb mv m w S ∧ S.length ≤ lim then some (Classical.choose h) else none
variable {mv m w}
theorem Orb.unique {S S' : List (List Int)} (h : Orb mv m w S) (h' : Orb mv m w S') : S = S' := Srt.unique h.1 h'.1 fun x => (h.2 x).trans (h'.2 x).symm
theorem orbO_some {S : List (List Int)} {lim : Nat} (h : Orb mv m w S) (hl : S.length ≤ lim) : orbO mv m w lim = some S := by
  have hx : ∃ S, Orb mv m w S ∧ S.length ≤ lim := ⟨S, h, hl⟩
  unfold orbO
  rw [dif_pos hx]
  exact congrArg some ((Classical.choose_spec hx).1.unique h)
theorem orbO_none {Q : List (List Int)} {lim : Nat} (h : TF mv m w Q) (hl : lim < Q.length) : orbO mv m w lim = none := by
  unfold orbO
  rw [dif_neg]
  rintro ⟨S, ⟨h1, h2⟩, h3⟩
  have := len_le_of_sub Q S h.nd fun x hx => (h2 x).2 (h.gr x hx)
  omega
theorem orbO_spec {S : List (List Int)} {lim : Nat} (h : orbO mv m w lim = some S) : Orb mv m w S ∧ S.length ≤ lim := by
  unfold orbO at h
  split at h
  · rename_i hx
    rw [← Option.some.inj h]
    exact Classical.choose_spec hx
  · cases h
end
end Go.Mch
/- The order of a group, of the program: the walk. -/
namespace Go.Mch

/-- Some lists: hidden from simp. -/
def ExT (P : List (List Int) → Prop) : Prop := ∃ Q, P Q
theorem ExT.mk {P : List (List Int) → Prop} (Q : List (List Int)) (h : P Q) : ExT P := ⟨Q, h⟩
/-- What holds when i elements are done and k maps at the next. -/
structure BF (ms : List (List Int)) (n : Nat) (Q : List (List Int)) (i k : Nat) : Prop where
  nd : Q.Nodup
  gr : ∀ x ∈ Q, GR ms n x
  id : idL n ∈ Q
  dn : ∀ j (hj : j < Q.length), j < i → ∀ p ∈ ms, thenL Q[j] p ∈ Q
  dk : ∀ hi : i < Q.length, ∀ p ∈ ms.take k, thenL Q[i] p ∈ Q
  le : Q.length ≤ 1000
theorem BF.start (ms : List (List Int)) (n : Nat) : BF ms n [idL n] 0 0 where
  nd := by simp
  gr := fun x hx => by simp at hx; subst hx; exact GR.id ms n
  id := by simp
  dn := fun j _ h => by omega
  dk := fun _ p hp => by simp at hp
  le := by simp
theorem BF.up {ms : List (List Int)} {n : Nat} {Q : List (List Int)} {i : Nat} (h : BF ms n Q i ms.length) (hi : i < Q.length) : BF ms n Q (i + 1) 0 :=
  ⟨h.nd, h.gr, h.id, fun j hj hl p hp => by
    by_cases he : j = i
    · subst he; exact h.dk hi p (by simpa using hp)
    · exact h.dn j hj (by omega) p hp, fun _ p hp => by simp at hp, h.le⟩
theorem BF.old {ms : List (List Int)} {n : Nat} {Q : List (List Int)} {i k : Nat} (h : BF ms n Q i k) (hk : k < ms.length) (hi : i < Q.length) (hm : thenL Q[i] ms[k] ∈ Q) : BF ms n Q i (k + 1) :=
  ⟨h.nd, h.gr, h.id, h.dn, fun _ p hp => by
    rw [List.take_succ_eq_append_getElem hk] at hp
    rcases List.mem_append.1 hp with h1 | h1
    · exact h.dk hi p h1
    · simp at h1; subst h1; exact hm, h.le⟩
theorem BF.new {ms : List (List Int)} {n : Nat} {Q : List (List Int)} {i k : Nat} (h : BF ms n Q i k) (hk : k < ms.length) (hi : i < Q.length) (hm : thenL Q[i] ms[k] ∉ Q) :
    (Q ++ [thenL Q[i] ms[k]]).Nodup ∧ (∀ x ∈ Q ++ [thenL Q[i] ms[k]], GR ms n x) ∧ (Q.length < 1000 → BF ms n (Q ++ [thenL Q[i] ms[k]]) i (k + 1)) := by
  have hnd : (Q ++ [thenL Q[i] ms[k]]).Nodup := by
    rw [List.nodup_append]
    exact ⟨h.nd, by simp, fun a ha b hb => by simp at hb; subst hb; exact fun he => hm (he ▸ ha)⟩
  have hgr : ∀ x ∈ Q ++ [thenL Q[i] ms[k]], GR ms n x := fun x hx => by
    rcases List.mem_append.1 hx with h1 | h1
    · exact h.gr x h1
    · simp at h1; subst h1; exact (h.gr _ (List.getElem_mem hi)).step (List.getElem_mem hk)
  refine ⟨hnd, hgr, fun hl => ⟨hnd, hgr, List.mem_append.2 (.inl h.id), fun j hj hl2 p hp => ?_, fun _ p hp => ?_, by simp; omega⟩⟩
  · rw [List.getElem_append_left (by omega)]
    exact List.mem_append.2 (.inl (h.dn j (by omega) hl2 p hp))
  · rw [List.getElem_append_left hi]
    rw [List.take_succ_eq_append_getElem hk] at hp
    rcases List.mem_append.1 hp with h1 | h1
    · exact List.mem_append.2 (.inl (h.dk hi p h1))
    · simp at h1; subst h1; exact List.mem_append.2 (.inr (by simp))
theorem BF.all {ms : List (List Int)} {n : Nat} {Q : List (List Int)} {i k : Nat} (h : BF ms n Q i k) (hi : ¬ i < Q.length) : ∀ x, GR ms n x → x ∈ Q := fun x hx =>
  hx (· ∈ Q) h.id fun y hy p hp => by
    obtain ⟨j, hj, rfl⟩ := List.getElem_of_mem hy
    exact h.dn j hj (by omega) p hp
end Go.Mch
/- Groups of permutations, of the reference: the walk. -/
namespace Go.Mch

def rowsF (X : List (List Int)) : List T := X.map fun xs => .mem .fresh (some 1) (xs.map I)
@[simp] theorem rowsF_length (X : List (List Int)) : (rowsF X).length = X.length := by simp [rowsF]
@[simp] theorem noOwnL_rowsF (X : List (List Int)) : T.noOwnL (rowsF X) = true := by
  induction X with
  | nil => rfl
  | cons x X ih => simp only [rowsF, List.map_cons] at ih ⊢; simp [ih]
@[simp] theorem eryL_rowsF (X : List (List Int)) : T.eryL .old (rowsF X) = tbL X := by
  induction X with
  | nil => rfl
  | cons x X ih => simp only [rowsF, tbL, List.map_cons] at ih ⊢; simp [ih]
@[simp] theorem rowsF_getElem {X : List (List Int)} {k : Nat} (h : k < (rowsF X).length) : (rowsF X)[k] = .mem .fresh (some 1) ((X[k]'(by simpa using h)).map I) := by simp [rowsF]
theorem rowsF_snoc (X : List (List Int)) (w : List Int) : rowsF (X ++ [w]) = rowsF X ++ [.mem .fresh (some 1) (w.map I)] := by simp [rowsF]
/-- Trees that read as these rows. -/
def Rds (ts : List T) (X : List (List Int)) : Prop := T.eryL .old ts = tbL X ∧ T.noOwnL ts = true ∧ T.lendL ts = tbL X ∧ ts.length = X.length
theorem Rds.fresh (X : List (List Int)) : Rds (rowsF X) X := ⟨by simp, by simp, by
  induction X with
  | nil => rfl
  | cons x X ih => simp only [rowsF, tbL, List.map_cons] at ih ⊢; simp [ih], by simp⟩
theorem Rds.old (X : List (List Int)) : Rds (tbL X) X := ⟨by simp, by simp, by
  induction X with
  | nil => rfl
  | cons x X ih => simp only [tbL, List.map_cons] at ih ⊢; simp [ih], by simp⟩
def ExTT (P : List (List Int) → List (List Int) → List T → Prop) : Prop := ∃ F S ts, P F S ts
theorem ExTT.mk {P : List (List Int) → List (List Int) → List T → Prop} (F S : List (List Int)) (ts : List T) (h : P F S ts) : ExTT P := ⟨F, S, ts, h⟩
def grpT : Option (List (List Int)) → T
  | some X => .tup [.mem .own (some 1) (rows X), B true]
  | none => .tup [nil, B false]
/-! ### The orders of the groups of a solution -/

end Go.Mch
/- TupleOrbit. -/
namespace Go.Mch

@[simp] theorem noOldL_rowsF (X : List (List Int)) : T.noOldL (rowsF X) = true := by
  induction X with
  | nil => rfl
  | cons x X ih => simp only [rowsF, List.map_cons] at ih ⊢; simp [ih]
def cd3 : Option (List (List Int)) → Int
  | some _ => 0
  | none => 3
theorem dj_of {Q : List (List Int)} (h : Q.Nodup) : Dj Q := fun k k' hk hk' he => by
  rw [← gt_at hk, ← gt_at hk'] at he
  have := List.pairwise_iff_getElem.1 h
  rcases Nat.lt_trichotomy k k' with h1 | h1 | h1
  · exact absurd he (this k k' hk hk' h1)
  · exact h1
  · exact absurd he.symm (this k' k hk' hk h1)
end Go.Mch
/- The inverse of a solution: in plain Lean. -/
namespace Go.Mch

theorem dm_pair {n x y : Nat} (hy : y < n) : (x * n + y) / n = x ∧ (x * n + y) % n = y := by
  have hn : 0 < n := by omega
  refine ⟨?_, ?_⟩
  · rw [Nat.mul_comm, Nat.mul_add_div hn, Nat.div_eq_of_lt hy, Nat.add_zero]
  · rw [Nat.mul_comm, Nat.mul_add_mod, Nat.mod_eq_of_lt hy]
theorem pair_lt {n x y : Nat} (hx : x < n) (hy : y < n) : x * n + y < n * n := by
  have : (x + 1) * n ≤ n * n := Nat.mul_le_mul_right n hx
  rw [Nat.add_mul] at this
  omega
theorem inj_pair {f s : List (List Int)} (hi : Inj f s) {x y x' y' : Nat} (hx : x < f.length) (hy : y < f.length) (hx' : x' < f.length) (hy' : y' < f.length) (h1 : v2 f x y = v2 f x' y') (h2 : v2 s x y = v2 s x' y') : x = x' ∧ y = y' := by
  have hp := dm_pair (x := x) hy
  have hp' := dm_pair (x := x') hy'
  by_cases he : x * f.length + y = x' * f.length + y'
  · exact ⟨by rw [← hp.1, he, hp'.1], by rw [← hp.2, he, hp'.2]⟩
  · exact absurd ⟨he, by rw [hp.1, hp.2, hp'.1, hp'.2]; exact h1, by rw [hp.1, hp.2, hp'.1, hp'.2]; exact h2⟩ (hi _ (pair_lt hx hy) _ (pair_lt hx' hy'))
theorem sur_pair {f s : List (List Int)} (h : PM f s) (hi : Inj f s) {a b : Nat} (ha : a < f.length) (hb : b < f.length) : ∃ x y, x < f.length ∧ y < f.length ∧ v2 f x y = a ∧ v2 s x y = b := by
  have r1 : ∀ x y : Nat, 0 ≤ v2 f x y ∧ v2 f x y < f.length := fun x y => by simpa [g2] using h.gF x y
  have r2 : ∀ x y : Nat, 0 ≤ v2 s x y ∧ v2 s x y < f.length := fun x y => by simpa [g2] using h.gS x y
  have hs := surj_of_inj (n := f.length * f.length) (g := fun p => (v2 f (p / f.length) (p % f.length)).toNat * f.length + (v2 s (p / f.length) (p % f.length)).toNat) (fun p _ => by
    have := r1 (p / f.length) (p % f.length)
    have := r2 (p / f.length) (p % f.length)
    exact pair_lt (by omega) (by omega)) (fun p p' hp hp' he => by
    have hd := dm_lt hp
    have hd' := dm_lt hp'
    have q1 := r1 (p / f.length) (p % f.length)
    have q2 := r2 (p / f.length) (p % f.length)
    have q1' := r1 (p' / f.length) (p' % f.length)
    have q2' := r2 (p' / f.length) (p' % f.length)
    have u := dm_pair (n := f.length) (x := (v2 f (p / f.length) (p % f.length)).toNat) (y := (v2 s (p / f.length) (p % f.length)).toNat) (by omega)
    have u' := dm_pair (n := f.length) (x := (v2 f (p' / f.length) (p' % f.length)).toNat) (y := (v2 s (p' / f.length) (p' % f.length)).toNat) (by omega)
    rw [he] at u
    have e1 := u.1.symm.trans u'.1
    have e2 := u.2.symm.trans u'.2
    have := inj_pair hi hd.1 hd.2 hd'.1 hd'.2 (by omega) (by omega)
    rw [← Nat.div_add_mod p f.length, ← Nat.div_add_mod p' f.length, this.1, this.2])
  obtain ⟨p, hp, he⟩ := hs _ (pair_lt ha hb)
  have hd := dm_lt hp
  have q1 := r1 (p / f.length) (p % f.length)
  have q2 := r2 (p / f.length) (p % f.length)
  have u := dm_pair (n := f.length) (x := (v2 f (p / f.length) (p % f.length)).toNat) (y := (v2 s (p / f.length) (p % f.length)).toNat) (by omega)
  have u' := dm_pair (n := f.length) (x := a) hb
  rw [he] at u
  have e1 := u.1.symm.trans u'.1
  have e2 := u.2.symm.trans u'.2
  exact ⟨_, _, hd.1, hd.2, by omega, by omega⟩
end Go.Mch
/- The inverse of a solution: the tables, and both walks. -/
namespace Go.Mch

/-- A pair that is led to these two. -/
def pre (f s : List (List Int)) (u v : Nat) (x y : Nat) : Prop := x < f.length ∧ y < f.length ∧ σN f x y = u ∧ τN s y x = v
noncomputable def preX (f s : List (List Int)) (u v : Nat) : Nat := by
  classical exact if h : ∃ x, ∃ y, pre f s u v x y then Classical.choose h else 0
noncomputable def preY (f s : List (List Int)) (u v : Nat) : Nat := by
  classical exact if h : ∃ y, ∃ x, pre f s u v x y then Classical.choose h else 0
theorem pre_uniq {f s : List (List Int)} (h : PM f s) (hi : Inj f s) {u v x y x' y' : Nat} (h1 : pre f s u v x y) (h2 : pre f s u v x' y') : x = x' ∧ y = y' := by
  obtain ⟨a1, a2, a3, a4⟩ := h1
  obtain ⟨b1, b2, b3, b4⟩ := h2
  have e1 := h.v2f x y
  have e2 := h.v2f x' y'
  have e3 := h.v2s x y
  have e4 := h.v2s x' y'
  exact inj_pair hi a1 a2 b1 b2 (by omega) (by omega)
theorem pre_eq {f s : List (List Int)} (h : PM f s) (hi : Inj f s) {u v x y : Nat} (h1 : pre f s u v x y) : preX f s u v = x ∧ preY f s u v = y := by
  have hx : ∃ x, ∃ y, pre f s u v x y := ⟨x, y, h1⟩
  have hy : ∃ y, ∃ x, pre f s u v x y := ⟨y, x, h1⟩
  constructor
  · unfold preX
    rw [dif_pos hx]
    obtain ⟨y', h2⟩ := Classical.choose_spec hx
    exact (pre_uniq h hi h2 h1).1
  · unfold preY
    rw [dif_pos hy]
    obtain ⟨y', h2⟩ := Classical.choose_spec hy
    exact (pre_uniq h hi h2 h1).2
theorem pre_ex {f s : List (List Int)} (h : PM f s) (hi : Inj f s) {u v : Nat} (hu : u < f.length) (hv : v < f.length) : ∃ x y, pre f s u v x y := by
  obtain ⟨x, y, h1, h2, h3, h4⟩ := sur_pair h hi hu hv
  have e1 := h.v2f x y
  have e3 := h.v2s x y
  exact ⟨x, y, h1, h2, by omega, by omega⟩
theorem pre_self {f s : List (List Int)} (h : PM f s) (hi : Inj f s) {u v : Nat} (hu : u < f.length) (hv : v < f.length) : pre f s u v (preX f s u v) (preY f s u v) := by
  obtain ⟨x, y, h1⟩ := pre_ex h hi hu hv
  have := pre_eq h hi h1
  rw [this.1, this.2]
  exact h1
theorem pre_at {f s : List (List Int)} (h : PM f s) (hi : Inj f s) {x y : Nat} (hx : x < f.length) (hy : y < f.length) : preX f s (σN f x y) (τN s y x) = x ∧ preY f s (σN f x y) (τN s y x) = y := pre_eq h hi ⟨hx, hy, rfl, rfl⟩

noncomputable def invF (f s : List (List Int)) : List (List Int) := tabL f.length fun u v => (preX f s u v : Int)
noncomputable def invS (f s : List (List Int)) : List (List Int) := tabL f.length fun u v => (preY f s u v : Int)
@[simp] theorem invF_length (f s : List (List Int)) : (invF f s).length = f.length := by simp [invF]
@[simp] theorem invS_length (f s : List (List Int)) : (invS f s).length = f.length := by simp [invS]
theorem inv_pm {f s : List (List Int)} (h : PM f s) (hi : Inj f s) : PM (invF f s) (invS f s) where
  tf := tab_of fun x y hx hy => by have := (pre_self h hi hx hy).1; omega
  ts := tab_of fun x y hx hy => by have := (pre_self h hi hx hy).2.1; omega
  len := by simp
  pos := by simpa using h.pos
  small := by simpa using h.small

/-! ### Tables on their way -/

/-- What the first pairs are led to. -/
def hit (f s : List (List Int)) (a b i j : Nat) : Prop := ∃ x y, x < f.length ∧ y < f.length ∧ (x < a ∨ (x = a ∧ y < b)) ∧ σN f x y = i ∧ τN s y x = j
noncomputable def wT (f s : List (List Int)) (R : Nat → Nat → Nat) (Z : Nat → Nat → Int) (a b : Nat) : List (List Int) := tabL f.length fun i j => if dec (hit f s a b i j) then (R i j : Int) else Z i j
@[simp] theorem wT_length (f s : List (List Int)) (R : Nat → Nat → Nat) (Z : Nat → Nat → Int) (a b : Nat) : (wT f s R Z a b).length = f.length := by simp [wT]
theorem wT_row (f s : List (List Int)) (R : Nat → Nat → Nat) (Z : Nat → Nat → Int) (a b : Nat) {i : Nat} (h : i < (wT f s R Z a b).length) : (wT f s R Z a b)[i].length = f.length := tabL_row (by rw [← wT]; exact List.getElem_mem h)
theorem wT_zero (f s : List (List Int)) (R : Nat → Nat → Nat) (Z : Nat → Nat → Int) : wT f s R Z 0 0 = tabL f.length Z := by
  apply tabL_congr
  intro i j _ _
  have : ¬ hit f s 0 0 i j := fun ⟨x, y, _, _, h, _⟩ => by omega
  rw [dec_false this]
  rfl
theorem wT_next (f s : List (List Int)) (R : Nat → Nat → Nat) (Z : Nat → Nat → Int) (a : Nat) : wT f s R Z a f.length = wT f s R Z (a + 1) 0 := by
  apply tabL_congr
  intro i j _ _
  have : hit f s a f.length i j ↔ hit f s (a + 1) 0 i j := by
    constructor
    · rintro ⟨x, y, h1, h2, h3, h4⟩
      exact ⟨x, y, h1, h2, by omega, h4⟩
    · rintro ⟨x, y, h1, h2, h3, h4⟩
      exact ⟨x, y, h1, h2, by omega, h4⟩
  by_cases hc : hit f s a f.length i j
  · rw [dec_true hc, dec_true (this.1 hc)]
  · rw [dec_false hc, dec_false (fun h => hc (this.2 h))]
theorem wT_all {f s : List (List Int)} (h : PM f s) (hi : Inj f s) (R : Nat → Nat → Nat) (Z : Nat → Nat → Int) : wT f s R Z f.length 0 = tabL f.length fun i j => (R i j : Int) := by
  apply tabL_congr
  intro i j hi' hj'
  obtain ⟨x, y, h1, h2, h3, h4⟩ := pre_ex h hi hi' hj'
  have : hit f s f.length 0 i j := ⟨x, y, h1, h2, .inl h1, h3, h4⟩
  rw [dec_true this]
  rfl
theorem wT_set (f s : List (List Int)) (R : Nat → Nat → Nat) (Z : Nat → Nat → Int) {a b : Nat} (ha : a < f.length) (hb : b < f.length) :
    (wT f s R Z a b).set (σN f a b) (((wT f s R Z a b).getD (σN f a b) []).set (τN s b a) (R (σN f a b) (τN s b a) : Int)) = wT f s R Z a (b + 1) := by
  have hcov : ∀ i j, hit f s a (b + 1) i j ↔ hit f s a b i j ∨ (i = σN f a b ∧ j = τN s b a) := fun i j => by
    constructor
    · rintro ⟨x, y, h1, h2, h3, rfl, rfl⟩
      by_cases hxy : x = a ∧ y = b
      · obtain ⟨rfl, rfl⟩ := hxy; exact .inr ⟨rfl, rfl⟩
      · exact .inl ⟨x, y, h1, h2, by omega, rfl, rfl⟩
    · rintro (⟨x, y, h1, h2, h3, h4⟩ | ⟨rfl, rfl⟩)
      · exact ⟨x, y, h1, h2, by omega, h4⟩
      · exact ⟨a, b, ha, hb, by omega, rfl, rfl⟩
  apply List.ext_getElem
  · simp
  · intro i h1 h2
    simp only [wT_length] at h2
    have hgi : ∀ b', (wT f s R Z a b')[i]'(by simpa using h2) = (List.range f.length).map fun j => if dec (hit f s a b' i j) then (R i j : Int) else Z i j := fun b' => by simp [wT, tabL]
    rw [List.getElem_set, hgi (b + 1)]
    by_cases hi : σN f a b = i
    · rw [if_pos hi]
      subst hi
      have hgd : (wT f s R Z a b).getD (σN f a b) [] = (wT f s R Z a b)[σN f a b]'(by simpa using h2) := by
        rw [List.getD_eq_getElem?_getD, List.getElem?_eq_getElem (by simpa using h2)]; rfl
      rw [hgd, hgi b]
      apply List.ext_getElem
      · simp
      · intro j h3 h4
        simp only [List.length_map, List.length_range] at h4
        simp only [List.getElem_set, List.getElem_map, List.getElem_range]
        by_cases hj : τN s b a = j
        · subst hj
          rw [if_pos rfl, dec_true ((hcov _ _).2 (.inr ⟨rfl, rfl⟩))]
          rfl
        · rw [if_neg hj]
          by_cases hc : hit f s a b (σN f a b) j
          · rw [dec_true hc, dec_true ((hcov _ _).2 (.inl hc))]
          · rw [dec_false hc, dec_false fun h => ((hcov _ _).1 h).elim hc fun h => hj h.2.symm]
    · rw [if_neg hi, hgi b]
      apply List.map_congr_left
      intro j _
      by_cases hc : hit f s a b i j
      · rw [dec_true hc, dec_true ((hcov _ _).2 (.inl hc))]
      · rw [dec_false hc, dec_false fun h => ((hcov _ _).1 h).elim hc fun h => hi h.1.symm]
theorem zeroT_tab (n : Nat) : zeroT n n = tabL n fun _ _ => 0 := by
  apply List.ext_getElem
  · simp [zeroT]
  · intro i h1 h2
    apply List.ext_getElem
    · simp [tabL, zeroT]
    · intro j h3 h4
      simp [tabL, zeroT]

def S_inv406 (pg : Pg) : Prop := ∀ f s : List (List Int), PM f s → Inj f s → Call pg 406 [sol f s] [sol f s] (.agg [.mem .own (some 1) (rows (invF f s)), .mem .own (some 1) (rows (invS f s))])
set_option maxRecDepth 10000 in
theorem t_l02Inverse {pg : Pg} (hp : pg.fn 406 = some c_spec_l02Inverse) (h398 : S_empty pg) : S_inv406 pg := by
  intro f s hpm hinj
  have h0 := hpm.pos
  have h12 := hpm.small
  have hls := hpm.len
  refine Call.intro hp rfl (by simp) ?_
  show wp _ _ c_spec_l02Inverse.body (post [.cell 2 (some 2)] _ _ _) _
  simp [c_spec_l02Inverse]
  refine callR (h398 f.length h0 (by omega)) rfl rfl (fun _ => by simp) ?_
  simp
  refine wpLoop_count (fun a e => e = fr [(1, some (.val (.mem .own none [tb f, tb s]))), (2, some (.val (.mem .own none [nil, nil]))), (3, some (.val (I f.length))), (4, some (.val (.mem .own none [.mem .own (some 1) (rows (wT f s (preX f s) (fun _ _ => 0) a 0)), .mem .own (some 1) (rows (wT f s (preY f s) (fun _ _ => 0) a 0))]))), (5, some (.val (I a)))]) f.length ?_ ?_ 0 _ (by omega) ?_
  · rintro a e ha rfl
    simp [ha]
    refine wpLoop_count (fun b e => e = fr [(1, some (.val (.mem .own none [tb f, tb s]))), (2, some (.val (.mem .own none [nil, nil]))), (3, some (.val (I f.length))), (4, some (.val (.mem .own none [.mem .own (some 1) (rows (wT f s (preX f s) (fun _ _ => 0) a b)), .mem .own (some 1) (rows (wT f s (preY f s) (fun _ _ => 0) a b))]))), (5, some (.val (I a))), (6, some (.val (I b)))]) f.length ?_ ?_ 0 _ (by omega) ?_
    · rintro b e hb rfl
      have hf := hpm.v2f a b
      have hs2 := hpm.v2s a b
      have hfr := hpm.tf.row ha
      have hsr := (hpm.ts.row (x := a) (by omega)).trans hls
      have has : a < s.length := by omega
      have hfg : (f[a])[b]'(by omega) = v2 f a b := get_v2 _ _
      have hsg : (s[a])[b]'(by omega) = v2 s a b := get_v2 _ _
      have pa := pre_at hpm hinj ha hb
      have p1 := wT_set f s (preX f s) (fun _ _ => 0) ha hb
      have p2 := wT_set f s (preY f s) (fun _ _ => 0) ha hb
      rw [pa.1] at p1
      rw [pa.2] at p2
      have l1 := wT_length f s (preX f s) (fun _ _ => 0) a b
      have l2 := wT_length f s (preY f s) (fun _ _ => 0) a b
      have r1 := fun {i : Nat} h => wT_row f s (preX f s) (fun _ _ => 0) a b (i := i) h
      have r2 := fun {i : Nat} h => wT_row f s (preY f s) (fun _ _ => 0) a b (i := i) h
      rw [← p1, ← p2]
      generalize wT f s (preX f s) (fun _ _ => 0) a b = X at *
      generalize wT f s (preY f s) (fun _ _ => 0) a b = Y at *
      obtain ⟨hf1, hf2⟩ := hf
      obtain ⟨hs1, hs2⟩ := hs2
      rw [← hf1] at hfg
      rw [← hs1] at hsg
      generalize σN f a b = u at *
      generalize τN s b a = v at *
      have xr := r1 (i := u) (by omega)
      have yr := r2 (i := u) (by omega)
      have lx : u < X.length := by omega
      have ly : u < Y.length := by omega
      simp [ha, hb, has, hfr, hsr, hfg, hsg, lx, ly, xr, yr, hs2]
      refine ⟨by omega, by omega, ?_⟩
      rw [← rows_set2 lx, ← rows_set2 ly]
    · rintro e rfl
      rw [wT_next, wT_next]
      simp
      omega
    · simp
  · rintro e rfl
    rw [wT_all hpm hinj, wT_all hpm hinj]
    simp [invF, invS]
  · simp [wT_zero, zeroT_tab]

def spT (f s : List (List Int)) : T := .agg [.mem .own (some 1) (rows f), .mem .own (some 1) (rows s)]
def S_inv411 (pg : Pg) : Prop := ∀ f s : List (List Int), fits f → fits s → isSol f s → Call pg 411 [sol f s] [sol f s] (.tup [spT (invF f s) (invS f s), I 0])
set_option maxRecDepth 10000 in
theorem t_InverseSolution {pg : Pg} (hp : pg.fn 411 = some c_impl_InverseSolution) (h42 : S_isSol pg 42) (h275 : S_copyT pg 275) : S_inv411 pg := by
  intro f s hff hfs h
  have hpm := PM.of h.1
  have hinj := h.2.1
  have h0 := hpm.pos
  have h12 := hpm.small
  have hls := hpm.len
  have ef : f = tabL f.length (v2 f) := tab_eq rfl fun r hr => by rw [(hpm.tf r hr).1]
  have es : s = tabL f.length (v2 s) := tab_eq hls fun r hr => by rw [(hpm.ts r hr).1, hls]
  refine Call.intro hp rfl (by simp) ?_
  show wp _ _ c_impl_InverseSolution.body (post [.cell 2 (some 2), .t 3] _ _ _) _
  simp [c_impl_InverseSolution]
  refine callR (h42 f s hff hfs) rfl rfl (fun _ => rfl) ?_
  simp [dec_true h]
  refine callR (h275 f hff) rfl rfl (fun _ => by simp) ?_
  simp
  refine callR (h275 s hfs) rfl rfl (fun _ => by simp) ?_
  simp
  refine wpLoop_count (fun a e => e = fr [(1, some (.val (.mem .own none [tb f, tb s]))), (2, some (.val (.mem .own none [nil, nil]))), (4, some (.val (.mem .own none [.mem .own (some 1) (rows (wT f s (preX f s) (v2 f) a 0)), .mem .own (some 1) (rows (wT f s (preY f s) (v2 s) a 0))]))), (22, some (.val (tb f))), (23, some (.val (I f.length))), (24, some (.val (I a)))]) f.length ?_ ?_ 0 _ (by omega) ?_
  · rintro a e ha rfl
    have hfr := hpm.tf.row ha
    have hsr := (hpm.ts.row (x := a) (by omega)).trans hls
    have has : a < s.length := by omega
    simp [ha, hfr]
    refine wpLoop_count (fun b e => e = fr [(1, some (.val (.mem .own none [tb f, tb s]))), (2, some (.val (.mem .own none [nil, nil]))), (4, some (.val (.mem .own none [.mem .own (some 1) (rows (wT f s (preX f s) (v2 f) a b)), .mem .own (some 1) (rows (wT f s (preY f s) (v2 s) a b))]))), (5, some (.val (I a))), (22, some (.val (tb f))), (23, some (.val (I f.length))), (24, some (.val (I a))), (29, some (.val (ix f[a]))), (30, some (.val (I f.length))), (31, some (.val (I b)))]) f.length ?_ ?_ 0 _ (by omega) ?_
    · rintro b e hb rfl
      have hf := hpm.v2f a b
      have hs2 := hpm.v2s a b
      have hfg : (f[a])[b]'(by omega) = v2 f a b := get_v2 _ _
      have hsg : (s[a])[b]'(by omega) = v2 s a b := get_v2 _ _
      have pa := pre_at hpm hinj ha hb
      have p1 := wT_set f s (preX f s) (v2 f) ha hb
      have p2 := wT_set f s (preY f s) (v2 s) ha hb
      rw [pa.1] at p1
      rw [pa.2] at p2
      have l1 := wT_length f s (preX f s) (v2 f) a b
      have l2 := wT_length f s (preY f s) (v2 s) a b
      have r1 := fun {i : Nat} h => wT_row f s (preX f s) (v2 f) a b (i := i) h
      have r2 := fun {i : Nat} h => wT_row f s (preY f s) (v2 s) a b (i := i) h
      rw [← p1, ← p2]
      generalize wT f s (preX f s) (v2 f) a b = X at *
      generalize wT f s (preY f s) (v2 s) a b = Y at *
      obtain ⟨hf1, hf2⟩ := hf
      obtain ⟨hs1, hs2⟩ := hs2
      rw [← hf1] at hfg
      rw [← hs1] at hsg
      generalize σN f a b = u at *
      generalize τN s b a = v at *
      have xr := r1 (i := u) (by omega)
      have yr := r2 (i := u) (by omega)
      have lx : u < X.length := by omega
      have ly : u < Y.length := by omega
      have hbf : b < f[a].length := by omega
      simp [hb, has, hfr, hsr, hfg, hsg, lx, ly, xr, yr, hs2]
      refine ⟨by omega, by omega, ?_⟩
      rw [← rows_set2 lx, ← rows_set2 ly]
    · rintro e rfl
      rw [wT_next, wT_next]
      simp
      omega
    · simp
  · rintro e rfl
    rw [wT_all hpm hinj, wT_all hpm hinj]
    simp [invF, invS, spT]
  · rw [wT_zero, wT_zero, ← ef, ← es]
    simp
end Go.Mch
/- Words: the checks, and classes of words as orbits under moves of a solution and of its inverse. -/
namespace Go.Mch

def isWd (n : Int) (w : List Int) : Prop := inR 0 (n - 1) w ∧ w.length ≤ 8
instance (n : Int) (w : List Int) : Decidable (isWd n w) := by unfold isWd; infer_instance
theorem wd_in {n : Nat} {w : List Int} (h : isWd n w) : inN n w := fun x hx => by
  have := h.1 x hx
  omega
open Classical in
noncomputable def wdC (f s : List (List Int)) (us : List (List Int)) : Int := if isSol f s then (if ∀ u ∈ us, isWd f.length u then 0 else 2) else 1

def S_word (pg : Pg) : Prop := ∀ (n : Int) (w : List Int), w.length ≤ 1048576 → 0 ≤ n → n ≤ 1048576 → Call pg 53 [I n, ix w] [I n, ix w] (B (decide (isWd n w)))
theorem t_l09Word {pg : Pg} (hp : pg.fn 53 = some c_spec_l09Word) (h30 : S_in pg 30) : S_word pg := by
  intro n xs hl hn hn2
  refine Call.intro hp rfl (by simp) ?_
  show wp _ _ c_spec_l09Word.body (post [.t 4] _ _ _) _
  simp [c_spec_l09Word]
  refine wpLoop_count (fun k e => (∀ i (h : i < xs.length), i < k → 0 ≤ xs[i] ∧ xs[i] ≤ n - 1) ∧ e = fr [(0, some (.val (I n))), (1, some (.val (ix xs))), (5, some (.val (I k)))]) xs.length ?_ ?_ 0 _ (by omega) ?_
  · rintro k e hk ⟨h1, rfl⟩
    simp [hk]
    refine ⟨by omega, ?_⟩
    refine callR (h30 _ _ _) rfl rfl (fun _ => rfl) ?_
    by_cases hm : 0 ≤ xs[k] ∧ xs[k] ≤ n - 1
    · simp [hm]
      refine ⟨by omega, fun i hi hik => ?_⟩
      rcases Nat.lt_or_ge i k with h2 | h2
      · exact h1 i hi h2
      · have : i = k := by omega
        subst this; exact hm
    · have : ¬ isWd n xs := fun h => hm (h.1 _ (List.getElem_mem hk))
      simp [hm, this]
  · rintro e ⟨h1, rfl⟩
    have : inR 0 (n - 1) xs := fun x hx => by
      obtain ⟨i, hi, rfl⟩ := List.getElem_of_mem hx
      exact h1 i hi hi
    simp [isWd, this]
    omega
  · simp

def S_code37 (pg : Pg) : Prop := ∀ (f s : List (List Int)) (u v : List Int), fits f → fits s → u.length ≤ 1048576 → v.length ≤ 1048576 → Call pg 37 [sol f s, ix u, ix v] [sol f s, ix u, ix v] (I (wdC f s [u, v]))
theorem t_l09Code {pg : Pg} (hp : pg.fn 37 = some c_spec_l09Code) (h41 : S_isSol pg 41) (h53 : S_word pg) : S_code37 pg := by
  intro f s u v hf hs hu hv
  refine Call.intro hp rfl (by simp) ?_
  show wp _ _ c_spec_l09Code.body (post [.t 6] _ _ _) _
  simp [c_spec_l09Code]
  refine callR (h41 f s hf hs) rfl rfl (fun _ => rfl) ?_
  by_cases h : isSol f s
  · simp [dec_true h]
    have hpm := PM.of h.1
    have h12 := hpm.small
    refine callR (h53 f.length u hu (by omega) (by omega)) rfl rfl (fun _ => rfl) ?_
    by_cases h1 : isWd f.length u
    · simp [h1]
      refine callR (h53 f.length v hv (by omega) (by omega)) rfl rfl (fun _ => rfl) ?_
      by_cases h2 : isWd f.length v <;> simp [h2, wdC, h, h1]
    · simp [h1, undefV, wdC, h]
  · simp [wdC, h]

def S_chk38 (pg : Pg) : Prop := ∀ (f s : List (List Int)) (us : List (List Int)), fits f → fits s → us.length ≤ 1000 → (∀ u ∈ us, u.length ≤ 1048576) → Call pg 38 [sol f s, tb us] [sol f s, tb us] (I (wdC f s us))
theorem t_checkWords {pg : Pg} (hp : pg.fn 38 = some c_impl_checkWords) (h42 : S_isSol pg 42) (h39 : S_areElements pg) : S_chk38 pg := by
  intro f s us hf hs hl hus
  refine Call.intro hp rfl (by simp) ?_
  show wp _ _ c_impl_checkWords.body (post [.t 4] _ _ _) _
  simp [c_impl_checkWords]
  refine callR (h42 f s hf hs) rfl rfl (fun _ => rfl) ?_
  by_cases h : isSol f s
  · simp [dec_true h]
    have hpm := PM.of h.1
    have h12 := hpm.small
    refine wpLoop_count (fun k e => (∀ i (h : i < us.length), i < k → isWd f.length us[i]) ∧ e = fr [(2, some (.val (.mem .own none [tb f, tb s]))), (10, some (.val (tb us))), (11, some (.val (I us.length))), (12, some (.val (I k)))]) us.length ?_ ?_ 0 _ (by omega) ?_
    · rintro k e hk ⟨h1, rfl⟩
      have hw : ¬ isWd f.length us[k] → wdC f s us = 2 := fun hh => by
        have : ¬ ∀ u ∈ us, isWd f.length u := fun ha => hh (ha _ (List.getElem_mem hk))
        simp only [wdC, if_pos h, if_neg this]
      have hlk := hus _ (List.getElem_mem hk)
      simp [hk]
      by_cases h8 : us[k].length ≤ 8
      · have h8' : ¬ (8 : Int) < us[k].length := by omega
        simp [h8']
        refine callR (h39 f.length us[k] hlk (by omega) (by omega)) rfl rfl (fun _ => rfl) ?_
        by_cases hm : inR 0 ((f.length : Int) - 1) us[k]
        · simp [hm]
          refine ⟨by omega, fun i hi hik => ?_⟩
          rcases Nat.lt_or_ge i k with h2 | h2
          · exact h1 i hi h2
          · have : i = k := by omega
            subst this; exact ⟨hm, h8⟩
        · simp [hm, hw fun hh => hm hh.1]
      · have h8' : (8 : Int) < us[k].length := by omega
        simp [h8', undefV, hw fun hh => h8 hh.2]
    · rintro e ⟨h1, rfl⟩
      have : ∀ u ∈ us, isWd f.length u := fun x hx => by
        obtain ⟨i, hi, rfl⟩ := List.getElem_of_mem hx
        exact h1 i hi hi
      have e0 : wdC f s us = 0 := by simp only [wdC, if_pos h, if_pos this]
      simp [e0]
    · simp
  · simp [wdC, h]

/-! ### Classes -/

/-- A move of a word by a solution, or by its inverse. -/
noncomputable def cMv (f s : List (List Int)) (x : List Int) (p : Nat) : List Int := if p % 2 = 0 then dW f s x (p / 2) else dW (invF f s) (invS f s) x (p / 2)
theorem cMv_0 (f s : List (List Int)) (x : List Int) (k : Nat) : cMv f s x (2 * k) = dW f s x k := by
  unfold cMv
  rw [if_pos (by omega), show 2 * k / 2 = k from by omega]
theorem cMv_1 (f s : List (List Int)) (x : List Int) (k : Nat) : cMv f s x (2 * k + 1) = dW (invF f s) (invS f s) x k := by
  unfold cMv
  rw [if_neg (by omega), show (2 * k + 1) / 2 = k from by omega]
@[simp] theorem cMv_length (f s : List (List Int)) (x : List Int) (p : Nat) : (cMv f s x p).length = x.length := by unfold cMv; split <;> simp
theorem cMv_in {f s : List (List Int)} (h : PM f s) (hi : Inj f s) {x : List Int} (hx : inN f.length x) (p : Nat) : inN f.length (cMv f s x p) := by
  unfold cMv
  split
  · exact dW_in h hx _
  · have := dW_in (inv_pm h hi) (w := x) (by simpa using hx) (p / 2)
    simpa using this
theorem CR_in {f s : List (List Int)} (h : PM f s) (hi : Inj f s) {w : List Int} (hw : inN f.length w) {m : Nat} {x : List Int} (hx : TR (cMv f s) m w x) : inN f.length x ∧ x.length = w.length :=
  hx (fun y => inN f.length y ∧ y.length = w.length) ⟨hw, rfl⟩ fun y hy i _ => ⟨cMv_in h hi hy.1 i, by rw [cMv_length]; exact hy.2⟩
noncomputable def cO (f s : List (List Int)) (w : List Int) (lim : Nat) : Option (List (List Int)) := orbO (cMv f s) (2 * (w.length - 1)) w lim

def S_class (pg : Pg) : Prop := ∀ (f s : List (List Int)) (w : List Int) (lim : Nat), isSol f s → inN f.length w → w.length ≤ 12 → 0 < lim → lim ≤ 10000 → Call pg 339 [sol f s, ix w, I lim] [sol f s, ix w, I lim] (grpT (cO f s w lim))
set_option maxRecDepth 10000 in
theorem t_l09Class {pg : Pg} (hp : pg.fn 339 = some c_spec_l09Class) (h406 : S_inv406 pg) (h31 : S_own pg) (h68 : S_do pg 68) (h349 : S_put pg) (h280 : S_copyT pg 280) : S_class pg := by
  intro f s w lim h hw hl hlim0 hlim
  have hpm := PM.of h.1
  have hinj := h.2.1
  have hipm := inv_pm hpm hinj
  have hro : ∀ n, n ≤ 100000 → n ≤ roomy := fun n hn => by unfold roomy; omega
  refine Call.intro hp rfl (by simp) ?_
  show wp _ _ c_spec_l09Class.body (post [.t 6, .t 7] _ _ _) _
  simp [c_spec_l09Class]
  refine callR (h406 f s hpm hinj) rfl rfl (fun _ => by simp) ?_
  simp
  refine callR (h31 w (by omega)) rfl rfl (fun _ => by simp) ?_
  simp
  refine callR (h31 w (by omega)) rfl rfl (fun _ => by simp) ?_
  simp
  refine wpLoop_lower (α := Nat) (fun z => lim + 1 - z) (fun z e => ExTT fun Q S ts => (TB (cMv f s) (2 * (w.length - 1)) w Q z 0 ∧ Q.length ≤ lim ∧ z ≤ Q.length ∧ Srt S ∧ (∀ x, x ∈ S ↔ x ∈ Q) ∧ Rds ts S) ∧ e = fr [(1, some (.val (ix w))), (2, some (.val (I lim))), (3, some (.val (.mem .own none [tb f, tb s]))), (8, some (.val (.mem .own none [.mem .own (some 1) (rows (invF f s)), .mem .own (some 1) (rows (invS f s))]))), (9, some (.val (.mem .own (some 1) (rowsF Q)))), (10, some (.val (.mem .own (some 1) ts))), (11, some (.val (I z)))]) ?_ 0 _ (ExTT.mk [w] [w] (rowsF [w]) ⟨⟨TB.start _ _ w, by simp; omega, by simp, by simp [Srt], fun x => Iff.rfl, Rds.fresh _⟩, by simp [rowsF]⟩)
  rintro i e ⟨Q, S, ts, ⟨gb, gl, gi, gs, gm, gr⟩, rfl⟩
  by_cases hi : i < Q.length
  · simp [hi]
    refine wpLoop_lower (α := Nat) (fun z => w.length - z) (fun z e => ExTT fun Q S ts => (TB (cMv f s) (2 * (w.length - 1)) w Q i (2 * z) ∧ Q.length ≤ lim + 2 * z ∧ i < Q.length ∧ z ≤ w.length - 1 ∧ Srt S ∧ (∀ x, x ∈ S ↔ x ∈ Q) ∧ Rds ts S) ∧ e = fr [(1, some (.val (ix w))), (2, some (.val (I lim))), (3, some (.val (.mem .own none [tb f, tb s]))), (8, some (.val (.mem .own none [.mem .own (some 1) (rows (invF f s)), .mem .own (some 1) (rows (invS f s))]))), (9, some (.val (.mem .own (some 1) (rowsF Q)))), (10, some (.val (.mem .own (some 1) ts))), (11, some (.val (I i))), (12, some (.val (I z)))]) ?_ 0 _ (ExTT.mk Q S ts ⟨⟨gb, by omega, hi, by omega, gs, gm, gr⟩, by simp⟩)
    clear gb gl gi hi gs gm gr Q S ts
    rintro k e ⟨Q, S, ts, ⟨gb, gl, gi, gk, gs, gm, gr⟩, rfl⟩
    have gf := gb.f
    by_cases hk : k < w.length - 1
    · have hk' : (k : Int) + 1 < w.length := by omega
      have hQi := CR_in hpm hinj hw (gf.gr _ (List.getElem_mem gi))
      have hm1 := h68 f s Q[i] k hpm (by omega) (by omega) hQi.1
      have hm2 := h68 (invF f s) (invS f s) Q[i] k hipm (by omega) (by omega) (by simpa using hQi.1)
      rw [← cMv_0] at hm1
      rw [← cMv_1] at hm2
      simp [hk', gi]
      repeat (refine And.intro (by omega) ?_)
      refine callR hm1 rfl rfl (fun _ => by simp) ?_
      simp [gi]
      repeat (refine And.intro (by omega) ?_)
      refine callR hm2 rfl rfl (fun _ => by simp) ?_
      simp
      obtain ⟨L, hL1, hL2, hL3⟩ : ∃ L : List (List Int), L.length = 2 ∧ (∀ j (h : j < L.length), L[j] = cMv f s Q[i] (2 * k + j)) ∧ [T.mem .fresh (some 1) (List.map I (cMv f s Q[i] (2 * k))), T.mem .fresh (some 1) (List.map I (cMv f s Q[i] (2 * k + 1)))] = rowsF L := ⟨[cMv f s Q[i] (2 * k), cMv f s Q[i] (2 * k + 1)], rfl, fun j hj => by
        match j, hj with
        | 0, _ => rfl
        | 1, _ => rfl, rfl⟩
      rw [hL3]
      have hxi : Q[i]? = some Q[i] := List.getElem?_eq_getElem gi
      generalize Q[i] = x at *
      refine wpLoop_count (fun j e => ExTT fun Q' S' ts' => (TB (cMv f s) (2 * (w.length - 1)) w Q' i (2 * k + j) ∧ Q'.length ≤ lim + 2 * k + j ∧ Q'[i]? = some x ∧ Srt S' ∧ (∀ x, x ∈ S' ↔ x ∈ Q') ∧ Rds ts' S') ∧ e = fr [(1, some (.val (ix w))), (2, some (.val (I lim))), (3, some (.val (.mem .own none [tb f, tb s]))), (8, some (.val (.mem .own none [.mem .own (some 1) (rows (invF f s)), .mem .own (some 1) (rows (invS f s))]))), (9, some (.val (.mem .own (some 1) (rowsF Q')))), (10, some (.val (.mem .own (some 1) ts'))), (11, some (.val (I i))), (12, some (.val (I k))), (13, some (.val (.mem .fresh (some 1) (rowsF L)))), (14, some (.val (I j)))]) 2 ?_ ?_ 0 _ (by omega) (ExTT.mk Q S ts ⟨⟨gb, by omega, hxi, gs, gm, gr⟩, by simp⟩)
      · clear gb gl hxi gs gm gr gf gi hm1 hm2 hL3
        rintro j e hj ⟨Q, S, ts, ⟨gb, gl, gx, gs, gm, gr⟩, rfl⟩
        have gf := gb.f
        obtain ⟨gi, gx⟩ := List.getElem?_eq_some_iff.1 gx
        have hSl := len_of_same gs.nodup gf.nd gm
        have hjL : j < L.length := by omega
        have hW := hL2 j hjL
        rw [← gx] at hW
        have hQr : ∀ x ∈ Q, x.length = w.length := fun x hx => (CR_in hpm hinj hw (gf.gr x hx)).2
        have hWl : L[j].length ≤ 1048576 := by rw [hW, cMv_length, hQr _ (List.getElem_mem gi)]; omega
        obtain ⟨S', b, args', p1, p2, p3, p4, p5, p6⟩ := h349 S L[j] gs (by omega) (fun x hx => by have := hQr x ((gm x).1 hx); omega) hWl
        have hold := fun hin => gb.old gi hin
        have hnew := fun hin => gb.new gi (k := 2 * k + j) (by omega) hin
        rw [← hW] at hold hnew
        obtain ⟨r1, r2, r3, r4⟩ := gr
        have hjI : (j : Int) < 2 := by omega
        simp [hj, hjI, hL1]
        repeat (refine And.intro (by omega) ?_)
        generalize hWe : L[j] = W at *
        obtain ⟨a1, a2, rfl⟩ : ∃ a1 a2, args' = [a1, a2] := by
          cases args' with
          | nil => simp at p5
          | cons a1 l => cases l with
            | nil => simp at p5
            | cons a2 l => cases l with
              | nil => exact ⟨a1, a2, rfl⟩
              | cons => simp at p5
        refine callM (ts' := [a1, a2]) (r := .tup [.mem .own (some 1) (tbL S'), B b]) ?_ ?_ ?_ ?_
        · simp
        · simpa [r3] using p6
        · simp
        · have hWS : W ∈ S ↔ W ∈ Q := gm W
          by_cases hin : W ∈ Q
          · have hb : b = false := by
              cases b with
              | false => rfl
              | true => exact absurd (hWS.2 hin) (p3.1 rfl)
            subst hb
            simp
            refine ⟨by omega, ExTT.mk Q S' (tbL S') ⟨⟨hold hin, by omega, List.getElem?_eq_some_iff.2 ⟨gi, gx⟩, p1, fun x => ?_, Rds.old _⟩, by simp⟩⟩
            rw [p2, gm]
            exact ⟨fun h => h.elim id fun h => h ▸ hin, .inl⟩
          · have hb : b = true := p3.2 fun h => hin (hWS.1 h)
            subst hb
            simp [hL1, hj, hjI, hWe]
            refine ⟨hro _ (by omega), by omega, ExTT.mk (Q ++ [W]) S' (tbL S') ⟨⟨hnew hin, by simp; omega, by rw [List.getElem?_append_left gi]; exact List.getElem?_eq_some_iff.2 ⟨gi, gx⟩, p1, fun x => ?_, Rds.old _⟩, by rw [rowsF_snoc]⟩⟩
            rw [p2, gm, List.mem_append, List.mem_singleton]
      · rintro e ⟨Q, S, ts, ⟨gb, gl, gx, gs, gm, gr⟩, rfl⟩
        obtain ⟨gi, gx⟩ := List.getElem?_eq_some_iff.1 gx
        simp [hL1]
        repeat (refine And.intro (by omega) ?_)
        exact ⟨k + 1, by omega, ExTT.mk Q S ts ⟨⟨gb, by omega, gi, by omega, gs, gm, gr⟩, by simp⟩⟩
    · have hk' : ¬ (k : Int) + 1 < w.length := by omega
      have hkm : k = w.length - 1 := by omega
      subst hkm
      by_cases hbig : lim < Q.length
      · have hno : cO f s w lim = none := orbO_none gf hbig
        simp [hk', hbig, hno, grpT]
        omega
      · have hb2 : ¬ (lim : Int) < Q.length := by omega
        simp [hk', hb2]
        repeat (refine And.intro (by omega) ?_)
        exact ⟨i + 1, by omega, ExTT.mk Q S ts ⟨⟨gb.up gi, by omega, by omega, gs, gm, gr⟩, by simp⟩⟩
  · have hX : Orb (cMv f s) (2 * (w.length - 1)) w S := ⟨gs, fun x => (gm x).trans ⟨gb.f.gr x, gb.all hi x⟩⟩
    have hSl := len_of_same gs.nodup gb.f.nd gm
    have hs : cO f s w lim = some S := orbO_some hX (by omega)
    obtain ⟨r1, r2, r3, r4⟩ := gr
    have hcp := h280 S ⟨by omega, fun r hr => by have := (CR_in hpm hinj hw (gb.f.gr r ((gm r).1 hr))).2; omega⟩
    have hwn : win ts 0 ts.length = ts := by simp [win]
    simp [hi, hwn, r1]
    refine callR hcp rfl rfl (fun _ => by simp) ?_
    simp [hs, grpT]

/-! ### Classes, of the program -/

theorem frzRowsF (X : List (List Int)) : T.frzL .fresh (rows X) = rowsF X := by
  induction X with
  | nil => rfl
  | cons x X ih => simp only [rows, rowsF, List.map_cons] at ih ⊢; simp [ih]
theorem frz_sp (X Y : List (List Int)) : T.frz .fresh (.tup [.agg [.mem .own (some 1) (rows X), .mem .own (some 1) (rows Y)], I 0]) = .tup [.agg [.mem .fresh (some 1) (rowsF X), .mem .fresh (some 1) (rowsF Y)], I 0] := by
  show T.tup [T.agg [T.mem .fresh (some 1) (T.frzL .fresh (rows X)), T.mem .fresh (some 1) (T.frzL .fresh (rows Y))], I 0] = _
  rw [frzRowsF, frzRowsF]
def S_wordClass (pg : Pg) : Prop := ∀ (f s : List (List Int)) (w : List Int) (lim : Nat), fits f → fits s → isSol f s → inN f.length w → w.length ≤ 12 → 0 < lim → lim ≤ 10000 → Call pg 352 [sol f s, ix w, I lim] [sol f s, ix w, I lim] (grpT (cO f s w lim))
set_option maxRecDepth 10000 in
theorem t_wordClass {pg : Pg} (hp : pg.fn 352 = some c_impl_wordClass) (h411 : S_inv411 pg) (h36 : S_clone pg) (h312 : S_text pg) (h44 : S_do pg 44) (h313 : S_sort pg) : S_wordClass pg := by
  intro f s w lim hff hfs h hw hl hlim0 hlim
  have hpm := PM.of h.1
  have hinj := h.2.1
  have hipm := inv_pm hpm hinj
  have h12 := hpm.small
  have hx12 : ∀ m x, TR (cMv f s) m w x → inN 12 x := fun m x hx v hv => by have := (CR_in hpm hinj hw hx).1 v hv; omega
  refine Call.intro hp rfl (by simp) ?_
  show wp _ _ c_impl_wordClass.body (post [.t 6, .t 7] _ _ _) _
  simp [c_impl_wordClass]
  refine callR (h411 f s hff hfs h) rfl rfl (fun _ => by simp [spT]) ?_
  simp [spT, frz_sp]
  refine callR (h36 w (by omega)) rfl rfl (fun _ => by simp) ?_
  simp
  refine callR (h312 w (hx12 0 w (TR.start _ _ w)) (by omega)) rfl rfl (fun _ => rfl) ?_
  simp
  refine wpLoop_lower (α := Nat) (fun z => lim + 1 - z) (fun z e => ExT fun Q => (TB (cMv f s) (2 * (w.length - 1)) w Q z 0 ∧ Q.length ≤ lim ∧ z ≤ Q.length) ∧ e = fr [(1, some (.val (ix w))), (2, some (.val (I lim))), (3, some (.val (.mem .own none [tb f, tb s]))), (8, some (.val (.mem .own none [.mem .fresh (some 1) (rowsF (invF f s)), .mem .fresh (some 1) (rowsF (invS f s))]))), (10, some (.val (.mem .own (some 1) (rows Q)))), (11, some (.val (.set (Q.map txt)))), (12, some (.val (I z)))]) ?_ 0 _ (ExT.mk [w] ⟨⟨TB.start _ _ w, by simp; omega, by simp⟩, by simp [rows]⟩)
  rintro i e ⟨Q, ⟨gb, gl, gi⟩, rfl⟩
  by_cases hi : i < Q.length
  · simp [hi]
    repeat (refine And.intro (by omega) ?_)
    refine wpLoop_lower (α := Nat) (fun z => w.length - z) (fun z e => ExT fun Q => (TB (cMv f s) (2 * (w.length - 1)) w Q i (2 * z) ∧ Q.length ≤ lim ∧ i < Q.length ∧ z ≤ w.length - 1) ∧ e = fr [(1, some (.val (ix w))), (2, some (.val (I lim))), (3, some (.val (.mem .own none [tb f, tb s]))), (8, some (.val (.mem .own none [.mem .fresh (some 1) (rowsF (invF f s)), .mem .fresh (some 1) (rowsF (invS f s))]))), (10, some (.val (.mem .own (some 1) (rows Q)))), (11, some (.val (.set (Q.map txt)))), (12, some (.val (I i))), (38, some (.val (I ((w.length : Int) - 1)))), (39, some (.val (I z)))]) ?_ 0 _ (ExT.mk Q ⟨⟨gb, gl, hi, by omega⟩, by simp⟩)
    clear gb gl gi hi Q
    rintro k e ⟨Q, ⟨gb, gl, gi, gk⟩, rfl⟩
    have gf := gb.f
    by_cases hk : k < w.length - 1
    · have hk' : (k : Int) < (w.length : Int) - 1 := by omega
      simp [hk']
      refine wpLoop_count (fun j e => ExT fun Q => (TB (cMv f s) (2 * (w.length - 1)) w Q i (2 * k + j) ∧ Q.length ≤ lim ∧ i < Q.length) ∧ e = fr [(1, some (.val (ix w))), (2, some (.val (I lim))), (3, some (.val (.mem .own none [tb f, tb s]))), (8, some (.val (.mem .own none [.mem .fresh (some 1) (rowsF (invF f s)), .mem .fresh (some 1) (rowsF (invS f s))]))), (10, some (.val (.mem .own (some 1) (rows Q)))), (11, some (.val (.set (Q.map txt)))), (12, some (.val (I i))), (13, some (.val (I k))), (38, some (.val (I ((w.length : Int) - 1)))), (39, some (.val (I k))), (44, some (.vagg [.val (tb f), .val (tb s), .val (.mem .fresh (some 1) (rowsF (invF f s))), .val (.mem .fresh (some 1) (rowsF (invS f s)))])), (45, some (.val (I j)))]) 2 ?_ ?_ 0 _ (by omega) (ExT.mk Q ⟨⟨gb, gl, gi⟩, by simp⟩)
      · clear gb gl gf gi Q
        rintro j e hj ⟨Q, ⟨gb, gl, gi⟩, rfl⟩
        have gf := gb.f
        have hQi := CR_in hpm hinj hw (gf.gr _ (List.getElem_mem gi))
        have hil : (i : Int) < Q.length := by omega
        obtain rfl | rfl : j = 0 ∨ j = 1 := by omega
        · rw [Nat.add_zero] at gb
          have hmv := h44 f s Q[i] k hpm (by omega) (by omega) hQi.1
          rw [← cMv_0] at hmv
          have hWr := (gf.gr _ (List.getElem_mem gi)).step (cMv f s) (2 * (w.length - 1)) w (i := 2 * k) (by omega)
          have hWl : (cMv f s Q[i] (2 * k)).length = w.length := by rw [cMv_length]; exact hQi.2
          have htx := h312 (cMv f s Q[i] (2 * k)) (hx12 _ _ hWr) (by omega)
          have hkey : txt (cMv f s Q[i] (2 * k)) ∈ Q.map txt ↔ cMv f s Q[i] (2 * k) ∈ Q := by
            rw [List.mem_map]
            constructor
            · rintro ⟨y, hy, he⟩
              exact txt_inj (hx12 _ y (gf.gr y hy)) (hx12 _ _ hWr) he ▸ hy
            · exact fun hh => ⟨_, hh, rfl⟩
          have hold := fun hin => gb.old gi (k := 2 * k) hin
          have hnew := fun hin => gb.new gi (k := 2 * k) (by omega) hin
          have hnewF := fun hin => gf.new gi (k := 2 * k) (by omega) hin
          simp [gi, hil]
          repeat (refine And.intro (by omega) ?_)
          refine callR hmv rfl rfl (fun _ => by simp) ?_
          generalize cMv f s Q[i] (2 * k) = W at *
          simp
          refine callR htx rfl rfl (fun _ => rfl) ?_
          by_cases hin : W ∈ Q
          · have hk2 := hkey.2 hin
            generalize hK : Q.map txt = KS at *
            simp [hk2]
            repeat (refine And.intro (by omega) ?_)
            exact ExT.mk Q ⟨⟨hold hin, gl, gi⟩, by simp [hK]⟩
          · have hk2 : ¬ txt W ∈ Q.map txt := fun hh => hin (hkey.1 hh)
            have hK2 : (Q ++ [W]).map txt = Q.map txt ++ [txt W] := by simp
            have n1 := hnewF hin
            generalize hK : Q.map txt = KS at *
            by_cases h5 : Q.length = lim
            · have hno : cO f s w lim = none := orbO_none n1 (by simp; omega)
              simp [hk2, h5, hno, grpT]
            · have h5' : ¬ (Q.length : Int) = lim := by omega
              have hro : Q.length + 1 ≤ roomy := by unfold roomy; omega
              simp [hk2, h5', hro]
              repeat (refine And.intro (by omega) ?_)
              exact ExT.mk (Q ++ [W]) ⟨⟨hnew hin, by simp; omega, by simp; omega⟩, by simp [hK2, rows]⟩
        ·
          have hmv := h44 (invF f s) (invS f s) Q[i] k hipm (by omega) (by omega) (by simpa using hQi.1)
          rw [← cMv_1] at hmv
          have hWr := (gf.gr _ (List.getElem_mem gi)).step (cMv f s) (2 * (w.length - 1)) w (i := 2 * k + 1) (by omega)
          have hWl : (cMv f s Q[i] (2 * k + 1)).length = w.length := by rw [cMv_length]; exact hQi.2
          have htx := h312 (cMv f s Q[i] (2 * k + 1)) (hx12 _ _ hWr) (by omega)
          have hkey : txt (cMv f s Q[i] (2 * k + 1)) ∈ Q.map txt ↔ cMv f s Q[i] (2 * k + 1) ∈ Q := by
            rw [List.mem_map]
            constructor
            · rintro ⟨y, hy, he⟩
              exact txt_inj (hx12 _ y (gf.gr y hy)) (hx12 _ _ hWr) he ▸ hy
            · exact fun hh => ⟨_, hh, rfl⟩
          have hold := fun hin => gb.old gi (k := 2 * k + 1) hin
          have hnew := fun hin => gb.new gi (k := 2 * k + 1) (by omega) hin
          have hnewF := fun hin => gf.new gi (k := 2 * k + 1) (by omega) hin
          simp [gi, hil]
          repeat (refine And.intro (by omega) ?_)
          refine callR hmv rfl rfl (fun _ => by simp) ?_
          generalize cMv f s Q[i] (2 * k + 1) = W at *
          simp
          refine callR htx rfl rfl (fun _ => rfl) ?_
          by_cases hin : W ∈ Q
          · have hk2 := hkey.2 hin
            generalize hK : Q.map txt = KS at *
            simp [hk2]
            repeat (refine And.intro (by omega) ?_)
            exact ExT.mk Q ⟨⟨hold hin, gl, gi⟩, by simp [hK]⟩
          · have hk2 : ¬ txt W ∈ Q.map txt := fun hh => hin (hkey.1 hh)
            have hK2 : (Q ++ [W]).map txt = Q.map txt ++ [txt W] := by simp
            have n1 := hnewF hin
            generalize hK : Q.map txt = KS at *
            by_cases h5 : Q.length = lim
            · have hno : cO f s w lim = none := orbO_none n1 (by simp; omega)
              simp [hk2, h5, hno, grpT]
            · have h5' : ¬ (Q.length : Int) = lim := by omega
              have hro : Q.length + 1 ≤ roomy := by unfold roomy; omega
              simp [hk2, h5', hro]
              repeat (refine And.intro (by omega) ?_)
              exact ExT.mk (Q ++ [W]) ⟨⟨hnew hin, by simp; omega, by simp; omega⟩, by simp [hK2, rows]⟩
      · rintro e ⟨Q, ⟨gb, gl, gi⟩, rfl⟩
        simp
        repeat (refine And.intro (by omega) ?_)
        exact ⟨k + 1, by omega, ExT.mk Q ⟨⟨gb, gl, gi, by omega⟩, by simp⟩⟩
    · have hk' : ¬ (k : Int) < (w.length : Int) - 1 := by omega
      have hkm : k = w.length - 1 := by omega
      subst hkm
      simp [hk']
      repeat (refine And.intro (by omega) ?_)
      exact ⟨i + 1, by omega, ExT.mk Q ⟨⟨gb.up gi, gl, by omega⟩, by simp⟩⟩
  · have hQr : ∀ x ∈ Q, x.length = w.length := fun x hx => (CR_in hpm hinj hw (gb.f.gr x hx)).2
    obtain ⟨Y, ⟨y1, y2⟩, hy⟩ := h313 Q ⟨by omega, fun k => by
      by_cases hk : k < Q.length
      · have := hQr _ (List.getElem_mem hk)
        rw [← gt_at hk]
        omega
      · simp [gt, hk]⟩ (dj_of gb.f.nd)
    have hYl := len_of_same y1.nodup gb.f.nd y2
    have hres : cO f s w lim = some Y := orbO_some ⟨y1, fun x => (y2 x).trans ⟨gb.f.gr x, gb.all hi x⟩⟩ (by omega)
    simp [hi]
    refine callM (ts' := [ownR Y, .fn 314 []]) (r := .tup []) ?_ ?_ ?_ ?_
    · simp
    · simpa using hy
    · simp
    · simp [hres, grpT]
end Go.Mch
/- Classes of words, equal words and normal words. -/
namespace Go.Mch

/-! ### Lists among lists -/

def S_find (pg : Pg) : Prop := ∀ (X : List (List Int)) (w : List Int), X.length ≤ 1048576 → (∀ x ∈ X, x.length ≤ 1048576) → Call pg 340 [tb X, ix w] [tb X, ix w] (B (decide (w ∈ X)))
theorem t_l09Find {pg : Pg} (hp : pg.fn 340 = some c_spec_l09Find) (h67 : S_same pg) : S_find pg := by
  intro X w hl hr
  refine Call.intro hp rfl (by simp) ?_
  show wp _ _ c_spec_l09Find.body (post [.t 4] _ _ _) _
  simp [c_spec_l09Find]
  refine wpLoop_count (fun k e => (∀ i (h : i < X.length), i < k → X[i] ≠ w) ∧ e = fr [(0, some (.val (tb X))), (1, some (.val (ix w))), (5, some (.val (I k)))]) X.length ?_ ?_ 0 _ (by omega) ?_
  · rintro k e hk ⟨h1, rfl⟩
    have hs := h67 X[k] w (hr _ (List.getElem_mem hk))
    simp [hk]
    refine callR hs rfl rfl (fun _ => rfl) ?_
    by_cases he : X[k] = w
    · have hm : w ∈ X := he ▸ List.getElem_mem hk
      simp [he, hm]
    · simp [he]
      refine ⟨by omega, fun i hi hik => ?_⟩
      rcases Nat.lt_or_ge i k with h2 | h2
      · exact h1 i hi h2
      · have : i = k := by omega
        subst this; exact he
  · rintro e ⟨h1, rfl⟩
    have hm : w ∉ X := fun hm => by
      obtain ⟨i, hi, he⟩ := List.getElem_of_mem hm
      exact h1 i hi hi he
    simp [hm]
  · simp

def S_eqTo407 (pg : Pg) : Prop := ∀ (w x : List Int), w.length ≤ 1048576 → x.length ≤ 1048576 → Call pg 407 [ix x, .mem .old none [ix w]] [ix x, .mem .old none [ix w]] (B (decide (x = w)))
theorem t_listIndex1 {pg : Pg} (hp : pg.fn 407 = some c_impl_listIndex_1) (h276 : S_equal pg) : S_eqTo407 pg := by
  intro w x hw hx
  refine Call.intro hp rfl (by simp) ?_
  show wp _ _ c_impl_listIndex_1.body (post [.t 3] _ _ _) _
  simp [c_impl_listIndex_1]
  refine callR (h276 x w hx) rfl rfl (fun _ => rfl) ?_
  simp
def S_listIndex (pg : Pg) : Prop := ∀ (X : List (List Int)) (w : List Int), X.length ≤ 1048576 → w.length ≤ 1048576 → (∀ x ∈ X, x.length ≤ 1048576) → ∃ r : Int, (0 ≤ r ↔ w ∈ X) ∧ Call pg 341 [tb X, ix w] [tb X, ix w] (I r)
theorem t_listIndex {pg : Pg} (hp : pg.fn 341 = some c_impl_listIndex) (h70 : S_indexFunc pg) (h407 : S_eqTo407 pg) : S_listIndex pg := by
  intro X w hl hw hr
  obtain ⟨r, h1, h2⟩ := h70 X (fun x => decide (x = w)) 407 [.mem .old none [ix w]] hl (by simp) (by simp) fun x hx => h407 w x hw (hr x hx)
  have hany : X.any (fun x => decide (x = w)) = true ↔ w ∈ X := by
    rw [List.any_eq_true]
    constructor
    · rintro ⟨y, hy, he⟩
      rw [decide_eq_true_iff] at he
      exact he ▸ hy
    · exact fun hh => ⟨w, hh, by simp⟩
  refine ⟨r, h1.trans hany, Call.intro hp rfl (by simp) ?_⟩
  show wp _ _ c_impl_listIndex.body (post [.t 4] _ _ _) _
  simp [c_impl_listIndex]
  refine callR h2 rfl rfl (fun _ => rfl) ?_
  simp

/-! ### ClassOfWord -/

open Classical in
noncomputable def cwO (f s : List (List Int)) (w : List Int) : Option (List (List Int)) := if isSol f s ∧ isWd f.length w then cO f s w 1000 else none
open Classical in
noncomputable def cwC (f s : List (List Int)) (w : List Int) : Int := if isSol f s then (if isWd f.length w then cd3 (cO f s w 1000) else 2) else 1
noncomputable def cwR (f s : List (List Int)) (w : List Int) : List (List Int) := lso (cwO f s w)
def S_cw (pg : Pg) (n : Nat) : Prop := ∀ (f s : List (List Int)) (w : List Int), fits f → fits s → w.length ≤ 1048576 → ∃ o, lso o = cwR f s w ∧ Call pg n [sol f s, ix w] [sol f s, ix w] (.tup [ownT o, I (cwC f s w)])
theorem wdC_1 {f s : List (List Int)} (h : ¬ isSol f s) (us : List (List Int)) : wdC f s us = 1 := by simp only [wdC, if_neg h]
theorem wdC_2 {f s : List (List Int)} (h : isSol f s) {us : List (List Int)} (h2 : ¬ ∀ u ∈ us, isWd f.length u) : wdC f s us = 2 := by simp only [wdC, if_pos h, if_neg h2]
theorem wdC_0 {f s : List (List Int)} (h : isSol f s) {us : List (List Int)} (h2 : ∀ u ∈ us, isWd f.length u) : wdC f s us = 0 := by simp only [wdC, if_pos h, if_pos h2]
theorem cO_len {f s : List (List Int)} (h : isSol f s) {w : List Int} (hw : inN f.length w) {lim : Nat} {Z : List (List Int)} (hz : cO f s w lim = some Z) : Z.length ≤ lim ∧ (∀ x ∈ Z, inN f.length x ∧ x.length = w.length) ∧ w ∈ Z := by
  have := orbO_spec hz
  exact ⟨this.2, fun x hx => CR_in (PM.of h.1) h.2.1 hw ((this.1.2 x).1 hx), (this.1.2 w).2 (TR.start _ _ w)⟩
theorem t_cw_spec {pg : Pg} (hp : pg.fn 215 = some c_spec_ClassOfWord) (h37 : S_code37 pg) (h339 : S_class pg) : S_cw pg 215 := by
  intro f s w hf hs hl
  refine ⟨cwO f s w, rfl, Call.intro hp rfl (by simp) ?_⟩
  show wp _ _ c_spec_ClassOfWord.body (post [.t 4, .t 5] _ _ _) _
  simp [c_spec_ClassOfWord]
  refine callR (h37 f s w w hf hs hl hl) rfl rfl (fun _ => rfl) ?_
  by_cases h : isSol f s
  · by_cases h1 : isWd f.length w
    · have e0 := wdC_0 h (us := [w, w]) (by simp [h1])
      have hc := h339 f s w 1000 h (wd_in h1) (by have := h1.2; omega) (by omega) (by omega)
      have e1 : cwO f s w = cO f s w 1000 := by simp only [cwO, if_pos (And.intro h h1)]
      have e2 : cwC f s w = cd3 (cO f s w 1000) := by simp only [cwC, if_pos h, if_pos h1]
      simp [e0, e1, e2]
      cases hg : cO f s w 1000 with
      | none =>
        rw [hg] at hc
        refine callR hc rfl rfl (fun _ => by simp [grpT]) ?_
        simp [grpT, ownT, cd3]
      | some X =>
        rw [hg] at hc
        refine callR hc rfl rfl (fun _ => by simp [grpT]) ?_
        simp [grpT, ownT, cd3]
    · have e0 := wdC_2 h (us := [w, w]) (by simp [h1])
      have e1 : cwO f s w = none := by simp only [cwO, if_neg fun hh : _ ∧ _ => h1 hh.2]
      have e2 : cwC f s w = 2 := by simp only [cwC, if_pos h, if_neg h1]
      simp [e0, e1, e2, ownT]
  · have e0 := wdC_1 h [w, w]
    have e1 : cwO f s w = none := by simp only [cwO, if_neg fun hh : _ ∧ _ => h hh.1]
    have e2 : cwC f s w = 1 := by simp only [cwC, if_neg h]
    simp [e0, e1, e2, ownT]
def S_lim (pg : Pg) : Prop := ∀ (f s : List (List Int)) (w : List Int), fits f → fits s → isSol f s → inN f.length w → w.length ≤ 12 → Call pg 297 [sol f s, ix w] [sol f s, ix w] (.tup [ownT (cO f s w 1000), I (cd3 (cO f s w 1000))])
theorem t_limitedClass {pg : Pg} (hp : pg.fn 297 = some c_impl_limitedClass) (h352 : S_wordClass pg) : S_lim pg := by
  intro f s w hf hs h hw hl
  refine Call.intro hp rfl (by simp) ?_
  show wp _ _ c_impl_limitedClass.body (post [.t 4, .t 5] _ _ _) _
  simp [c_impl_limitedClass]
  have hc := h352 f s w 1000 hf hs h hw hl (by omega) (by omega)
  cases hg : cO f s w 1000 with
  | none =>
    rw [hg] at hc
    refine callR hc rfl rfl (fun _ => by simp [grpT]) ?_
    simp [grpT, ownT, cd3]
  | some X =>
    rw [hg] at hc
    refine callR hc rfl rfl (fun _ => by simp [grpT]) ?_
    simp [grpT, ownT, cd3]
end Go.Mch
/- Equal words and normal words. -/
namespace Go.Mch

/-! ### Normal words -/

def hd0 (X : List (List Int)) : List Int := X.getD 0 []
noncomputable def nwO (f s : List (List Int)) (w : List Int) : Option (List Int) := (cO f s w 1000).map hd0
noncomputable def nwR (f s : List (List Int)) (w : List Int) : List Int := hd0 (cwR f s w)
def S_nw (pg : Pg) (n : Nat) : Prop := ∀ (f s : List (List Int)) (w : List Int), fits f → fits s → w.length ≤ 1048576 → ∃ o, lso o = nwR f s w ∧ Call pg n [sol f s, ix w] [sol f s, ix w] (.tup [ownI o, I (cwC f s w)])
theorem cw_0 {f s : List (List Int)} {w : List Int} (h : cwC f s w = 0) : isSol f s ∧ isWd f.length w ∧ ∃ Z, cO f s w 1000 = some Z ∧ cwR f s w = Z := by
  unfold cwC at h
  split at h
  · rename_i h1
    split at h
    · rename_i h2
      refine ⟨h1, h2, ?_⟩
      cases hg : cO f s w 1000 with
      | none => rw [hg] at h; simp [cd3] at h
      | some Z => exact ⟨Z, rfl, by simp only [cwR, cwO, if_pos (And.intro h1 h2), hg, lso_some]⟩
    · omega
  · omega
theorem cw_ne {f s : List (List Int)} {w : List Int} (h : cwC f s w ≠ 0) : cwR f s w = [] := by
  unfold cwR cwO
  split
  · rename_i h1
    cases hg : cO f s w 1000 with
    | none => simp
    | some Z => exact absurd (by simp only [cwC, if_pos h1.1, if_pos h1.2, hg]; rfl) h
  · rfl
theorem ownT_ne {o : Option (List (List Int))} {Z : List (List Int)} (h : lso o = Z) (h2 : 0 < Z.length) : o = some Z := by
  cases o with
  | none => simp at h; subst h; simp at h2
  | some X => simp at h; rw [h]
theorem t_nw_spec {pg : Pg} (hp : pg.fn 220 = some c_spec_NormalWord) (h215 : S_cw pg 215) : S_nw pg 220 := by
  intro f s w hf hs hl
  obtain ⟨o, ho, hc⟩ := h215 f s w hf hs hl
  by_cases h0 : cwC f s w = 0
  · obtain ⟨h1, h2, Z, h3, h4⟩ := cw_0 h0
    have hZ := cO_len h1 (wd_in h2) h3
    have hZ0 : 0 < Z.length := List.length_pos_of_mem hZ.2.2
    have := ownT_ne (ho.trans h4) hZ0
    subst this
    refine ⟨some (hd0 Z), by simp [nwR, h4], Call.intro hp rfl (by simp) ?_⟩
    show wp _ _ c_spec_NormalWord.body (post [.t 4, .t 5] _ _ _) _
    simp [c_spec_NormalWord]
    rw [h0] at hc ⊢
    refine callR hc rfl rfl (fun _ => by simp [ownT]) ?_
    have e : hd0 Z = Z[0] := by simp [hd0, List.getD_eq_getElem?_getD, List.getElem?_eq_getElem hZ0]
    simp [ownT, ownI, hZ0, e]
  · refine ⟨none, by simp [nwR, cw_ne h0, hd0], Call.intro hp rfl (by simp) ?_⟩
    show wp _ _ c_spec_NormalWord.body (post [.t 4, .t 5] _ _ _) _
    simp [c_spec_NormalWord]
    cases o with
    | none =>
      refine callR hc rfl rfl (fun _ => by simp [ownT]) ?_
      simp [ownT, ownI, h0]
    | some X =>
      refine callR hc rfl rfl (fun _ => by simp [ownT]) ?_
      simp [ownT, ownI, h0]
/-- The normal word, of the program. -/
def S_nwI (pg : Pg) : Prop := ∀ (f s : List (List Int)) (w : List Int), fits f → fits s → isSol f s → inN f.length w → w.length ≤ 12 → Call pg 342 [sol f s, ix w] [sol f s, ix w] (.tup [ownI (nwO f s w), I (cd3 (cO f s w 1000))])
theorem t_normalWord {pg : Pg} (hp : pg.fn 342 = some c_impl_normalWord) (h297 : S_lim pg) : S_nwI pg := by
  intro f s w hf hs h hw hl
  have hc := h297 f s w hf hs h hw hl
  refine Call.intro hp rfl (by simp) ?_
  show wp _ _ c_impl_normalWord.body (post [.t 4, .t 5] _ _ _) _
  simp [c_impl_normalWord, nwO]
  cases hg : cO f s w 1000 with
  | none =>
    rw [hg] at hc
    refine callR hc rfl rfl (fun _ => by simp [ownT]) ?_
    simp [ownT, ownI, cd3]
  | some Z =>
    rw [hg] at hc
    have hZ := cO_len h hw hg
    have hZ0 : 0 < Z.length := List.length_pos_of_mem hZ.2.2
    refine callR hc rfl rfl (fun _ => by simp [ownT]) ?_
    have e : hd0 Z = Z[0] := by simp [hd0, List.getD_eq_getElem?_getD, List.getElem?_eq_getElem hZ0]
    simp [ownT, ownI, cd3, hZ0, e]
end Go.Mch
/- The solution on a closed set, of the reference and of the program. -/
namespace Go.Mch

/-- Rows that were appended to nil. -/
def rowN (X : List (List Int)) : T := if X = [] then nil else .mem .own (some 1) (rows X)
theorem rowN_ne {X : List (List Int)} (h : X ≠ []) : rowN X = .mem .own (some 1) (rows X) := by simp [rowN, h]
theorem rowN_snoc (X : List (List Int)) (r : List Int) : rowN (X ++ [r]) = .mem .own (some 1) (rows X ++ [.mem .own (some 1) (r.map I)]) := by
  rw [rowN_ne (by simp)]; simp [rows]
/-! ### SubSolution -/

end Go.Mch
