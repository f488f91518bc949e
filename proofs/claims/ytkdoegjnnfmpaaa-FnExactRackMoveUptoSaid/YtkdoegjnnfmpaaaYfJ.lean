/- TupleMove, of the reference and of the program. -/
import Derived.Test.YtkdoegjnnfmpaaaYfI
namespace Go.Mch

def S_elements (pg : Pg) : Prop := ∀ (n : Int) (xs : List Int), xs.length ≤ 1048576 → 0 ≤ n → n ≤ 1048576 → Call pg 49 [I n, ix xs] [I n, ix xs] (B (decide (inR 0 (n - 1) xs)))
theorem t_elements {pg : Pg} (hp : pg.fn 49 = some c_spec_l04Elements) (h30 : S_in pg 30) : S_elements pg := by
  intro n xs hl hn hn2
  refine Call.intro hp rfl (by simp) ?_
  show wp _ _ c_spec_l04Elements.body (post [.t 4] _ _ _) _
  simp [c_spec_l04Elements]
  refine wpLoop_count (fun k e => (∀ i (h : i < xs.length), i < k → 0 ≤ xs[i] ∧ xs[i] ≤ n - 1) ∧ e = fr [(0, some (.val (I n))), (1, some (.val (ix xs))), (5, some (.val (I k)))]) xs.length ?_ ?_ 0 _ (by omega) ?_
  · rintro k e hk ⟨h1, rfl⟩
    simp [hk]
    refine ⟨by omega, ?_⟩
    refine callR (h30 _ _ _) rfl rfl (fun _ => rfl) ?_
    by_cases hm : 0 ≤ xs[k] ∧ xs[k] ≤ n - 1
    · simp [hm]
      refine ⟨by omega, fun i hi hik => ?_⟩
      rcases Nat.lt_or_ge i k with h2 | h2
      · exact h1 i hi h2
      · have : i = k := by omega
        subst this; exact hm
    · have : ¬ inR 0 (n - 1) xs := fun h => hm (h _ (List.getElem_mem hk))
      simp [hm, this]
  · rintro e ⟨h1, rfl⟩
    have : inR 0 (n - 1) xs := fun x hx => by
      obtain ⟨i, hi, rfl⟩ := List.getElem_of_mem hx
      exact h1 i hi hi
    simp [this]
  · simp

def isTup (n : Int) (xs : List Int) : Prop := xs.length ≤ 12 ∧ inR 0 (n - 1) xs
instance (n : Int) (xs : List Int) : Decidable (isTup n xs) := by unfold isTup; infer_instance
def S_tuple (pg : Pg) (f : Nat) : Prop := ∀ (n : Int) (xs : List Int), xs.length ≤ 1048576 → 0 ≤ n → n ≤ 1048576 → Call pg f [I n, ix xs] [I n, ix xs] (B (decide (isTup n xs)))
theorem t_l06Tuple {pg : Pg} (hp : pg.fn 29 = some c_spec_l06Tuple) (h49 : S_elements pg) : S_tuple pg 29 := by
  intro n xs hl hn hn2
  refine Call.intro hp rfl (by simp) ?_
  show wp _ _ c_spec_l06Tuple.body (post [.t 4] _ _ _) _
  simp [c_spec_l06Tuple]
  by_cases h1 : xs.length ≤ 12
  · have h1' : (xs.length : Int) ≤ 12 := by omega
    simp [h1']
    refine callR (h49 n xs hl hn hn2) rfl rfl (fun _ => rfl) ?_
    simp [isTup, h1]
  · have h1' : ¬ (xs.length : Int) ≤ 12 := by omega
    simp [h1', isTup, h1, undefV]
theorem t_isTuple {pg : Pg} (hp : pg.fn 34 = some c_impl_isTuple) (h39 : S_areElements pg) : S_tuple pg 34 := by
  intro n xs hl hn hn2
  refine Call.intro hp rfl (by simp) ?_
  show wp _ _ c_impl_isTuple.body (post [.t 4] _ _ _) _
  simp [c_impl_isTuple]
  by_cases h1 : xs.length ≤ 12
  · have h1' : (xs.length : Int) ≤ 12 := by omega
    simp [h1']
    refine callR (h39 n xs hl hn hn2) rfl rfl (fun _ => rfl) ?_
    simp [isTup, h1]
  · have h1' : ¬ (xs.length : Int) ≤ 12 := by omega
    simp [h1', isTup, h1, undefV]

def S_clone (pg : Pg) : Prop := ∀ xs : List Int, xs.length ≤ 1048576 → Call pg 36 [ix xs] [ix xs] (.mem .own (some 1) (xs.map I))
theorem t_clone {pg : Pg} (hp : pg.fn 36 = some c_slices_Clone___int64_int64_) : S_clone pg := by
  intro xs hl
  refine Call.intro hp rfl (by simp) ?_
  show wp _ _ c_slices_Clone___int64_int64_.body (post [.t 2] _ _ _) _
  simp [c_slices_Clone___int64_int64_, roomy]
  omega

set_option maxRecDepth 10000 in
theorem t_moved {pg : Pg} (hp : pg.fn 44 = some c_impl_moved) (h36 : S_clone pg) : S_do pg 44 := by
  intro f s w i h hi hl hw
  refine Call.intro hp rfl (by simp) ?_
  show wp _ _ c_impl_moved.body (post [.t 6] _ _ _) _
  have h1 := hw _ (List.getElem_mem (show i < w.length by omega))
  have h2 := hw _ (List.getElem_mem hi)
  have fr' := fun x hx => h.tf.row (x := x) hx
  have sr' : ∀ x (hx : x < s.length), (s[x]).length = f.length := fun x hx => (h.ts.row hx).trans h.len
  have hi0 : i < w.length := by omega
  have hiI : (i : Int) + 1 < w.length := by omega
  have e1 : ((i : Int) + 1).toNat = i + 1 := by omega
  have t1 : (w[i]).toNat < f.length := by omega
  have t2 : (w[i + 1]).toNat < f.length := by omega
  have hb : -9223372036854775808 ≤ (i : Int) + 1 ∧ (i : Int) + 1 ≤ 9223372036854775807 := by omega
  have hb0 : 0 ≤ (i : Int) + 1 := by omega
  simp [c_impl_moved]
  refine callR (h36 _ hl) rfl rfl (fun _ => by simp) ?_
  simp [hi, hb, hb0, hi0, hiI, e1, h1, h2, t1, t2, fr', sr', h.len, get_g2]
  refine ⟨by omega, ?_⟩
  simp [dW, hi0, hi]

/-- What TupleMove takes. -/
def tmOk (f : List (List Int)) (w : List Int) (p : Int) : Prop := isTup f.length w ∧ 0 ≤ p ∧ p ≤ (w.length : Int) - 2
instance (f : List (List Int)) (w : List Int) (p : Int) : Decidable (tmOk f w p) := by unfold tmOk; infer_instance
open Classical in
noncomputable def tmR (f s : List (List Int)) (w : List Int) (p : Int) : Option (List Int) := if isSol f s then if tmOk f w p then some (dW f s w p.toNat) else none else none
open Classical in
noncomputable def tmC (f s : List (List Int)) (w : List Int) (p : Int) : Int := if isSol f s then if tmOk f w p then 0 else 2 else 1

def S_tm (pg : Pg) (n : Nat) : Prop := ∀ (f s : List (List Int)) (w : List Int) (p : Int), fits f → fits s → w.length ≤ 1048576 → Call pg n [sol f s, ix w, I p] [sol f s, ix w, I p] (.tup [ownI (tmR f s w p), I (tmC f s w p)])

theorem tm_do {pg : Pg} {n : Nat} (h : S_do pg n) {f s : List (List Int)} {w : List Int} {p : Int} (hpm : PM f s) (hl : w.length ≤ 1048576) (hok : tmOk f w p) : Call pg n [sol f s, ix w, I p] [sol f s, ix w, I p] (.mem .own (some 1) ((dW f s w p.toNat).map I)) := by
  have h1 : ((p.toNat : Nat) : Int) = p := Int.toNat_of_nonneg hok.2.1
  have := h f s w p.toNat hpm (by have := hok.2.2; have := hok.2.1; omega) hl (fun x hx => by have := hok.1.2 x hx; omega)
  rw [h1] at this
  exact this

set_option maxRecDepth 10000 in
theorem t_tm25 {pg : Pg} (hp : pg.fn 25 = some c_spec_TupleMove) (h41 : S_isSol pg 41) (h29 : S_tuple pg 29) (h30 : S_in pg 30) (h43 : S_do pg 43) : S_tm pg 25 := by
  intro f s w p hf hs hl
  refine Call.intro hp rfl (by simp) ?_
  show wp _ _ c_spec_TupleMove.body (post [.t 6, .t 7] _ _ _) _
  simp [c_spec_TupleMove]
  refine callR (h41 f s hf hs) rfl rfl (fun _ => rfl) ?_
  by_cases h : isSol f s
  · have hpm := PM.of h.1
    have h0 := hpm.pos
    have h12 := hpm.small
    simp [dec_true h]
    refine callR (h29 _ w hl (by omega) (by omega)) rfl rfl (fun _ => rfl) ?_
    by_cases h1 : isTup f.length w
    · simp [h1]
      refine ⟨by omega, ?_⟩
      refine callR (h30 p 0 _) rfl rfl (fun _ => rfl) ?_
      by_cases h2 : 0 ≤ p ∧ p ≤ (w.length : Int) - 2
      · have hok : tmOk f w p := ⟨h1, h2⟩
        have e1 : tmR f s w p = some (dW f s w p.toNat) := by simp [tmR, h, hok]
        have e2 : tmC f s w p = 0 := by simp [tmC, h, hok]
        simp [h2]
        refine callR (tm_do h43 hpm hl hok) rfl rfl (fun _ => by simp) ?_
        simp [e1, e2, ownI]
      · have hok : ¬ tmOk f w p := fun hh => h2 hh.2
        have e1 : tmR f s w p = none := by simp [tmR, h, hok]
        have e2 : tmC f s w p = 2 := by simp [tmC, h, hok]
        simp [h2, e1, e2, ownI]
    · have hok : ¬ tmOk f w p := fun hh => h1 hh.1
      have e1 : tmR f s w p = none := by simp [tmR, h, hok]
      have e2 : tmC f s w p = 2 := by simp [tmC, h, hok]
      simp [h1, e1, e2, ownI, undefV]
  · have e1 : tmR f s w p = none := by simp [tmR, h]
    have e2 : tmC f s w p = 1 := by simp [tmC, h]
    simp [dec_false h, e1, e2, ownI]

set_option maxRecDepth 10000 in
theorem t_tm26 {pg : Pg} (hp : pg.fn 26 = some c_impl_TupleMove) (h42 : S_isSol pg 42) (h34 : S_tuple pg 34) (h35 : S_in pg 35) (h44 : S_do pg 44) : S_tm pg 26 := by
  intro f s w p hf hs hl
  refine Call.intro hp rfl (by simp) ?_
  show wp _ _ c_impl_TupleMove.body (post [.t 6, .t 7] _ _ _) _
  simp [c_impl_TupleMove]
  refine callR (h42 f s hf hs) rfl rfl (fun _ => rfl) ?_
  by_cases h : isSol f s
  · have hpm := PM.of h.1
    have h0 := hpm.pos
    have h12 := hpm.small
    simp [dec_true h]
    refine callR (h34 _ w hl (by omega) (by omega)) rfl rfl (fun _ => rfl) ?_
    by_cases h1 : isTup f.length w
    · simp [h1]
      refine ⟨by omega, ?_⟩
      refine callR (h35 p 0 _) rfl rfl (fun _ => rfl) ?_
      by_cases h2 : 0 ≤ p ∧ p ≤ (w.length : Int) - 2
      · have hok : tmOk f w p := ⟨h1, h2⟩
        have e1 : tmR f s w p = some (dW f s w p.toNat) := by simp [tmR, h, hok]
        have e2 : tmC f s w p = 0 := by simp [tmC, h, hok]
        simp [h2]
        refine callR (tm_do h44 hpm hl hok) rfl rfl (fun _ => by simp) ?_
        simp [e1, e2, ownI]
      · have hok : ¬ tmOk f w p := fun hh => h2 hh.2
        have e1 : tmR f s w p = none := by simp [tmR, h, hok]
        have e2 : tmC f s w p = 2 := by simp [tmC, h, hok]
        simp [h2, e1, e2, ownI]
    · have hok : ¬ tmOk f w p := fun hh => h1 hh.1
      have e1 : tmR f s w p = none := by simp [tmR, h, hok]
      have e2 : tmC f s w p = 2 := by simp [tmC, h, hok]
      simp [h1, e1, e2, ownI, undefV]
  · have e1 : tmR f s w p = none := by simp [tmR, h]
    have e2 : tmC f s w p = 1 := by simp [tmC, h]
    simp [dec_false h, e1, e2, ownI]
end Go.Mch
