/- FixedPairs, of the reference and of the program. -/
import Derived.Test.YtkdoegjnnfmpaaaYfG
namespace Go.Mch

/-- The fixed pairs with first number x and a second one below y. -/
def fixTo (f s : List (List Int)) (x y : Nat) : List (List Int) := ((List.range y).filter fun j : Nat => decide (v2 f x j = x ∧ v2 s x j = j)).map fun j : Nat => [(x : Int), (j : Int)]
/-- The fixed pairs with first number below x. -/
def fixL (f s : List (List Int)) (x : Nat) : List (List Int) := (List.range x).flatMap fun i => fixTo f s i f.length
theorem fixTo_succ (f s : List (List Int)) (x y : Nat) : fixTo f s x (y + 1) = fixTo f s x y ++ (if v2 f x y = x ∧ v2 s x y = y then [[(x : Int), y]] else []) := by
  simp only [fixTo, List.range_succ, List.filter_append, List.map_append]
  congr 1
  by_cases h : v2 f x y = x ∧ v2 s x y = y <;> simp [h]
theorem fixL_succ (f s : List (List Int)) (x : Nat) : fixL f s (x + 1) = fixL f s x ++ fixTo f s x f.length := by
  simp [fixL, List.range_succ]
theorem fixTo_len (f s : List (List Int)) (x y : Nat) : (fixTo f s x y).length ≤ y := by
  have := List.length_filter_le (fun j : Nat => decide (v2 f x j = x ∧ v2 s x j = j)) (List.range y)
  simp only [fixTo, List.length_map]
  simpa using this
theorem fixL_len (f s : List (List Int)) : ∀ x, (fixL f s x).length ≤ x * f.length
  | 0 => by simp [fixL]
  | x + 1 => by
    rw [fixL_succ, List.length_append, Nat.succ_mul]
    have := fixL_len f s x
    have := fixTo_len f s x f.length
    omega
theorem fixL_row (f s : List (List Int)) (x : Nat) : ∀ r ∈ fixL f s x, r.length = 2 := by
  intro r hr
  simp only [fixL, fixTo, List.mem_flatMap, List.mem_map] at hr
  obtain ⟨i, _, j, _, rfl⟩ := hr
  rfl
theorem rows_append (a b : List (List Int)) : rows (a ++ b) = rows a ++ rows b := by simp [rows]

open Classical in
/-- What FixedPairs returns. -/
noncomputable def fixP (f s : List (List Int)) : List (List Int) := if isSol f s then fixL f s f.length else []
open Classical in
noncomputable def fixC (f s : List (List Int)) : Int := if isSol f s then 0 else 1

def S_fp (pg : Pg) (n : Nat) : Prop := ∀ f s : List (List Int), fits f → fits s → ∃ o, lso o = fixP f s ∧ Call pg n [sol f s] [sol f s] (.tup [ownT o, I (fixC f s)])

set_option maxRecDepth 10000 in
theorem t_fp19 {pg : Pg} (hp : pg.fn 19 = some c_spec_FixedPairs) (h41 : S_isSol pg 41) : S_fp pg 19 := by
  intro f s hf hs
  by_cases h : isSol f s
  · have hpm := PM.of h.1
    have h0 := hpm.pos
    have h12 := hpm.small
    have fr' := fun x hx => hpm.tf.row (x := x) hx
    have sr' : ∀ x (hx : x < s.length), (s[x]).length = f.length := fun x hx => (hpm.ts.row hx).trans hpm.len
    have hc : fixC f s = 0 := by simp [fixC, h]
    refine ⟨some (fixL f s f.length), by simp [fixP, h], Call.intro hp rfl (by simp) ?_⟩
    simp only [ownT]
    show wp _ _ c_spec_FixedPairs.body (post [.t 2, .t 3] _ _ _) _
    simp [c_spec_FixedPairs]
    refine callR (h41 f s hf hs) rfl rfl (fun _ => rfl) ?_
    simp [dec_true h]
    refine wpLoop_count (fun x e => e = fr [(1, some (.val (.mem .own none [tb f, tb s]))), (4, some (.val (.mem .own (some 1) (rows (fixL f s x))))), (5, some (.val (I x)))]) f.length ?_ ?_ 0 _ (by omega) ?_
    · rintro x e hx rfl
      simp [hx]
      refine wpLoop_count (fun y e => e = fr [(1, some (.val (.mem .own none [tb f, tb s]))), (4, some (.val (.mem .own (some 1) (rows (fixL f s x ++ fixTo f s x y))))), (5, some (.val (I x))), (6, some (.val (I y)))]) f.length ?_ ?_ 0 _ (by omega) ?_
      · rintro y e hy rfl
        have hl1 : (fixL f s x).length ≤ 144 := Nat.le_trans (fixL_len f s x) (Nat.mul_le_mul (show x ≤ 12 by omega) h12)
        have hl2 : (fixTo f s x y).length ≤ 144 := Nat.le_trans (fixTo_len f s x y) (by omega)
        rw [fixTo_succ]
        by_cases e1 : v2 f x y = x
        · by_cases e2 : v2 s x y = y
          · simp [hx, hy, fr', sr', hpm.len, get_v2, e1, e2]
            refine ⟨by unfold roomy; omega, by omega, ?_⟩
            simp [rows]
          · simp [hx, hy, fr', sr', hpm.len, get_v2, e1, e2]
            omega
        · simp [hx, hy, fr', get_v2, e1, undefV]
          omega
      · rintro e rfl
        simp [fixL_succ]
        omega
      · simp [fixTo]
    · rintro e rfl
      simp [hc]
    · simp [fixL, rows]
  · have hc : fixC f s = 1 := by simp [fixC, h]
    refine ⟨none, by simp [fixP, h], Call.intro hp rfl (by simp) ?_⟩
    simp only [ownT]
    show wp _ _ c_spec_FixedPairs.body (post [.t 2, .t 3] _ _ _) _
    simp [c_spec_FixedPairs]
    refine callR (h41 f s hf hs) rfl rfl (fun _ => rfl) ?_
    simp [dec_false h, hc]

/-- A list that is nil where it is empty. -/
def oL (l : List (List Int)) : Option (List (List Int)) := if l = [] then none else some l
theorem lso_oL (l : List (List Int)) : lso (oL l) = l := by
  unfold oL
  split
  · next h => rw [h]; rfl
  · rfl

set_option maxRecDepth 10000 in
theorem t_fp20 {pg : Pg} (hp : pg.fn 20 = some c_impl_FixedPairs) (h42 : S_isSol pg 42) : S_fp pg 20 := by
  intro f s hf hs
  by_cases h : isSol f s
  · have hpm := PM.of h.1
    have h0 := hpm.pos
    have h12 := hpm.small
    have fr' := fun x hx => hpm.tf.row (x := x) hx
    have sr' : ∀ x (hx : x < s.length), (s[x]).length = f.length := fun x hx => (hpm.ts.row hx).trans hpm.len
    have hc : fixC f s = 0 := by simp [fixC, h]
    refine ⟨oL (fixL f s f.length), by simp [fixP, h, lso_oL], Call.intro hp rfl (by simp) ?_⟩
    show wp _ _ c_impl_FixedPairs.body (post [.t 2, .t 3] _ _ _) _
    simp [c_impl_FixedPairs]
    refine callR (h42 f s hf hs) rfl rfl (fun _ => rfl) ?_
    simp [dec_true h]
    refine wpLoop_count (fun x e => e = fr [(1, some (.val (.mem .own none [tb f, tb s]))), (4, some (.val (ownT (oL (fixL f s x))))), (13, some (.val (tb f))), (14, some (.val (I f.length))), (15, some (.val (I x)))]) f.length ?_ ?_ 0 _ (by omega) ?_
    · rintro x e hx rfl
      simp [hx, fr']
      refine wpLoop_count (fun y e => e = fr [(1, some (.val (.mem .own none [tb f, tb s]))), (4, some (.val (ownT (oL (fixL f s x ++ fixTo f s x y))))), (5, some (.val (I x))), (13, some (.val (tb f))), (14, some (.val (I f.length))), (15, some (.val (I x))), (20, some (.val (ix f[x]))), (21, some (.val (I f.length))), (22, some (.val (I y)))]) f.length ?_ ?_ 0 _ (by omega) ?_
      · rintro y e hy rfl
        have hl1 : (fixL f s x).length ≤ 144 := Nat.le_trans (fixL_len f s x) (Nat.mul_le_mul (show x ≤ 12 by omega) h12)
        have hl2 : (fixTo f s x y).length ≤ 144 := Nat.le_trans (fixTo_len f s x y) (by omega)
        rw [fixTo_succ, ← List.append_assoc]
        generalize hL : fixL f s x ++ fixTo f s x y = L at *
        have hl3 : L.length ≤ 288 := by rw [← hL, List.length_append]; omega
        by_cases e1 : v2 f x y = x
        · by_cases e2 : v2 s x y = y
          · cases L with
            | nil =>
              simp [hx, hy, fr', sr', hpm.len, get_v2, e1, e2, oL, ownT]
              refine ⟨by unfold roomy; omega, by omega, ?_⟩
              simp [rows]
            | cons r L =>
              simp [hx, hy, fr', sr', hpm.len, get_v2, e1, e2, oL, ownT]
              simp only [List.length_cons] at hl3
              refine ⟨by unfold roomy; omega, by omega, ?_⟩
              simp [rows]
          · simp [hx, hy, fr', sr', hpm.len, get_v2, e1, e2]
            omega
        · simp [hy, fr', get_v2, e1, undefV]
          omega
      · rintro e rfl
        simp [fixL_succ]
        omega
      · simp [fixTo]
    · rintro e rfl
      by_cases hL : fixL f s f.length = []
      · simp [hc, oL, ownT, hL]
      · simp [hc, oL, ownT, hL]
    · simp [fixL, oL, ownT]
  · have hc : fixC f s = 1 := by simp [fixC, h]
    refine ⟨none, by simp [fixP, h], Call.intro hp rfl (by simp) ?_⟩
    simp only [ownT]
    show wp _ _ c_impl_FixedPairs.body (post [.t 2, .t 3] _ _ _) _
    simp [c_impl_FixedPairs]
    refine callR (h42 f s hf hs) rfl rfl (fun _ => rfl) ?_
    simp [dec_false h, hc]
end Go.Mch
