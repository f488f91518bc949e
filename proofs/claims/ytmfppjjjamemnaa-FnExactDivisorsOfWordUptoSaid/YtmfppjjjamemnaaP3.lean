/- Our texts YhI YkN YkO YhN YiV, end to end. -/
import Derived.Test.YtmfppjjjamemnaaP1
import Derived.Test.YtmfppjjjamemnaaP2
/- The runs of the exact laws, by their shapes: sol,ints-tbl,int. -/
namespace Go.Mch
def S_sh_wT (pg : Pg) (n : Nat) (R0 : List (List Int) → List (List Int) → List Int → List (List Int)) (R1 : List (List Int) → List (List Int) → List Int → Int) : Prop := ∀ (f0 s0 : List (List Int)) (w1 : List Int), fits f0 → fits s0 → w1.length ≤ 1048576 → ∃ o0, lso o0 = R0 f0 s0 w1 ∧ Call pg n [sol f0 s0, ix w1] [sol f0 s0, ix w1] (.tup [ownT o0, I (R1 f0 s0 w1)])
end Go.Mch
/- DivisorsOfWord: in plain Lean, and the walk of the program. -/
namespace Go.Mch

/-- The normal word of a word whose class is not too great. -/
noncomputable def nwv (f s : List (List Int)) (p : List Int) : List Int := hd0 (lso (cO f s p 1000))
theorem take_in {n : Nat} {w : List Int} (h : inN n w) (k : Nat) : inN n (w.take k) := fun x hx => h x (List.mem_of_mem_take hx)
/-- The begins of words of a small class have small classes. -/
theorem pre_some {f s : List (List Int)} (h : isSol f s) {w : List Int} (hw : inN f.length w) {Z : List (List Int)} (hZ : cO f s w 1000 = some Z) {x : List Int} (hx : x ∈ Z) (k : Nat) : ∃ P, cO f s (x.take k) 1000 = some P := by
  classical
  have hpm := PM.of h.1
  have hi := h.2.1
  have hlZ := cO_len h hw hZ
  have hxn := (hlZ.2.1 x hx).1
  have hpn := take_in hxn k
  generalize hp : x.take k = p at *
  have hxe : x = p ++ x.drop k := by rw [← hp]; exact (List.take_append_drop k x).symm
  have hm : ∀ y, Eqw f s p y → y ++ x.drop k ∈ Z := fun y hy => by
    have h1 := hy.app hpm hi hpn (x.drop k)
    rw [← hxe] at h1
    exact (mem_cO h hZ _).2 (((mem_cO h hZ x).1 hx).trans hpm hi hw h1)
  obtain ⟨P, p1, p2⟩ := srt_ex ((Z.filter fun y => decide (Eqw f s p (y.take p.length))).map (List.take p.length))
  have hP : ∀ y, y ∈ P ↔ Eqw f s p y := fun y => by
    rw [p2, List.mem_map]
    constructor
    · rintro ⟨z, hz, rfl⟩
      rw [List.mem_filter, decide_eq_true_iff] at hz
      exact hz.2
    · intro hy
      have hl := (hy.len hpm hi hpn).2
      refine ⟨y ++ x.drop k, List.mem_filter.2 ⟨hm y hy, ?_⟩, ?_⟩
      · rw [decide_eq_true_iff, ← hl, List.take_left]; exact hy
      · rw [← hl, List.take_left]
  have hl := len_le_of_sub P _ p1.nodup fun y hy => (p2 y).1 hy
  rw [List.length_map] at hl
  have hf := List.length_filter_le (fun y => decide (Eqw f s p (y.take p.length))) Z
  exact ⟨P, orbO_some ⟨p1, hP⟩ (by omega)⟩
noncomputable def srtOf (Q : List (List Int)) : List (List Int) := (srt_ex Q).choose
theorem srtOf_spec (Q : List (List Int)) : Srt (srtOf Q) ∧ ∀ x, x ∈ srtOf Q ↔ x ∈ Q := (srt_ex Q).choose_spec
theorem srtOf_eq {Q X : List (List Int)} (h : Srt X) (h2 : ∀ x, x ∈ X ↔ x ∈ Q) : srtOf Q = X := Srt.unique (srtOf_spec Q).1 h fun x => ((srtOf_spec Q).2 x).trans (h2 x).symm
/-- The divisors with k letters. -/
noncomputable def dvk (f s : List (List Int)) (Z : List (List Int)) (k : Nat) : List (List Int) := srtOf (Z.map fun x => nwv f s (x.take k))
noncomputable def dvL (f s : List (List Int)) (Z : List (List Int)) (k : Nat) : List (List Int) := (List.range k).flatMap (dvk f s Z)
theorem dvL_succ (f s : List (List Int)) (Z : List (List Int)) (k : Nat) : dvL f s Z (k + 1) = dvL f s Z k ++ dvk f s Z k := by simp [dvL, List.range_succ]
theorem dvk_len (f s : List (List Int)) (Z : List (List Int)) (k : Nat) : (dvk f s Z k).length ≤ Z.length := by
  have := len_le_of_sub (dvk f s Z k) _ (srtOf_spec _).1.nodup fun x hx => ((srtOf_spec _).2 x).1 hx
  rwa [List.length_map] at this
theorem dvL_len (f s : List (List Int)) (Z : List (List Int)) (k : Nat) : (dvL f s Z k).length ≤ k * Z.length := by
  induction k with
  | zero => simp [dvL]
  | succ k ih =>
    have := dvk_len f s Z k
    rw [dvL_succ, List.length_append, Nat.add_mul]
    omega
section
variable {f s : List (List Int)} (h : isSol f s) {w : List Int} (hw : inN f.length w) {Z : List (List Int)} (hZ : cO f s w 1000 = some Z)
include h hw hZ
theorem nwv_some {x : List Int} (hx : x ∈ Z) (k : Nat) : ∃ P, cO f s (x.take k) 1000 = some P ∧ nwv f s (x.take k) = hd0 P ∧ (hd0 P).length ≤ w.length := by
  obtain ⟨P, hP⟩ := pre_some h hw hZ hx k
  have hlZ := (cO_len h hw hZ).2.1 x hx
  have hlP := cO_len h (take_in hlZ.1 k) hP
  have hne : P ≠ [] := List.ne_nil_of_mem hlP.2.2
  refine ⟨P, hP, by rw [nwv, hP, lso_some], ?_⟩
  rw [(hlP.2.1 _ (hd0_mem hne)).2, List.length_take]
  have := hlZ.2
  omega
theorem dvk_row {k : Nat} {r : List Int} (hr : r ∈ dvk f s Z k) : r.length ≤ w.length := by
  obtain ⟨x, hx, rfl⟩ := List.mem_map.1 (((srtOf_spec _).2 r).1 hr)
  obtain ⟨P, p1, p2, p3⟩ := nwv_some h hw hZ hx k
  rw [p2]
  exact p3
theorem dvL_row {k : Nat} {r : List Int} (hr : r ∈ dvL f s Z k) : r.length ≤ w.length := by
  obtain ⟨j, _, hj⟩ := List.mem_flatMap.1 hr
  exact dvk_row h hw hZ hj
end
theorem dvk_ne {f s Z : List (List Int)} (hZ : Z ≠ []) (k : Nat) : dvk f s Z k ≠ [] := by
  cases Z with
  | nil => exact absurd rfl hZ
  | cons x Z => exact List.ne_nil_of_mem (((srtOf_spec _).2 (nwv f s (x.take k))).2 (List.mem_map.2 ⟨x, by simp, rfl⟩))
/-- What the first words give, each once. -/
theorem map_take_succ {Z : List (List Int)} {g : List Int → List Int} {i : Nat} (hi : i < Z.length) (y : List Int) : y ∈ (Z.take (i + 1)).map g ↔ y ∈ (Z.take i).map g ∨ y = g Z[i] := by
  rw [List.take_succ_eq_append_getElem hi, List.map_append, List.mem_append]
  simp

open Classical in
noncomputable def dvO (f s : List (List Int)) (w : List Int) : Option (List (List Int)) := (cwO f s w).map fun Z => dvL f s Z (w.length + 1)
noncomputable def dvR (f s : List (List Int)) (w : List Int) : List (List Int) := lso (dvO f s w)
theorem dv_small (f s : List (List Int)) (w : List Int) (_ : fits f) (_ : fits s) (hl : w.length ≤ 1048576) : smallT (dvR f s w) := by
  unfold dvR dvO cwO
  split
  · rename_i h
    cases hz : cO f s w 1000 with
    | none => simp [lso, smallT]
    | some Z =>
      have hZ := cO_len h.1 (wd_in h.2) hz
      have h8 := h.2.2
      refine ⟨?_, fun r hr => ?_⟩
      · show (dvL f s Z (w.length + 1)).length ≤ 1048576
        have h1 := dvL_len f s Z (w.length + 1)
        have h2 : (w.length + 1) * Z.length ≤ 9 * 1000 := Nat.mul_le_mul (by omega) hZ.1
        omega
      · have := dvL_row h.1 (wd_in h.2) hz hr
        omega
  · simp [lso, smallT]
end Go.Mch
/- DivisorsOfWord: the walks. -/
namespace Go.Mch

def S_nwS (pg : Pg) : Prop := ∀ (f s : List (List Int)) (p : List Int) (P : List (List Int)), fits f → fits s → isSol f s → isWd f.length p → cO f s p 1000 = some P → Call pg 220 [sol f s, ix p] [sol f s, ix p] (.tup [.mem .own (some 1) ((hd0 P).map I), I 0])
theorem t_nwS {pg : Pg} (hp : pg.fn 220 = some c_spec_NormalWord) (h215 : S_cw pg 215) : S_nwS pg := by
  intro f s p P hf hs h hw hP
  have hl := hw.2
  obtain ⟨o, ho, hc⟩ := h215 f s p hf hs (by omega)
  have e1 : cwC f s p = 0 := by simp only [cwC, if_pos h, if_pos hw, hP]; rfl
  have e2 : cwR f s p = P := by simp only [cwR, cwO, if_pos (And.intro h hw), hP, lso_some]
  have hZ := cO_len h (wd_in hw) hP
  have hZ0 : 0 < P.length := List.length_pos_of_mem hZ.2.2
  have := ownT_ne (ho.trans e2) hZ0
  subst this
  refine Call.intro hp rfl (by simp) ?_
  show wp _ _ c_spec_NormalWord.body (post [.t 4, .t 5] _ _ _) _
  simp [c_spec_NormalWord]
  rw [e1] at hc
  refine callR hc rfl rfl (fun _ => by simp [ownT]) ?_
  have e : hd0 P = P[0] := by simp [hd0, List.getD_eq_getElem?_getD, List.getElem?_eq_getElem hZ0]
  simp [ownT, hZ0, e]

def S_idxNil (pg : Pg) : Prop := ∀ (f : Nat) (caps : List T), T.eryL .old caps = caps → T.noOwnL caps = true → Call pg 70 [nil, .fn f caps] [nil, .fn f caps] (I (-1))
theorem t_idxNil {pg : Pg} (hp : pg.fn 70 = some c_slices_IndexFunc_____int64___int64_) : S_idxNil pg := by
  intro f caps hc hno
  refine Call.intro hp rfl (by simp [hno]) ?_
  show wp _ _ c_slices_IndexFunc_____int64___int64_.body (post [.t 4] _ _ _) _
  simp [c_slices_IndexFunc_____int64___int64_]
  refine wpLoop_count (fun k e => e = fr [(0, some (.val nil)), (1, some (.val (.fn f caps))), (7, some (.val (I 0))), (8, some (.val (I k)))]) 0 ?_ ?_ 0 _ (by omega) ?_
  · intro k e hk
    omega
  · rintro e rfl
    simp [hno]
  · simp
def S_liNil (pg : Pg) : Prop := ∀ w : List Int, w.length ≤ 1048576 → Call pg 341 [nil, ix w] [nil, ix w] (I (-1))
theorem t_liNil {pg : Pg} (hp : pg.fn 341 = some c_impl_listIndex) (h70 : S_idxNil pg) : S_liNil pg := by
  intro w hw
  refine Call.intro hp rfl (by simp) ?_
  show wp _ _ c_impl_listIndex.body (post [.t 4] _ _ _) _
  simp [c_impl_listIndex]
  refine callR (h70 407 [.mem .old none [ix w]] (by simp) (by simp)) rfl rfl (fun _ => rfl) ?_
  simp
noncomputable def dvQ (f s : List (List Int)) (k : Nat) (Z : List (List Int)) : List (List Int) := Z.map fun x => nwv f s (x.take k)
def S_dv (pg : Pg) (n : Nat) : Prop := ∀ (f s : List (List Int)) (w : List Int), fits f → fits s → w.length ≤ 1048576 → ∃ o, lso o = dvR f s w ∧ Call pg n [sol f s, ix w] [sol f s, ix w] (.tup [ownT o, I (cwC f s w)])
set_option maxRecDepth 10000 in
theorem t_dv_impl {pg : Pg} (hp : pg.fn 230 = some c_impl_DivisorsOfWord) (h38 : S_chk38 pg) (h297 : S_lim pg) (h342 : S_nwI pg) (h341 : S_listIndex pg) (h341n : S_liNil pg) (h313 : S_sort pg) : S_dv pg 230 := by
  intro f s w hf hs hl
  refine ⟨dvO f s w, rfl, Call.intro hp rfl (by simp) ?_⟩
  show wp _ _ c_impl_DivisorsOfWord.body (post [.t 4, .t 5] _ _ _) _
  simp [c_impl_DivisorsOfWord]
  refine callR (h38 f s [w] hf hs (by simp) (by simpa using hl)) rfl rfl (fun _ => rfl) ?_
  by_cases h : isSol f s
  · by_cases h1 : isWd f.length w
    · have e0 := wdC_0 h (us := [w]) (by simp [h1])
      have h8 := h1.2
      have hc := h297 f s w hf hs h (wd_in h1) (by omega)
      have e1 : dvO f s w = (cO f s w 1000).map fun Z => dvL f s Z (w.length + 1) := by simp only [dvO, cwO, if_pos (And.intro h h1)]
      have e2 : cwC f s w = cd3 (cO f s w 1000) := by simp only [cwC, if_pos h, if_pos h1]
      simp [e0, e1, e2]
      cases hg : cO f s w 1000 with
      | none =>
        rw [hg] at hc
        refine callR hc rfl rfl (fun _ => by simp [ownT]) ?_
        simp [ownT, cd3, frz_nil]
      | some Z =>
        rw [hg] at hc
        have hZ := cO_len h (wd_in h1) hg
        have hZne : Z ≠ [] := List.ne_nil_of_mem hZ.2.2
        refine callR hc rfl rfl (fun _ => by simp [ownT]) ?_
        simp [ownT, cd3, frz_tb]
        refine ⟨by omega, ?_⟩
        refine wpLoop_count (fun k e => e = fr [(2, some (.val (.mem .own none [tb f, tb s]))), (7, some (.val (.mem .fresh (some 1) (rowsF Z)))), (9, some (.val (rowN (dvL f s Z k)))), (34, some (.val (I ((w.length : Int) + 1)))), (35, some (.val (I k)))]) (w.length + 1) ?_ ?_ 0 _ (by omega) ?_
        · rintro k e hk rfl
          have hdl : (dvL f s Z k).length ≤ 9000 := by
            have h1 := dvL_len f s Z k
            have h2 : k * Z.length ≤ 9 * 1000 := Nat.mul_le_mul (by omega) hZ.1
            omega
          have hk' : (k : Int) < (w.length : Int) + 1 := by omega
          have hdk : ∀ X : List (List Int), Srt X → (∀ y, y ∈ X ↔ y ∈ dvQ f s k Z) → dvk f s Z k = X := fun X a b => srtOf_eq a b
          have hdkl := dvk_len f s Z k
          rw [dvL_succ]
          generalize dvL f s Z k = D at *
          generalize dvk f s Z k = DK at *
          simp [hk']
          refine wpLoop_count (fun i e => ExT fun L => (L.Nodup ∧ ∀ y, y ∈ L ↔ y ∈ dvQ f s k (Z.take i)) ∧ e = fr [(2, some (.val (.mem .own none [tb f, tb s]))), (7, some (.val (.mem .fresh (some 1) (rowsF Z)))), (9, some (.val (rowN D))), (10, some (.val (I k))), (11, some (.val (rowN L))), (34, some (.val (I ((w.length : Int) + 1)))), (35, some (.val (I k))), (38, some (.val (.mem .fresh (some 1) (rowsF Z)))), (39, some (.val (I Z.length))), (40, some (.val (I i)))]) Z.length ?_ ?_ 0 _ (by omega) (ExT.mk [] ⟨⟨by simp, fun y => by simp [dvQ]⟩, by simp [rowN]⟩)
          · rintro i e hi ⟨L, ⟨l1, l2⟩, rfl⟩
            have hzi := hZ.2.1 _ (List.getElem_mem hi)
            obtain ⟨P, p1, p2, p3⟩ := nwv_some h (wd_in h1) hg (List.getElem_mem hi) k
            have hsucc : ∀ y, y ∈ dvQ f s k (Z.take (i + 1)) ↔ y ∈ dvQ f s k (Z.take i) ∨ y = nwv f s (Z[i].take k) := fun y => map_take_succ (g := fun x => nwv f s (x.take k)) hi y
            have hLl : L.length ≤ 1000 := by
              have := len_le_of_sub L _ l1 fun y hy => (l2 y).1 hy
              rw [dvQ, List.length_map, List.length_take] at this
              omega
            have hLr : ∀ y ∈ L, y.length ≤ 1048576 := fun y hy => by
              obtain ⟨x, hx, rfl⟩ := List.mem_map.1 ((l2 y).1 hy)
              obtain ⟨P', q1, q2, q3⟩ := nwv_some h (wd_in h1) hg (List.mem_of_mem_take hx) k
              show (nwv f s (x.take k)).length ≤ 1048576
              rw [q2]
              omega
            have hnc := h342 f s (Z[i].take k) hf hs h (take_in hzi.1 k) (by rw [List.length_take]; omega)
            have hnw : nwO f s (Z[i].take k) = some (hd0 P) := by rw [nwO, p1]; rfl
            rw [hnw, p1] at hnc
            have hkz : k ≤ Z[i].length := by omega
            have hkz' : (k : Int) ≤ Z[i].length := by omega
            obtain ⟨r, r1, r2⟩ := h341 L (hd0 P) (by omega) (by omega) hLr
            rw [p2] at hsucc
            generalize hd0 P = W at *
            have hro : L.length + 1 ≤ roomy := by unfold roomy; omega
            simp [hi, hkz', winI_take, -List.map_take]
            refine callR hnc rfl rfl (fun _ => by simp [ownI]) ?_
            by_cases hL : L = []
            · subst hL
              have hln := h341n W (by omega)
              simp [ownI, cd3, rowN]
              refine callR hln rfl rfl (fun _ => rfl) ?_
              simp [roomy]
              refine ⟨by omega, ExT.mk [W] ⟨⟨by simp, fun y => ?_⟩, by simp [rows]⟩⟩
              rw [hsucc y, ← l2 y]
              simp
            · rw [rowN_ne hL]
              simp [ownI, cd3]
              refine callR r2 rfl rfl (fun _ => rfl) ?_
              by_cases hin : W ∈ L
              · have hr0 := r1.2 hin
                have hr0' : ¬ r < 0 := by omega
                simp [hr0']
                refine ⟨by omega, ExT.mk L ⟨⟨l1, fun y => ?_⟩, by simp [rowN_ne hL]⟩⟩
                rw [hsucc y, ← l2 y]
                exact ⟨.inl, fun hh => hh.elim id fun hh => hh ▸ hin⟩
              · have hr0 : r < 0 := by
                  rcases Int.lt_or_le r 0 with hh | hh
                  · exact hh
                  · exact absurd (r1.1 hh) hin
                simp [hr0, hro]
                refine ⟨by omega, ExT.mk (L ++ [W]) ⟨⟨?_, fun y => ?_⟩, by simp [rowN_snoc]⟩⟩
                · rw [List.nodup_append]
                  exact ⟨l1, by simp, fun a ha b hb => by
                    rw [List.mem_singleton] at hb
                    subst hb
                    exact fun hh => hin (hh ▸ ha)⟩
                · rw [hsucc y, ← l2 y]
                  simp
          · rintro e ⟨L, ⟨l1, l2⟩, rfl⟩
            rw [List.take_length] at l2
            have hL : L ≠ [] := by
              cases Z with
              | nil => exact absurd rfl hZne
              | cons z Z => exact List.ne_nil_of_mem ((l2 _).2 (List.mem_map.2 ⟨z, by simp, rfl⟩))
            have hLl : L.length ≤ 1000 := by
              have := len_le_of_sub L _ l1 fun y hy => (l2 y).1 hy
              rw [dvQ, List.length_map] at this
              omega
            have hLr : ∀ y ∈ L, y.length ≤ 1048576 := fun y hy => by
              obtain ⟨x, hx, rfl⟩ := List.mem_map.1 ((l2 y).1 hy)
              obtain ⟨P', q1, q2, q3⟩ := nwv_some h (wd_in h1) hg hx k
              show (nwv f s (x.take k)).length ≤ 1048576
              rw [q2]
              omega
            obtain ⟨Y, ⟨y1, y2⟩, hy⟩ := h313 L ⟨by omega, fun j => by
              by_cases hj : j < L.length
              · have := hLr _ (List.getElem_mem hj)
                rw [← gt_at hj]
                omega
              · simp [gt, hj]⟩ (dj_of l1)
            have hYl := len_of_same y1.nodup l1 y2
            have hDK := hdk Y y1 fun y => (y2 y).trans (l2 y)
            subst hDK
            rw [rowN_ne hL]
            simp
            refine callM (ts' := [ownR DK, .fn 314 []]) (r := .tup []) ?_ ?_ ?_ ?_
            · simp
            · simpa using hy
            · simp
            · by_cases hD : D = []
              · subst hD
                have hro : DK.length ≤ roomy := by unfold roomy; omega
                have hcel : ∀ x ∈ rows DK, x.isCell = true := fun x hx => by
                  obtain ⟨y, _, rfl⟩ := List.mem_map.1 hx
                  rfl
                have hDKne : DK ≠ [] := fun hh => hL (by rw [hh] at hYl; exact List.length_eq_zero_iff.1 hYl.symm)
                have hDKr : rows DK ≠ [] := by simp [rows, hDKne]
                simp [rowN, hro, hDKne, hDKr]
                exact ⟨hcel, by omega⟩
              · have hro : D.length + DK.length ≤ roomy := by unfold roomy; omega
                rw [rowN_ne hD, rowN_ne (X := D ++ DK) (by simp [hD])]
                have hcel : ∀ x ∈ rows DK, x.isCell = true := fun x hx => by
                  obtain ⟨y, _, rfl⟩ := List.mem_map.1 hx
                  rfl
                simp [hro, rows_append]
                exact ⟨hcel, by omega⟩
        · rintro e rfl
          have hne : dvL f s Z (w.length + 1) ≠ [] := by
            rw [dvL_succ]
            simp [dvk_ne hZne]
          rw [rowN_ne hne]
          simp
        · simp [dvL, rowN]
    · have e0 := wdC_2 h (us := [w]) (by simp [h1])
      have e1 : dvO f s w = none := by simp only [dvO, cwO, if_neg fun hh : _ ∧ _ => h1 hh.2]; rfl
      have e2 : cwC f s w = 2 := by simp only [cwC, if_pos h, if_neg h1]
      simp [e0, e1, e2, ownT]
  · have e0 := wdC_1 h [w]
    have e1 : dvO f s w = none := by simp only [dvO, cwO, if_neg fun hh : _ ∧ _ => h hh.1]; rfl
    have e2 : cwC f s w = 1 := by simp only [cwC, if_neg h]
    simp [e0, e1, e2, ownT]

/-! ### The reference -/

/-- A table of the frame's own whose rows may be read only. -/
def oldT : Option (List (List Int)) → T
  | none => nil
  | some X => .mem .own (some 1) (tbL X)
theorem cwd_in {n : Nat} {w : List Int} (h : inN n w) (hl : w.length ≤ 8) : isWd n w := ⟨fun x hx => by have := h x hx; omega, hl⟩
def S_dvS (pg : Pg) : Prop := ∀ (f s : List (List Int)) (w : List Int), fits f → fits s → w.length ≤ 1048576 → Call pg 229 [sol f s, ix w] [sol f s, ix w] (.tup [oldT (dvO f s w), I (cwC f s w)])
set_option maxRecDepth 10000 in
theorem t_dv_spec {pg : Pg} (hp : pg.fn 229 = some c_spec_DivisorsOfWord) (h215 : S_cw pg 215) (h220 : S_nwS pg) (h349 : S_put pg) : S_dvS pg := by
  intro f s w hf hs hl
  obtain ⟨o, ho, hc⟩ := h215 f s w hf hs hl
  refine Call.intro hp rfl (by simp) ?_
  show wp _ _ c_spec_DivisorsOfWord.body (post [.t 4, .t 5] _ _ _) _
  simp [c_spec_DivisorsOfWord]
  by_cases h0 : cwC f s w = 0
  · obtain ⟨h, h1, Z, hg, h4⟩ := cw_0 h0
    have h8 := h1.2
    have hZ := cO_len h (wd_in h1) hg
    have hZne : Z ≠ [] := List.ne_nil_of_mem hZ.2.2
    have e1 : dvO f s w = some (dvL f s Z (w.length + 1)) := by simp only [dvO, cwO, if_pos (And.intro h h1), hg]; rfl
    have := ownT_ne (ho.trans h4) (List.length_pos_iff.2 hZne)
    subst this
    rw [h0] at hc ⊢
    rw [e1]
    refine callR hc rfl rfl (fun _ => by simp [ownT]) ?_
    simp [ownT, oldT]
    refine wpLoop_count (fun k e => e = fr [(1, some (.val (ix w))), (2, some (.val (.mem .own none [tb f, tb s]))), (6, some (.val (.mem .own (some 1) (rows Z)))), (8, some (.val (.mem .own (some 1) (tbL (dvL f s Z k))))), (9, some (.val (I k)))]) (w.length + 1) ?_ ?_ 0 _ (by omega) ?_
    · rintro k e hk rfl
      have hdl : (dvL f s Z k).length ≤ 9000 := by
        have h1 := dvL_len f s Z k
        have h2 : k * Z.length ≤ 9 * 1000 := Nat.mul_le_mul (by omega) hZ.1
        omega
      have hk' : (k : Int) ≤ (w.length : Int) := by omega
      have hdk : ∀ X : List (List Int), Srt X → (∀ y, y ∈ X ↔ y ∈ dvQ f s k Z) → dvk f s Z k = X := fun X a b => srtOf_eq a b
      have hdkl := dvk_len f s Z k
      rw [dvL_succ]
      generalize dvL f s Z k = D at *
      generalize dvk f s Z k = DK at *
      simp [hk']
      refine wpLoop_count (fun i e => ExT fun L => (Srt L ∧ ∀ y, y ∈ L ↔ y ∈ dvQ f s k (Z.take i)) ∧ e = fr [(1, some (.val (ix w))), (2, some (.val (.mem .own none [tb f, tb s]))), (6, some (.val (.mem .own (some 1) (rows Z)))), (8, some (.val (.mem .own (some 1) (tbL D)))), (9, some (.val (I k))), (10, some (.val (.mem .own (some 1) (tbL L)))), (11, some (.val (I i)))]) Z.length ?_ ?_ 0 _ (by omega) (ExT.mk [] ⟨⟨by simp [Srt], fun y => by simp [dvQ]⟩, by simp [tbL]⟩)
      · rintro i e hi ⟨L, ⟨l1, l2⟩, rfl⟩
        have hzi := hZ.2.1 _ (List.getElem_mem hi)
        obtain ⟨P, p1, p2, p3⟩ := nwv_some h (wd_in h1) hg (List.getElem_mem hi) k
        have hsucc : ∀ y, y ∈ dvQ f s k (Z.take (i + 1)) ↔ y ∈ dvQ f s k (Z.take i) ∨ y = nwv f s (Z[i].take k) := fun y => map_take_succ (g := fun x => nwv f s (x.take k)) hi y
        have hLl : L.length ≤ 1000 := by
          have := len_le_of_sub L _ l1.nodup fun y hy => (l2 y).1 hy
          rw [dvQ, List.length_map, List.length_take] at this
          omega
        have hLr : ∀ y ∈ L, y.length ≤ 1048576 := fun y hy => by
          obtain ⟨x, hx, rfl⟩ := List.mem_map.1 ((l2 y).1 hy)
          obtain ⟨P', q1, q2, q3⟩ := nwv_some h (wd_in h1) hg (List.mem_of_mem_take hx) k
          show (nwv f s (x.take k)).length ≤ 1048576
          rw [q2]
          omega
        have hnc := h220 f s (Z[i].take k) P hf hs h (cwd_in (take_in hzi.1 k) (by rw [List.length_take]; omega)) p1
        have hkz : k ≤ Z[i].length := by omega
        have hkz' : (k : Int) ≤ Z[i].length := by omega
        obtain ⟨S', b, args', s1, s2, s3, s4, s5, s6⟩ := h349 L (hd0 P) l1 (by omega) hLr (by omega)
        rw [p2] at hsucc
        generalize hd0 P = W at *
        simp [hi, hkz, hkz', winI_take, -List.map_take]
        refine callR hnc rfl rfl (fun _ => by simp) ?_
        simp
        obtain ⟨a1, a2, rfl⟩ : ∃ a1 a2, args' = [a1, a2] := by
          cases args' with
          | nil => simp at s5
          | cons a1 l => cases l with
            | nil => simp at s5
            | cons a2 l => cases l with
              | nil => exact ⟨a1, a2, rfl⟩
              | cons => simp at s5
        refine callM (ts' := [a1, a2]) (r := .tup [.mem .own (some 1) (tbL S'), B b]) ?_ ?_ ?_ ?_
        · simp
        · simpa [(Rds.old L).2.2.1] using s6
        · simp
        · simp
          refine ⟨by omega, ExT.mk S' ⟨⟨s1, fun y => ?_⟩, by simp⟩⟩
          rw [s2, hsucc y, l2]
      · rintro e ⟨L, ⟨l1, l2⟩, rfl⟩
        rw [List.take_length] at l2
        have hDK := hdk L l1 l2
        subst hDK
        have hro : D.length + DK.length ≤ roomy := by unfold roomy; omega
        have hcel : ∀ x ∈ tbL DK, x.isCell = true := fun x hx => by
          obtain ⟨y, _, rfl⟩ := List.mem_map.1 hx
          rfl
        have happ : tbL (D ++ DK) = tbL D ++ tbL DK := by simp [tbL]
        simp [hro, happ]
        exact ⟨hcel, by omega⟩
    · rintro e rfl
      have hn : ¬ ((w.length : Int) + 1 ≤ w.length) := by omega
      simp [hn]
    · have h00 : tbL (dvL f s Z 0) = [] := rfl
      rw [h00]
      simp
  · have e1 : dvO f s w = none := by
      unfold dvO cwO
      split
      · rename_i hh
        cases hg : cO f s w 1000 with
        | none => rfl
        | some Z => exact absurd (by simp only [cwC, if_pos hh.1, if_pos hh.2, hg]; rfl) h0
      · rfl
    rw [e1]
    cases o with
    | none =>
      refine callR hc rfl rfl (fun _ => by simp [ownT]) ?_
      simp [ownT, oldT, h0]
    | some X =>
      refine callR hc rfl rfl (fun _ => by simp [ownT]) ?_
      simp [ownT, oldT, h0]
end Go.Mch
/- The run of a law whose reference hands back rows that may be read only: what it is handed is frozen first. -/
namespace Go.Mch


def lw_wTz (a b : Nat) : F where
  np := 2
  rs := [.t 4]
  body :=
    (.seq
    (.region none [ ⟨some 2, none, .box (.t 0)⟩, ⟨some 4, none, .mv (.c (.bool false))⟩] [1, 2]) (.seq (.seq
    (.region none [ ⟨some 17, none, .mv (.t 1)⟩, ⟨some 18, none, .len (.t 17)⟩, ⟨some 19, none, .bin .gtr (.t 18) (.c (.int .i64 1048576))⟩] [1, 2, 19]) (.cond (.t 19) (.seq
    (.region none [ ⟨some 4, none, .mv (.c (.bool true))⟩] [4]) .ret) .skip)) (.seq
    (.region none [ ⟨some 5, none, .mv (.c (.int .i64 1048576))⟩] [1, 2, 5]) (.seq
    (.region none [ ⟨some 20, none, .ld (some 2) (.t 2)⟩, ⟨some 21, none, .mv (.t 5)⟩, ⟨some 22, none, .call (.f 14) [((.t 20), .r), ((.t 21), .r)]⟩, ⟨some 5, none, .mv (.t 22)⟩] [1, 2, 5]) (.seq (.seq
    (.region none [ ⟨some 23, none, .mv (.t 5)⟩, ⟨some 24, none, .bin .lss (.t 23) (.c (.int .i64 0))⟩] [1, 2, 24]) (.cond (.t 24) (.seq
    (.region none [ ⟨some 4, none, .mv (.c (.bool true))⟩] [4]) .ret) .skip)) (.seq
    (.region none [ ⟨some 26, none, .ld (some 2) (.t 2)⟩, ⟨some 27, none, .call (.f 16) [((.t 26), .r)]⟩, ⟨none, none, .freeze 27⟩, ⟨some 28, none, .mv (.t 1)⟩, ⟨some 29, none, .call (.f 7) [((.t 28), .r)]⟩, ⟨none, none, .freeze 29⟩, ⟨some 30, none, .call (.f a) [((.t 27), .r), ((.t 29), .r)]⟩, ⟨some 25, none, .mv (.t 30)⟩, ⟨some 31, none, .ext (.t 25) 0⟩, ⟨some 32, none, .ext (.t 25) 1⟩, ⟨some 6, none, .asg (.t 31)⟩, ⟨some 7, none, .mv (.t 32)⟩] [1, 2, 6, 7]) (.seq
    (.region none [ ⟨some 33, none, .ld (some 2) (.t 2)⟩, ⟨some 34, none, .call (.f 16) [((.t 33), .r)]⟩, ⟨some 8, none, .alloc [(.slice none 0 0), (.slice none 0 0)]⟩, ⟨none, none, .st (some 2) (.t 8) (.t 34)⟩] [1, 2, 6, 7, 8]) (.seq
    (.region none [ ⟨some 35, none, .mv (.t 1)⟩, ⟨some 36, none, .call (.f 7) [((.t 35), .r)]⟩, ⟨some 9, none, .asg (.t 36)⟩] [1, 2, 6, 7, 8, 9]) (.seq
    (.region none [ ⟨some 38, none, .ld (some 2) (.t 8)⟩, ⟨some 39, none, .mv (.t 9)⟩, ⟨some 40, none, .call (.f b) [((.t 38), .r), ((.t 39), .r)]⟩, ⟨some 37, none, .mv (.t 40)⟩, ⟨some 41, none, .ext (.t 37) 0⟩, ⟨some 42, none, .ext (.t 37) 1⟩, ⟨some 10, none, .asg (.t 41)⟩, ⟨some 11, none, .mv (.t 42)⟩] [1, 2, 6, 7, 8, 9, 10, 11]) (.seq (.seq
    (.region none [ ⟨some 43, none, .mv (.t 10)⟩, ⟨some 44, none, .mv (.t 6)⟩, ⟨some 45, none, .call (.f 21) [((.t 43), .r), ((.t 44), .r)]⟩, ⟨some 46, none, .un .not (.t 45)⟩, ⟨some 47, none, .mv (.t 46)⟩, ⟨some 48, (some (47, false)), .mv (.t 11)⟩, ⟨some 49, (some (47, false)), .mv (.t 7)⟩, ⟨some 50, (some (47, false)), .bin .neq (.t 48) (.t 49)⟩, ⟨some 51, none, .pick (.t 47) (.c (.bool true)) (.t 50)⟩] [1, 2, 6, 7, 8, 9, 10, 11, 51]) (.cond (.t 51) (.seq
    (.region none [ ⟨some 4, none, .mv (.c (.bool false))⟩] [4]) .ret) .skip)) (.seq (.seq
    (.region (some [52, 53, 54]) [ ⟨some 52, none, .ld (some 2) (.t 8)⟩, ⟨some 53, none, .ld (some 2) (.t 2)⟩, ⟨some 54, none, .call (.f 16) [((.t 53), .r)]⟩, ⟨some 55, none, .call (.f 18) [((.t 52), .r), ((.t 54), .r)]⟩, ⟨some 56, none, .un .not (.t 55)⟩] [1, 2, 6, 7, 8, 9, 10, 11, 56]) (.cond (.t 56) (.seq
    (.region none [ ⟨some 4, none, .mv (.c (.bool false))⟩] [4]) .ret) .skip)) (.seq (.seq
    (.region none [ ⟨some 57, none, .mv (.t 9)⟩, ⟨some 58, none, .mv (.t 1)⟩, ⟨some 59, none, .call (.f 7) [((.t 58), .r)]⟩, ⟨some 60, none, .call (.f 9) [((.t 57), .r), ((.t 59), .r)]⟩, ⟨some 61, none, .un .not (.t 60)⟩] [1, 2, 6, 7, 8, 9, 10, 11, 61]) (.cond (.t 61) (.seq
    (.region none [ ⟨some 4, none, .mv (.c (.bool false))⟩] [4]) .ret) .skip)) (.seq
    (.region none [ ⟨some 12, none, .mv (.c (.int .i64 1))⟩] [1, 2, 6, 7, 8, 9, 10, 11, 12]) (.seq
    (.region none [ ⟨some 62, none, .ld (some 2) (.t 8)⟩, ⟨some 63, none, .mv (.t 12)⟩, ⟨some 64, none, .callm (.f 22) [((.t 62), true), ((.t 63), false)] []⟩, ⟨some 12, none, .mv (.t 64)⟩] [1, 2, 6, 7, 9, 10, 11, 12]) (.seq
    (.region none [ ⟨some 65, none, .mv (.t 9)⟩, ⟨some 66, none, .mv (.t 12)⟩, ⟨some 67, none, .callm (.f 12) [((.t 65), true), ((.t 66), false)] []⟩, ⟨some 12, none, .mv (.t 67)⟩] [1, 2, 6, 7, 10, 11, 12]) (.seq (.seq
    (.region none [ ⟨some 68, none, .mv (.t 12)⟩, ⟨some 69, none, .bin .lss (.t 68) (.c (.int .i64 0))⟩, ⟨some 70, none, .mv (.t 69)⟩, ⟨some 71, (some (70, false)), .mv (.t 10)⟩, ⟨some 72, (some (70, false)), .mv (.t 6)⟩, ⟨some 73, (some (70, false)), .call (.f 21) [((.t 71), .r), ((.t 72), .r)]⟩, ⟨some 74, (some (70, false)), .un .not (.t 73)⟩, ⟨some 75, none, .pick (.t 70) (.c (.bool true)) (.t 74)⟩, ⟨some 76, none, .mv (.t 75)⟩, ⟨some 77, (some (76, false)), .mv (.t 11)⟩, ⟨some 78, (some (76, false)), .mv (.t 7)⟩, ⟨some 79, (some (76, false)), .bin .neq (.t 77) (.t 78)⟩, ⟨some 80, none, .pick (.t 76) (.c (.bool true)) (.t 79)⟩] [1, 2, 6, 7, 10, 80]) (.cond (.t 80) (.seq
    (.region none [ ⟨some 4, none, .mv (.c (.bool false))⟩] [4]) .ret) .skip)) (.seq
    (.region none [ ⟨some 13, none, .mv (.c (.int .i64 1))⟩] [1, 2, 6, 7, 10, 13]) (.seq
    (.region none [ ⟨some 81, none, .mv (.t 10)⟩, ⟨some 82, none, .mv (.t 13)⟩, ⟨some 83, none, .callm (.f 23) [((.t 81), true), ((.t 82), false)] []⟩, ⟨some 13, none, .mv (.t 83)⟩] [1, 2, 6, 7, 10, 13]) (.seq
    (.region none [ ⟨some 14, none, .mv (.c (.int .i64 1))⟩] [1, 2, 6, 7, 10, 13, 14]) (.seq
    (.region none [ ⟨some 84, none, .mv (.t 10)⟩, ⟨some 85, none, .mv (.t 14)⟩, ⟨some 86, none, .call (.f 24) [((.t 84), .r), ((.t 85), .r)]⟩, ⟨some 14, none, .mv (.t 86)⟩] [1, 2, 6, 7, 10, 13, 14]) (.seq (.seq
    (.region none [ ⟨some 87, none, .mv (.t 14)⟩, ⟨some 88, none, .bin .lss (.t 87) (.c (.int .i64 0))⟩] [1, 2, 6, 7, 10, 13, 14, 88]) (.cond (.t 88) (.seq
    (.region none [ ⟨some 4, none, .mv (.c (.bool false))⟩] [4]) .ret) .skip)) (.seq (.seq
    (.region none [ ⟨some 89, none, .mv (.t 14)⟩, ⟨some 90, none, .mv (.t 13)⟩, ⟨some 91, none, .bin .neq (.t 89) (.t 90)⟩] [1, 2, 6, 7, 10, 13, 91]) (.cond (.t 91) (.seq
    (.region none [ ⟨some 4, none, .mv (.c (.bool false))⟩] [4]) .ret) .skip)) (.seq
    (.region none [ ⟨some 93, none, .ld (some 2) (.t 2)⟩, ⟨some 94, none, .call (.f 16) [((.t 93), .r)]⟩, ⟨some 95, none, .mv (.t 1)⟩, ⟨some 96, none, .call (.f 7) [((.t 95), .r)]⟩, ⟨some 97, none, .call (.f b) [((.t 94), .r), ((.t 96), .r)]⟩, ⟨some 92, none, .mv (.t 97)⟩, ⟨some 98, none, .ext (.t 92) 0⟩, ⟨some 99, none, .ext (.t 92) 1⟩, ⟨some 15, none, .asg (.t 98)⟩, ⟨some 16, none, .mv (.t 99)⟩] [6, 7, 10, 13, 15, 16]) (.seq (.seq
    (.region none [ ⟨some 100, none, .mv (.t 15)⟩, ⟨some 101, none, .mv (.t 6)⟩, ⟨some 102, none, .call (.f 21) [((.t 100), .r), ((.t 101), .r)]⟩, ⟨some 103, none, .un .not (.t 102)⟩, ⟨some 104, none, .mv (.t 103)⟩, ⟨some 105, (some (104, false)), .mv (.t 16)⟩, ⟨some 106, (some (104, false)), .mv (.t 7)⟩, ⟨some 107, (some (104, false)), .bin .neq (.t 105) (.t 106)⟩, ⟨some 108, none, .pick (.t 104) (.c (.bool true)) (.t 107)⟩] [10, 13, 108]) (.cond (.t 108) (.seq
    (.region none [ ⟨some 4, none, .mv (.c (.bool false))⟩] [4]) .ret) .skip)) (.seq
    (.region none [ ⟨some 14, none, .mv (.c (.int .i64 1))⟩] [10, 13, 14]) (.seq
    (.region none [ ⟨some 109, none, .mv (.t 10)⟩, ⟨some 110, none, .mv (.t 14)⟩, ⟨some 111, none, .call (.f 24) [((.t 109), .r), ((.t 110), .r)]⟩, ⟨some 14, none, .mv (.t 111)⟩] [13, 14]) (.seq (.seq
    (.region none [ ⟨some 112, none, .mv (.t 14)⟩, ⟨some 113, none, .bin .lss (.t 112) (.c (.int .i64 0))⟩] [13, 14, 113]) (.cond (.t 113) (.seq
    (.region none [ ⟨some 4, none, .mv (.c (.bool false))⟩] [4]) .ret) .skip)) (.seq (.seq
    (.region none [ ⟨some 114, none, .mv (.t 14)⟩, ⟨some 115, none, .mv (.t 13)⟩, ⟨some 116, none, .bin .neq (.t 114) (.t 115)⟩] [116]) (.cond (.t 116) (.seq
    (.region none [ ⟨some 4, none, .mv (.c (.bool false))⟩] [4]) .ret) .skip)) (.seq
    (.region none [ ⟨some 4, none, .mv (.c (.bool true))⟩] [4]) .ret)))))))))))))))))))))))))))))
def S_sh_wTz (pg : Pg) (n : Nat) (Q0 : List (List Int) → List (List Int) → List Int → Option (List (List Int))) (R1 : List (List Int) → List (List Int) → List Int → Int) : Prop := ∀ (f0 s0 : List (List Int)) (w1 : List Int), fits f0 → fits s0 → w1.length ≤ 1048576 → Call pg n [sol f0 s0, ix w1] [sol f0 s0, ix w1] (.tup [oldT (Q0 f0 s0 w1), I (R1 f0 s0 w1)])
def S_lw_wTz (pg : Pg) (n : Nat) : Prop := ∀ (a0 b0 : Rw (Rw Int)) (c1 : Rw Int), small a0 → small b0 → (lst c1).length ≤ 1048576 → ∃ args', Call pg n [.agg [rawT a0, rawT b0], rawI c1] args' (B true)
set_option maxRecDepth 20000 in
theorem t_lw_wTz {pg : Pg} {n a b : Nat} {Q0 : List (List Int) → List (List Int) → List Int → Option (List (List Int))} {R1 : List (List Int) → List (List Int) → List Int → Int} (hp : pg.fn n = some (lw_wTz a b)) (hA : S_sh_wTz pg a Q0 R1) (hB : S_sh_wT pg b (fun f s w => lso (Q0 f s w)) R1) (hz0 : ∀ (f0 s0 : List (List Int)) (w1 : List Int), fits f0 → fits s0 → w1.length ≤ 1048576 → smallT (lso (Q0 f0 s0 w1))) (h14 : S_szSol pg) (h16 : S_toSol pg) (h18 : S_eqSol pg) (h7 : S_toI pg) (h9 : S_eqI pg) (h22 : S_markSol pg) (h12 : S_markI pg) (h21 : S_eqT pg) (h23 : S_markT pg) (h24 : S_heldT pg) : S_lw_wTz pg n := by
  intro a0 b0 c1 ha0 hb0 hl1
  refine ⟨[.agg [rawT a0, rawT b0], rawI c1], Call.intro hp rfl (by simp) ?_⟩
  obtain ⟨r, hr1, hr2, hsz⟩ := h14 a0 b0 1048576 ha0 hb0 (by omega) (by omega)
  have hto0 := h16 a0 b0 ha0 hb0
  have hfa0 := fitsT_of ha0
  have hfb0 := fitsT_of hb0
  generalize hF0 : (lst a0).map lst = F0 at *
  generalize hS0 : (lst b0).map lst = S0 at *
  have hto1 := h7.at c1 hl1
  have hcl1 : ¬ ((lst c1).length : Int) > 1048576 := by omega
  generalize hwe1 : lst c1 = w1 at *
  have hw1 : w1.length ≤ 1048576 := hl1
  have hc1 := hA F0 S0 w1 hfa0 hfb0 hw1
  obtain ⟨q0, g0, hc2⟩ := hB F0 S0 w1 hfa0 hfb0 hw1
  have hsm0 := hz0 F0 S0 w1 hfa0 hfb0 hw1
  have g0 : lso q0 = lso (Q0 F0 S0 w1) := g0
  rw [← g0] at hsm0
  have heq0 := g0
  clear g0
  generalize Q0 F0 S0 w1 = o0 at *
  generalize R1 F0 S0 w1 = o1 at *
  have hk0a := kAt_le (k := (1 : Int)) hfa0 F0.length (Nat.le_refl _)
  have hk0b := kAt_le (k := (kAt (1 : Int) F0 F0.length)) hfb0 S0.length (Nat.le_refl _)
  have hfl0 := hfa0.1
  have hsl0 := hfb0.1
  have hkN : ¬ ((kAt (kAt (1 : Int) F0 F0.length) S0 S0.length) + w1.length) < 0 := by omega
  show wp _ _ (lw_wTz a b).body (post [.t 4] _ _ _) _
  simp [lw_wTz, hcl1, hwe1]
  refine callR hsz rfl rfl (fun _ => rfl) ?_
  by_cases hneg : r < 0
  · simp [hneg]
  · simp [hneg]
    cases o0 with
    | some X0 =>
      cases q0 with
      | some Y0 =>
        simp only [ownT, oldT, lso_some] at *
        subst heq0
        have hm0 := kAt_le (k := (1 : Int)) hsm0 Y0.length (Nat.le_refl _)
        have hy0 := hsm0.1
        have hn0 : ¬ (kAt (1 : Int) Y0 Y0.length) < 0 := by omega
        refine callR hto0 rfl rfl (fun _ => by simp) ?_
        simp [frzRowsF]
        refine callR hto1 rfl rfl (fun _ => by simp) ?_
        simp
        refine callR hc1 rfl rfl (fun hh => by simp [Env.lends] at hh) ?_
        simp
        refine callR hto0 rfl rfl (fun _ => by simp) ?_
        simp
        refine callR hto1 rfl rfl (fun _ => by simp) ?_
        simp
        refine callR hc2 rfl rfl (fun _ => by simp) ?_
        simp
        refine callR (h21.o (some Y0) (some Y0) hsm0) rfl rfl (fun _ => rfl) ?_
        simp
        refine callR hto0 rfl rfl (fun _ => by simp) ?_
        simp
        refine callR (h18.o F0 S0 F0 S0 hfa0 hfb0) rfl rfl (fun _ => rfl) ?_
        simp
        refine callR hto1 rfl rfl (fun _ => by simp) ?_
        simp
        refine callR (h9.o (some w1) (some w1) hw1) rfl rfl (fun _ => rfl) ?_
        simp
        refine callM (ts' := [.agg [.mem .own (some 1) (rows (upT (1 : Int) F0)), .mem .own (some 1) (rows (upT (kAt (1 : Int) F0 F0.length) S0))], I (1 : Int)]) (r := I (kAt (kAt (1 : Int) F0 F0.length) S0 S0.length)) ?_ ?_ ?_ ?_
        · simp
        · simpa using h22 F0 S0 (1 : Int) hfa0 hfb0 (by omega) (by omega)
        · simp
        simp
        refine callM (ts' := [.mem .own (some 1) ((up (kAt (kAt (1 : Int) F0 F0.length) S0 S0.length) w1.length).map I), I (kAt (kAt (1 : Int) F0 F0.length) S0 S0.length)]) (r := I ((kAt (kAt (1 : Int) F0 F0.length) S0 S0.length) + w1.length)) ?_ ?_ ?_ ?_
        · simp
        · simpa using h12.at w1 (kAt (kAt (1 : Int) F0 F0.length) S0 S0.length) hw1 (by omega) (by omega)
        · simp
        simp [hkN]
        refine callR (h21.o (some Y0) (some Y0) hsm0) rfl rfl (fun _ => rfl) ?_
        simp
        refine callM (ts' := [.mem .own (some 1) (rows (upT (1 : Int) Y0)), I (1 : Int)]) (r := I (kAt (1 : Int) Y0 Y0.length)) ?_ ?_ ?_ ?_
        · simp
        · simpa using h23.at Y0 (1 : Int) hsm0 (by omega) (by omega)
        · simp
        simp
        refine callR (h24.o (some (upT (1 : Int) Y0)) (1 : Int) (upT_small hsm0 (1 : Int)) (by omega) (by omega)) rfl rfl (fun _ => rfl) ?_
        simp [heldL_all, hn0]
        refine callR hto0 rfl rfl (fun _ => by simp) ?_
        simp
        refine callR hto1 rfl rfl (fun _ => by simp) ?_
        simp
        refine callR hc2 rfl rfl (fun _ => by simp) ?_
        simp
        refine callR (h21.o (some Y0) (some Y0) hsm0) rfl rfl (fun _ => rfl) ?_
        simp
        refine callR (h24.o (some (upT (1 : Int) Y0)) (1 : Int) (upT_small hsm0 (1 : Int)) (by omega) (by omega)) rfl rfl (fun _ => rfl) ?_
        simp [heldL_all, hn0]
      | none =>
        simp only [ownT, oldT, lso_some, lso_none] at *
        subst heq0
        refine callR hto0 rfl rfl (fun _ => by simp) ?_
        simp [frzRowsF]
        refine callR hto1 rfl rfl (fun _ => by simp) ?_
        simp
        refine callR hc1 rfl rfl (fun hh => by simp [Env.lends] at hh) ?_
        simp
        refine callR hto0 rfl rfl (fun _ => by simp) ?_
        simp
        refine callR hto1 rfl rfl (fun _ => by simp) ?_
        simp
        refine callR hc2 rfl rfl (fun _ => by simp) ?_
        simp
        refine callR (h21.o none (some []) hsm0) rfl rfl (fun _ => rfl) ?_
        simp
        refine callR hto0 rfl rfl (fun _ => by simp) ?_
        simp
        refine callR (h18.o F0 S0 F0 S0 hfa0 hfb0) rfl rfl (fun _ => rfl) ?_
        simp
        refine callR hto1 rfl rfl (fun _ => by simp) ?_
        simp
        refine callR (h9.o (some w1) (some w1) hw1) rfl rfl (fun _ => rfl) ?_
        simp
        refine callM (ts' := [.agg [.mem .own (some 1) (rows (upT (1 : Int) F0)), .mem .own (some 1) (rows (upT (kAt (1 : Int) F0 F0.length) S0))], I (1 : Int)]) (r := I (kAt (kAt (1 : Int) F0 F0.length) S0 S0.length)) ?_ ?_ ?_ ?_
        · simp
        · simpa using h22 F0 S0 (1 : Int) hfa0 hfb0 (by omega) (by omega)
        · simp
        simp
        refine callM (ts' := [.mem .own (some 1) ((up (kAt (kAt (1 : Int) F0 F0.length) S0 S0.length) w1.length).map I), I (kAt (kAt (1 : Int) F0 F0.length) S0 S0.length)]) (r := I ((kAt (kAt (1 : Int) F0 F0.length) S0 S0.length) + w1.length)) ?_ ?_ ?_ ?_
        · simp
        · simpa using h12.at w1 (kAt (kAt (1 : Int) F0 F0.length) S0 S0.length) hw1 (by omega) (by omega)
        · simp
        simp [hkN]
        refine callR (h21.o none (some []) hsm0) rfl rfl (fun _ => rfl) ?_
        simp
        refine callM (ts' := [nil, I (1 : Int)]) (r := I (1 : Int)) ?_ ?_ ?_ ?_
        · simp
        · simpa using h23.at0 (1 : Int) (by omega) (by omega)
        · simp
        simp
        refine callR (h24.o none (1 : Int) hsm0 (by omega) (by omega)) rfl rfl (fun _ => rfl) ?_
        simp [heldL]
        refine callR hto0 rfl rfl (fun _ => by simp) ?_
        simp
        refine callR hto1 rfl rfl (fun _ => by simp) ?_
        simp
        refine callR hc2 rfl rfl (fun _ => by simp) ?_
        simp
        refine callR (h21.o none (some []) hsm0) rfl rfl (fun _ => rfl) ?_
        simp
        refine callR (h24.o none (1 : Int) hsm0 (by omega) (by omega)) rfl rfl (fun _ => rfl) ?_
        simp [heldL]
    | none =>
      cases q0 with
      | some Y0 =>
        simp only [ownT, oldT, lso_some, lso_none] at *
        subst heq0
        have hm0 := kAt_le (k := (1 : Int)) hsm0 ([] : List (List Int)).length (Nat.le_refl _)
        have hy0 := hsm0.1
        have hn0 : ¬ (kAt (1 : Int) ([] : List (List Int)) ([] : List (List Int)).length) < 0 := by omega
        refine callR hto0 rfl rfl (fun _ => by simp) ?_
        simp [frzRowsF]
        refine callR hto1 rfl rfl (fun _ => by simp) ?_
        simp
        refine callR hc1 rfl rfl (fun hh => by simp [Env.lends] at hh) ?_
        simp
        refine callR hto0 rfl rfl (fun _ => by simp) ?_
        simp
        refine callR hto1 rfl rfl (fun _ => by simp) ?_
        simp
        refine callR hc2 rfl rfl (fun _ => by simp) ?_
        simp
        refine callR (h21.o (some ([] : List (List Int))) none hsm0) rfl rfl (fun _ => rfl) ?_
        simp
        refine callR hto0 rfl rfl (fun _ => by simp) ?_
        simp
        refine callR (h18.o F0 S0 F0 S0 hfa0 hfb0) rfl rfl (fun _ => rfl) ?_
        simp
        refine callR hto1 rfl rfl (fun _ => by simp) ?_
        simp
        refine callR (h9.o (some w1) (some w1) hw1) rfl rfl (fun _ => rfl) ?_
        simp
        refine callM (ts' := [.agg [.mem .own (some 1) (rows (upT (1 : Int) F0)), .mem .own (some 1) (rows (upT (kAt (1 : Int) F0 F0.length) S0))], I (1 : Int)]) (r := I (kAt (kAt (1 : Int) F0 F0.length) S0 S0.length)) ?_ ?_ ?_ ?_
        · simp
        · simpa using h22 F0 S0 (1 : Int) hfa0 hfb0 (by omega) (by omega)
        · simp
        simp
        refine callM (ts' := [.mem .own (some 1) ((up (kAt (kAt (1 : Int) F0 F0.length) S0 S0.length) w1.length).map I), I (kAt (kAt (1 : Int) F0 F0.length) S0 S0.length)]) (r := I ((kAt (kAt (1 : Int) F0 F0.length) S0 S0.length) + w1.length)) ?_ ?_ ?_ ?_
        · simp
        · simpa using h12.at w1 (kAt (kAt (1 : Int) F0 F0.length) S0 S0.length) hw1 (by omega) (by omega)
        · simp
        simp [hkN]
        refine callR (h21.o (some ([] : List (List Int))) none hsm0) rfl rfl (fun _ => rfl) ?_
        simp
        refine callM (ts' := [.mem .own (some 1) (rows (upT (1 : Int) ([] : List (List Int)))), I (1 : Int)]) (r := I (kAt (1 : Int) ([] : List (List Int)) ([] : List (List Int)).length)) ?_ ?_ ?_ ?_
        · simp
        · simpa using h23.at ([] : List (List Int)) (1 : Int) hsm0 (by omega) (by omega)
        · simp
        simp
        refine callR (h24.o (some (upT (1 : Int) ([] : List (List Int)))) (1 : Int) (upT_small hsm0 (1 : Int)) (by omega) (by omega)) rfl rfl (fun _ => rfl) ?_
        simp [heldL_all, kAt_zero]
        refine callR hto0 rfl rfl (fun _ => by simp) ?_
        simp
        refine callR hto1 rfl rfl (fun _ => by simp) ?_
        simp
        refine callR hc2 rfl rfl (fun _ => by simp) ?_
        simp
        refine callR (h21.o (some ([] : List (List Int))) none hsm0) rfl rfl (fun _ => rfl) ?_
        simp
        refine callR (h24.o (some (upT (1 : Int) ([] : List (List Int)))) (1 : Int) (upT_small hsm0 (1 : Int)) (by omega) (by omega)) rfl rfl (fun _ => rfl) ?_
        simp [heldL_all, kAt_zero]
      | none =>
        simp only [ownT, oldT, lso_none] at *
        refine callR hto0 rfl rfl (fun _ => by simp) ?_
        simp [frzRowsF]
        refine callR hto1 rfl rfl (fun _ => by simp) ?_
        simp
        refine callR hc1 rfl rfl (fun hh => by simp [Env.lends] at hh) ?_
        simp
        refine callR hto0 rfl rfl (fun _ => by simp) ?_
        simp
        refine callR hto1 rfl rfl (fun _ => by simp) ?_
        simp
        refine callR hc2 rfl rfl (fun _ => by simp) ?_
        simp
        refine callR (h21.o none none hsm0) rfl rfl (fun _ => rfl) ?_
        simp
        refine callR hto0 rfl rfl (fun _ => by simp) ?_
        simp
        refine callR (h18.o F0 S0 F0 S0 hfa0 hfb0) rfl rfl (fun _ => rfl) ?_
        simp
        refine callR hto1 rfl rfl (fun _ => by simp) ?_
        simp
        refine callR (h9.o (some w1) (some w1) hw1) rfl rfl (fun _ => rfl) ?_
        simp
        refine callM (ts' := [.agg [.mem .own (some 1) (rows (upT (1 : Int) F0)), .mem .own (some 1) (rows (upT (kAt (1 : Int) F0 F0.length) S0))], I (1 : Int)]) (r := I (kAt (kAt (1 : Int) F0 F0.length) S0 S0.length)) ?_ ?_ ?_ ?_
        · simp
        · simpa using h22 F0 S0 (1 : Int) hfa0 hfb0 (by omega) (by omega)
        · simp
        simp
        refine callM (ts' := [.mem .own (some 1) ((up (kAt (kAt (1 : Int) F0 F0.length) S0 S0.length) w1.length).map I), I (kAt (kAt (1 : Int) F0 F0.length) S0 S0.length)]) (r := I ((kAt (kAt (1 : Int) F0 F0.length) S0 S0.length) + w1.length)) ?_ ?_ ?_ ?_
        · simp
        · simpa using h12.at w1 (kAt (kAt (1 : Int) F0 F0.length) S0 S0.length) hw1 (by omega) (by omega)
        · simp
        simp [hkN]
        refine callR (h21.o none none hsm0) rfl rfl (fun _ => rfl) ?_
        simp
        refine callM (ts' := [nil, I (1 : Int)]) (r := I (1 : Int)) ?_ ?_ ?_ ?_
        · simp
        · simpa using h23.at0 (1 : Int) (by omega) (by omega)
        · simp
        simp
        refine callR (h24.o none (1 : Int) hsm0 (by omega) (by omega)) rfl rfl (fun _ => rfl) ?_
        simp [heldL]
        refine callR hto0 rfl rfl (fun _ => by simp) ?_
        simp
        refine callR hto1 rfl rfl (fun _ => by simp) ?_
        simp
        refine callR hc2 rfl rfl (fun _ => by simp) ?_
        simp
        refine callR (h21.o none none hsm0) rfl rfl (fun _ => rfl) ?_
        simp
        refine callR (h24.o none (1 : Int) hsm0 (by omega) (by omega)) rfl rfl (fun _ => rfl) ?_
        simp [heldL]
end Go.Mch
/- The run of the law of DivisorsOfWord. -/
namespace Go.Mch
def S_law114 (pg : Pg) : Prop := S_lw_wTz pg 114
theorem t_law114 {pg : Pg} (hp : pg.fn 114 = some (lw_wTz 229 230)) (h229 : S_dvS pg) (h230 : S_dv pg 230) (h14 : S_szSol pg) (h16 : S_toSol pg) (h18 : S_eqSol pg) (h7 : S_toI pg) (h9 : S_eqI pg) (h22 : S_markSol pg) (h12 : S_markI pg) (h21 : S_eqT pg) (h23 : S_markT pg) (h24 : S_heldT pg) : S_law114 pg := by
  exact t_lw_wTz (Q0 := dvO) (R1 := cwC) hp h229 h230 dv_small h14 h16 h18 h7 h9 h22 h12 h21 h23 h24
end Go.Mch
