/- Calls that are handed own memory: what is put back; boxes; what a slot names it takes. -/
import Derived.Test.YtkdoegjnnfmpaaaYdA
namespace Go.Mch

mutual
/-- A value is that of the places that it names. -/
def Fits (w : World) (vl : Vl) (q : Nat) (v : Value) : V → Prop
  | .val _ => True
  | .sref r p _ _ _ => r < q ∧ nodeV w (vl r) p = v
  | .pref r p _ => r < q ∧ nodeV w (vl r) p = v
  | .vagg vs => FitsL w vl q (kid w v) 0 vs
  | .vtup _ => False
def FitsL (w : World) (vl : Vl) (q : Nat) (g : Nat → Value) (i : Nat) : List V → Prop
  | [] => True
  | x :: xs => Fits w vl q (g i) x ∧ FitsL w vl q g (i + 1) xs
end

mutual
theorem fits_of {fm : Nat → Nat} {ok : K → Nat → Prop} {e e1 : Env} {vl vl' : Vl} {w w' : World} {q : Nat} (hd : ∀ j, q ≤ j → e j = none) (hnode : ∀ r p, r < q → e1.isHole r p = true → nodeV w' (vl' r) p = nodeV w (vl r) p) (hshp : ∀ r p s ts t, e r = some (.val t) → t.at p = some (.mem .own s ts) → shp w (nodeV w (vl r) p) s ts.length) :
    ∀ (x : V) (v : Value), arep fm ok e vl w v x → e.whole x = true → e1.hole x = true → Fits w' vl' q v x
  | .val _, _, _, _, _ => trivial
  | .sref r p sz off len, v, h, hw, hh => by
    simp only [arep] at h
    simp only [Env.whole, Bool.and_eq_true, beq_iff_eq] at hw
    simp only [Env.hole] at hh
    obtain ⟨h0, t, ts, h1, h2, h3, o', h4, h5, h6, h7⟩ := h
    obtain ⟨rfl, hw⟩ := hw
    have hrq : r < q := by
      rcases Nat.lt_or_ge r q with h' | h'
      · exact h'
      · rw [hd r h'] at h1; cases h1
    refine ⟨hrq, ?_⟩
    · rw [hnode r p hrq hh]
      have ht : e.tree r p = some (.mem .own (some sz) ts) := by simp [Env.tree, h1, h2]
      rw [ht] at hw
      simp only [beq_iff_eq] at hw
      have := h7 (.inr rfl)
      rw [Nat.zero_mul, Nat.add_zero] at this
      obtain ⟨⟨len', k1, k2, k3, _⟩, _⟩ := hshp r p _ _ _ h1 h2
      have hle : len = len' := Nat.eq_of_mul_eq_mul_right h0 (hw.trans k2)
      rw [h4, this, Nat.sub_zero, hle]
      exact k1
  | .pref r p off, v, h, hw, hh => by
    simp only [arep] at h
    simp only [Env.whole, Bool.and_eq_true, beq_iff_eq] at hw
    simp only [Env.hole] at hh
    obtain ⟨t, s, ts, h1, h2, h3, h4⟩ := h
    obtain ⟨rfl, hw⟩ := hw
    have ht : e.tree r p = some (.mem .own s ts) := by simp [Env.tree, h1, h2]
    rw [ht] at hw
    have hs : s = none := by
      cases s with
      | none => rfl
      | some sz => simp at hw
    subst hs
    have hrq : r < q := by
      rcases Nat.lt_or_ge r q with h' | h'
      · exact h'
      · rw [hd r h'] at h1; cases h1
    refine ⟨hrq, ?_⟩
    rw [hnode r p hrq hh, h4, Nat.add_zero]
    exact (hshp r p _ _ _ h1 h2).1
  | .vagg vs, v, h, hw, hh => by
    simp only [arep] at h
    simp only [Env.whole] at hw
    simp only [Env.hole] at hh
    obtain ⟨⟨cs, rfl, _⟩, h⟩ := h
    exact fitsL_of hd hnode hshp vs _ 0 h hw hh
  | .vtup _, _, _, hw, _ => by simp [Env.whole] at hw
theorem fitsL_of {fm : Nat → Nat} {ok : K → Nat → Prop} {e e1 : Env} {vl vl' : Vl} {w w' : World} {q : Nat} (hd : ∀ j, q ≤ j → e j = none) (hnode : ∀ r p, r < q → e1.isHole r p = true → nodeV w' (vl' r) p = nodeV w (vl r) p) (hshp : ∀ r p s ts t, e r = some (.val t) → t.at p = some (.mem .own s ts) → shp w (nodeV w (vl r) p) s ts.length) :
    ∀ (xs : List V) (g : Nat → Value) (i : Nat), arepL fm ok e vl w g i xs → e.wholeL xs = true → e1.holeL xs = true → FitsL w' vl' q g i xs
  | [], _, _, _, _, _ => trivial
  | x :: xs, g, i, h, hw, hh => by
    simp only [arepL] at h
    simp only [Env.wholeL, Bool.and_eq_true] at hw
    simp only [Env.holeL, Bool.and_eq_true] at hh
    exact ⟨fits_of hd hnode hshp x _ h.1 hw.1 hh.1, fitsL_of hd hnode hshp xs g (i + 1) h.2 hw.2 hh.2⟩
end

theorem at_setAt_ne {x : T} : ∀ (p q : List Nat) (t : T), p.isPrefixOf q = false → q.isPrefixOf p = false → (t.setAt p x).at q = t.at q
  | [], _, _, h, _ => by simp at h
  | _ :: _, [], _, _, h => by simp at h
  | i :: p, j :: q, t, h1, h2 => by
    cases hk : t.kids with
    | nil =>
      have : t.setAt (i :: p) x = t.withKids [] := by simp only [T.setAt, hk, List.set_nil]
      have hwk : (t.withKids []).kids = [] := by
        cases t with
        | mem k s ts => cases k <;> rfl
        | _ => rfl
      rw [this]
      simp only [T.at]
      rw [hwk, hk]
    | cons c cs =>
      have hk2 : (t.setAt (i :: p) x).kids = t.kids.set i ((t.kids.getD i .gone).setAt p x) := by
        cases t with
        | mem k s ts => cases k <;> simp [T.setAt, T.withKids, T.kids] at hk ⊢
        | agg ts => rfl
        | tup ts => rfl
        | _ => simp [T.kids] at hk
      simp only [T.at, hk2]
      by_cases hij : i = j
      · subst hij
        simp only [List.isPrefixOf, beq_self_eq_true, Bool.true_and] at h1 h2
        rcases Nat.lt_or_ge i t.kids.length with hlt | hge
        · rw [List.getElem?_set_self hlt, List.getElem?_eq_getElem hlt, List.getD_eq_getElem?_getD, List.getElem?_eq_getElem hlt]
          simp only [Option.bind_some, Option.getD_some]
          exact at_setAt_ne p q _ h1 h2
        · rw [List.getElem?_eq_none (by simpa using hge), List.getElem?_eq_none hge]
      · rw [List.getElem?_set_ne hij]

theorem setTree_add {e : Env} {q : Nat} {F x : T} {π : List Nat} (hc : Clr e q) : (e.add q (.val F)).setTree q π x = e.add q (.val (F.setAt π x)) := by
  funext s
  simp only [Env.setTree]
  by_cases hs : s = q
  · simp [hs]
  · rw [if_neg hs, add_ne hs]
    have hes' : e.add q (.val F) s = e s := add_ne hs
    simp only [Env.kill, hes']
    cases hes : e s with
    | none => rfl
    | some y =>
      have : y.hits q π = false := by
        cases hh : y.hits q π with
        | false => rfl
        | true => have := isPrefixOf_trans_nil q π y hh; rw [(hc q (Nat.le_refl _)).2 s y hes] at this; cases this
      simp [this]

theorem back1_clr {e e' : Env} {r q : Nat} {p : List Nat} {t : T} (hc : Clr e q) (hr : r < q) (h : e.back1 r p t = some e') : Clr e' q := by
  intro j hj
  have hj' := hc j hj
  cases p with
  | nil =>
    simp only [Env.back1] at h
    split at h
    · cases h
      refine ⟨by simp only [Env.put, Env.kill]; rw [if_neg (by omega), hj'.1], fun s x hx => ?_⟩
      simp only [Env.put, Env.kill] at hx
      split at hx
      · simp only [V.hits] at hx; cases hx; rfl
      · cases hes : e s with
        | none => rw [hes] at hx; cases hx
        | some y =>
          rw [hes] at hx
          simp only at hx
          split at hx
          · cases hx
          · cases hx; exact hj'.2 s _ hes
    · cases h
  | cons i p =>
    simp only [Env.back1] at h
    split at h
    · cases h
      refine ⟨by simp only [Env.setTree, Env.kill]; rw [if_neg (by omega), hj'.1], fun s x hx => ?_⟩
      simp only [Env.setTree, Env.kill] at hx
      split at hx
      · split at hx
        · cases hx; rfl
        · cases hx
      · cases hes : e s with
        | none => rw [hes] at hx; cases hx
        | some y =>
          rw [hes] at hx
          simp only at hx
          split at hx
          · cases hx
          · cases hx; exact hj'.2 s _ hes
    · cases h

/-- A part of a float goes back to its place. -/
theorem give1 {cx : Cx} {e e' : Env} {vl : Vl} {w : World} {q r : Nat} {p π : List Nat} {F t : T} (h : R cx (e.add q (.val F)) vl w) (hc : Clr e q) (hr : r < q) (hπ : π ≠ []) (hF : F.at π = some t)
    (hv : nodeV w (vl r) p = nodeV w (vl q) π) (hb : e.back1 r p t = some e') : R cx (e'.add q (.val (F.setAt π .gone))) vl w := by
  obtain ⟨i, π', rfl⟩ : ∃ i π', π = i :: π' := by
    cases π with
    | nil => exact (hπ rfl).elim
    | cons i π' => exact ⟨i, π', rfl⟩
  have hn1 : (e.add q (.val F)) (q + 1) = none := by rw [add_ne (by omega)]; exact (hc (q + 1) (by omega)).1
  have h1 := h.movePart (r := q) (d := q + 1) (add_self ..) hn1 hF
  rw [setTree_add hc] at h1
  have hc1 := hc.add (F.setAt (i :: π') .gone)
  have hclr' := back1_clr hc hr hb
  have hdom : ∀ s x, (e'.add q (.val (F.setAt (i :: π') .gone))) s = some x → s ≤ q := fun s x hx => by
    rcases Nat.lt_or_ge q s with h' | h'
    · rw [add_ne (by omega), (hclr' s (by omega)).1] at hx; cases hx
    · exact h'
  cases p with
  | nil =>
    simp only [Env.back1] at hb
    split at hb
    · rename_i her
      cases hb
      have h2 := h1.land (d := r) hc1 (by omega)
      have henv : (e.add q (.val (F.setAt (i :: π') .gone))).put r (.val t) = (e.put r (.val t)).add q (.val (F.setAt (i :: π') .gone)) := by
        funext s
        simp only [Env.put, Env.add, Env.kill, V.hits]
        by_cases hs : s = r
        · subst hs; simp; omega
        · by_cases hs2 : s = q
          · subst hs2; simp [hs, V.hits]
          · simp [hs, hs2]
      rw [henv] at h2
      refine h2.congr fun s x hx => ?_
      have hle := hdom s x hx
      by_cases hs : s = r
      · subst hs
        rw [vadd_self, vadd_self, ← hv]
        rfl
      · rw [vadd_ne hs, vadd_ne (by omega)]
    · cases hb
  | cons j p =>
    simp only [Env.back1] at hb
    split at hb
    · rename_i htr
      cases hb
      obtain ⟨t0, g1, g2⟩ := tree_some htr
      have hrq : r ≠ q := by omega
      have hrq1 : r ≠ q + 1 := by omega
      have hE : ((e.add q (.val (F.setAt (i :: π') .gone))).add (q + 1) (.val t)) r = some (.val t0) := by rw [add_ne hrq1, add_ne hrq]; exact g1
      have hfr := srep_val h1 (add_self ..)
      rw [vadd_self] at hfr
      have hnv : nodeV w (vadd vl (q + 1) (nodeV w (vl q) (i :: π')) r) (j :: p) = nodeV w (vl q) (i :: π') := by rw [vadd_ne hrq1]; exact hv
      have h2 := h1.replaceAt (w' := w) (r := r) (q := q + 1) (p := j :: p) (pks := []) (t := t0) (u := .gone) (tq := t) (x := t) (touch := fun _ => False) (e' := (e.setTree r (j :: p) t).add q (.val (F.setAt (i :: π') .gone))) hE g2 (add_self ..) hrq1
        (fun _ _ _ => rfl) (fun _ h => h.elim) h1.keeps (by rw [hnv]; exact hfr) (fun b => by rw [hnv, vadd_self]; exact Nat.le_add_left _ _)
        (fun rest _ s ts hh => by cases rest <;> simp [T.at, T.kids] at hh) (by rw [add_ne hrq]; exact setTree_self g1) (fun s y hs hy => ?_)
      · refine h2.congr fun s x hx => ?_
        have hle := hdom s x hx
        rw [vadd_ne (by omega)]
      · have hsq1 : s ≠ q + 1 := fun e' => by
          subst e'
          rw [add_ne (by omega)] at hy
          have := (hclr' (q + 1) (by omega)).1
          rw [this] at hy; cases hy
        refine ⟨hsq1, ?_⟩
        by_cases hsq : s = q
        · subst hsq
          rw [add_self] at hy
          cases hy
          exact ⟨by rw [add_ne hsq1, add_self], fun pk hpk => by simp at hpk, fun r' hh => by simp [V.hits] at hh⟩
        · rw [add_ne hsq] at hy
          rcases setTree_some g1 hy with ⟨h3, _⟩ | ⟨_, h4, h5⟩
          · exact (hs h3).elim
          · refine ⟨by rw [add_ne hsq1, add_ne hsq]; exact h4, fun pk hpk => by simp at hpk, fun r' hh => ?_⟩
            have h6 : r' ≠ q + 1 := fun e' => by subst e'; rw [(hc (q + 1) (by omega)).2 s y h4] at hh; cases hh
            have h7 : r' ≠ q := fun e' => by subst e'; rw [(hc r' (Nat.le_refl _)).2 s y h4] at hh; cases hh
            refine ⟨h6, fun hne => ?_⟩
            rw [add_ne h7, add_ne h6, add_ne h7]
            obtain ⟨u, hu⟩ := h.root (s := s) (x := y) (by rw [add_ne hsq]; exact h4) hh
            rw [add_ne h7] at hu
            rw [hu]
            exact setTree_ne hne hu rfl
    · cases hb

theorem pre_app {π π' : List Nat} {i : Nat} (h1 : π.isPrefixOf π' = false) (h2 : π'.isPrefixOf π = false) : (π ++ [i]).isPrefixOf π' = false ∧ π'.isPrefixOf (π ++ [i]) = false := by
  refine ⟨?_, ?_⟩
  · cases h : (π ++ [i]).isPrefixOf π' with
    | false => rfl
    | true =>
      have : π.isPrefixOf π' = true := by
        rw [List.isPrefixOf_iff_prefix] at h ⊢
        exact (List.prefix_append π [i]).trans h
      rw [this] at h1; cases h1
  · cases h : π'.isPrefixOf (π ++ [i]) with
    | false => rfl
    | true =>
      rw [List.isPrefixOf_iff_prefix] at h
      rcases List.prefix_concat_iff.1 h with h3 | h3
      · have : π.isPrefixOf π' = true := by rw [List.isPrefixOf_iff_prefix, h3]; exact List.prefix_append π [i]
        rw [this] at h1; cases h1
      · have : π'.isPrefixOf π = true := by rw [List.isPrefixOf_iff_prefix]; exact h3
        rw [this] at h2; cases h2

theorem pre_sib {π : List Nat} {i j : Nat} (h : i ≠ j) : (π ++ [i]).isPrefixOf (π ++ [j]) = false := by
  cases hh : (π ++ [i]).isPrefixOf (π ++ [j]) with
  | false => rfl
  | true =>
    rw [List.isPrefixOf_iff_prefix, List.prefix_append_right_inj] at hh
    simp at hh
    exact (h hh).elim

mutual
theorem give_sound {cx : Cx} {vl : Vl} {w : World} {q : Nat} : ∀ (x : V) (t : T) (π : List Nat) (e e' : Env) (F : T), R cx (e.add q (.val F)) vl w → Clr e q → π ≠ [] → F.at π = some t → Fits w vl q (nodeV w (vl q) π) x → e.give x t = some e' →
    ∃ F', R cx (e'.add q (.val F')) vl w ∧ Clr e' q ∧ ∀ π', π.isPrefixOf π' = false → π'.isPrefixOf π = false → F'.at π' = F.at π'
  | .val _, t, π, e, e', F, h, hc, hπ, hF, hf, hg => by
    simp only [Env.give, Option.some.injEq] at hg
    subst hg
    exact ⟨F, h, hc, fun _ _ _ => rfl⟩
  | .sref r p sz off len, t, π, e, e', F, h, hc, hπ, hF, hf, hg => by
    simp only [Env.give] at hg
    simp only [Fits] at hf
    exact ⟨_, give1 h hc hf.1 hπ hF hf.2 hg, back1_clr hc hf.1 hg, fun π' h1 h2 => at_setAt_ne π π' F h1 h2⟩
  | .pref r p off, t, π, e, e', F, h, hc, hπ, hF, hf, hg => by
    simp only [Env.give] at hg
    simp only [Fits] at hf
    exact ⟨_, give1 h hc hf.1 hπ hF hf.2 hg, back1_clr hc hf.1 hg, fun π' h1 h2 => at_setAt_ne π π' F h1 h2⟩
  | .vagg vs, t, π, e, e', F, h, hc, hπ, hF, hf, hg => by
    cases t <;> simp only [Env.give] at hg <;> try cases hg
    rename_i ts
    simp only [Fits] at hf
    obtain ⟨F', h1, h2, h3⟩ := giveL_sound vs ts π 0 e e' F h hc (fun j t hj => by
      rw [R.replaceAt.at_append π [0 + j] F hF]
      simp [T.at, T.kids, hj]) hf hg
    exact ⟨F', h1, h2, h3⟩
  | .vtup _, _, _, _, _, _, _, _, _, _, hf, _ => hf.elim
theorem giveL_sound {cx : Cx} {vl : Vl} {w : World} {q : Nat} : ∀ (xs : List V) (ts : List T) (π : List Nat) (i : Nat) (e e' : Env) (F : T), R cx (e.add q (.val F)) vl w → Clr e q → (∀ j t, ts[j]? = some t → F.at (π ++ [i + j]) = some t) → FitsL w vl q (kid w (nodeV w (vl q) π)) i xs → e.giveL xs ts = some e' →
    ∃ F', R cx (e'.add q (.val F')) vl w ∧ Clr e' q ∧ ∀ π', π.isPrefixOf π' = false → π'.isPrefixOf π = false → F'.at π' = F.at π'
  | [], ts, π, i, e, e', F, h, hc, hF, hf, hg => by
    simp only [Env.giveL, Option.some.injEq] at hg
    subst hg
    exact ⟨F, h, hc, fun _ _ _ => rfl⟩
  | x :: xs, [], π, i, e, e', F, h, hc, hF, hf, hg => by simp [Env.giveL] at hg
  | x :: xs, t :: ts, π, i, e, e', F, h, hc, hF, hf, hg => by
    simp only [Env.giveL] at hg
    simp only [FitsL] at hf
    cases hx : e.give x t with
    | none => rw [hx] at hg; cases hg
    | some e1 =>
      rw [hx] at hg
      simp only [Option.bind_some] at hg
      have hn : nodeV w (vl q) (π ++ [i]) = kid w (nodeV w (vl q) π) i := by rw [R.replaceAt.nodeV_append]; rfl
      obtain ⟨F1, h1, h2, h3⟩ := give_sound x t (π ++ [i]) e e1 F h hc (by simp) (by have := hF 0 t rfl; rwa [Nat.add_zero] at this) (by rw [hn]; exact hf.1) hx
      obtain ⟨F2, h4, h5, h6⟩ := giveL_sound xs ts π (i + 1) e1 e' F1 h1 h2 (fun j u hj => by
        rw [h3 _ (pre_sib (by omega)) (pre_sib (by omega)), show i + 1 + j = i + (j + 1) from by omega]
        exact hF (j + 1) u (by simpa using hj)) hf.2 hg
      refine ⟨F2, h4, h5, fun π' g1 g2 => ?_⟩
      obtain ⟨g3, g4⟩ := pre_app (i := i) g1 g2
      rw [h6 π' g1 g2, h3 π' g3 g4]
end

mutual
theorem give_none : ∀ (x : V) (t : T) (e e' : Env), x.lent = false → e.give x t = some e' → e' = e
  | .val _, t, e, e', _, hg => by simp only [Env.give, Option.some.injEq] at hg; exact hg.symm
  | .sref .., _, _, _, h, _ => by simp [V.lent] at h
  | .pref .., _, _, _, h, _ => by simp [V.lent] at h
  | .vagg vs, t, e, e', h, hg => by
    cases t <;> simp only [Env.give] at hg <;> try cases hg
    simp only [V.lent] at h
    exact giveL_none vs _ e e' h hg
  | .vtup _, t, _, _, _, hg => by simp [Env.give] at hg
theorem giveL_none : ∀ (xs : List V) (ts : List T) (e e' : Env), V.lentL xs = false → e.giveL xs ts = some e' → e' = e
  | [], ts, e, e', _, hg => by simp only [Env.giveL, Option.some.injEq] at hg; exact hg.symm
  | x :: xs, [], e, e', _, hg => by simp [Env.giveL] at hg
  | x :: xs, t :: ts, e, e', h, hg => by
    simp only [V.lentL, Bool.or_eq_false_iff] at h
    simp only [Env.giveL] at hg
    cases hx : e.give x t with
    | none => rw [hx] at hg; cases hg
    | some e1 =>
      rw [hx] at hg
      simp only [Option.bind_some] at hg
      have := give_none x t e e1 h.1 hx
      subst this
      exact giveL_none xs ts _ e' h.2 hg
end

mutual
theorem take_lent : ∀ (x : V) (e : Env) {t : T} {e1 : Env}, x.lent = true → e.take x = some (t, e1) → t.lend.noOwn = false
  | .val _, _, _, _, h, _ => by simp [V.lent] at h
  | .sref r p sz off len, e, t, e1, _, ht => by
    simp only [Env.take] at ht
    split at ht
    · split at ht
      · cases ht; simp [T.lend]
      · cases ht
    · cases ht
  | .pref r p off, e, t, e1, _, ht => by
    simp only [Env.take] at ht
    split at ht
    · split at ht
      · cases ht; simp [T.lend]
      · cases ht
    · cases ht
  | .vagg vs, e, t, e1, h, ht => by
    simp only [Env.take, Option.map_eq_some_iff] at ht
    obtain ⟨y, h1, h2⟩ := ht
    cases h2
    simp only [V.lent] at h
    simp only [T.lend, T.noOwn]
    exact takeL_lent vs e h h1
  | .vtup vs, e, t, e1, h, ht => by
    simp only [Env.take, Option.map_eq_some_iff] at ht
    obtain ⟨y, h1, h2⟩ := ht
    cases h2
    simp only [V.lent] at h
    simp only [T.lend, T.noOwn]
    exact takeL_lent vs e h h1
theorem takeL_lent : ∀ (xs : List V) (e : Env) {ts : List T} {e1 : Env}, V.lentL xs = true → e.takeL xs = some (ts, e1) → T.noOwnL (T.lendL ts) = false
  | [], _, _, _, h, _ => by simp [V.lentL] at h
  | x :: xs, e, ts, e1, h, ht => by
    simp only [Env.takeL] at ht
    cases hx : e.take x with
    | none => rw [hx] at ht; cases ht
    | some y =>
      rw [hx] at ht
      simp only [Option.bind_some, Option.map_eq_some_iff] at ht
      obtain ⟨z, h1, h2⟩ := ht
      cases h2
      simp only [V.lentL, Bool.or_eq_true] at h
      simp only [T.lendL, T.noOwnL, Bool.and_eq_false_iff]
      rcases h with h | h
      · exact .inl (take_lent x e h hx)
      · exact .inr (takeL_lent xs y.2 h h1)
end

theorem takeL_get : ∀ (xs : List V) (e : Env) {ts : List T} {e1 : Env}, e.takeL xs = some (ts, e1) → ∀ (i : Nat) (x : V) (t : T), xs[i]? = some x → ts[i]? = some t → x.lent = true → t.lend.noOwn = false
  | [], _, _, _, _, i, _, _, h, _, _ => by simp at h
  | x :: xs, e, ts, e1, ht, i, x', t, hi, hti, hl => by
    simp only [Env.takeL] at ht
    cases hx : e.take x with
    | none => rw [hx] at ht; cases ht
    | some y =>
      rw [hx] at ht
      simp only [Option.bind_some, Option.map_eq_some_iff] at ht
      obtain ⟨z, h1, h2⟩ := ht
      cases h2
      cases i with
      | zero =>
        simp only [List.getElem?_cons_zero, Option.some.injEq] at hi hti
        subst hi; subst hti
        exact take_lent x e hl hx
      | succ i => exact takeL_get xs y.2 h1 i x' t (by simpa using hi) (by simpa using hti) hl

theorem gives_sound {cx : Cx} {vl : Vl} {w : World} {q : Nat} : ∀ (xs : List V) (gs : List Bool) (ts : List T) (i : Nat) (e e' : Env) (F : T), R cx (e.add q (.val F)) vl w → Clr e q →
    (∀ j x t, xs[j]? = some x → ts[j]? = some t → x.lent = true → F.at [i + j] = some t) → (∀ j x, xs[j]? = some x → gs[j]? = some true → Fits w vl q (kid w (vl q) (i + j)) x) → e.gives xs gs ts = some e' →
    ∃ F', R cx (e'.add q (.val F')) vl w ∧ Clr e' q ∧ ∀ n, i + xs.length ≤ n → F'.at [n] = F.at [n]
  | [], [], [], i, e, e', F, h, hc, _, _, hg => by
    simp only [Env.gives, Option.some.injEq] at hg
    subst hg
    exact ⟨F, h, hc, fun _ _ => rfl⟩
  | x :: xs, g :: gs, t :: ts, i, e, e', F, h, hc, hF, hf, hg => by
    simp only [Env.gives] at hg
    have skip : ∀ e1 F1, R cx (e1.add q (.val F1)) vl w → Clr e1 q → (∀ n, n ≠ i → F1.at [n] = F.at [n]) → e1.gives xs gs ts = some e' → ∃ F', R cx (e'.add q (.val F')) vl w ∧ Clr e' q ∧ ∀ n, i + (x :: xs).length ≤ n → F'.at [n] = F.at [n] := fun e1 F1 h1 h2 h3 h4 => by
      obtain ⟨F2, k1, k2, k3⟩ := gives_sound xs gs ts (i + 1) e1 e' F1 h1 h2 (fun j y u hj hu hl => by
        rw [h3 _ (by omega), show i + 1 + j = i + (j + 1) from by omega]
        exact hF (j + 1) y u (by simpa using hj) (by simpa using hu) hl) (fun j y hj hgj => by
        rw [show i + 1 + j = i + (j + 1) from by omega]
        exact hf (j + 1) y (by simpa using hj) (by simpa using hgj)) h4
      refine ⟨F2, k1, k2, fun n hn => ?_⟩
      simp only [List.length_cons] at hn
      rw [k3 n (by omega), h3 n (by omega)]
    cases g with
    | false => exact skip e F h hc (fun _ _ => rfl) (by simpa using hg)
    | true =>
      simp only [if_true] at hg
      cases hx : e.give x t with
      | none => rw [hx] at hg; cases hg
      | some e1 =>
        rw [hx] at hg
        simp only [Option.bind_some] at hg
        cases hl : x.lent with
        | false =>
          have := give_none x t e e1 hl hx
          subst this
          exact skip _ F h hc (fun _ _ => rfl) hg
        | true =>
          have hF0 := hF 0 x t rfl rfl hl
          have hf0 := hf 0 x rfl rfl
          rw [Nat.add_zero] at hF0 hf0
          obtain ⟨F1, k1, k2, k3⟩ := give_sound x t [i] e e1 F h hc (by simp) hF0 hf0 hx
          refine skip e1 F1 k1 k2 (fun n hn => k3 [n] ?_ ?_) hg
          · have := pre_sib (π := []) (i := i) (j := n) (Ne.symm hn); simpa using this
          · have := pre_sib (π := []) (i := n) (j := i) hn; simpa using this
  | [], [], _ :: _, _, _, _, _, _, _, _, _, hg => by simp [Env.gives] at hg
  | [], _ :: _, _, _, _, _, _, _, _, _, _, hg => by simp [Env.gives] at hg
  | _ :: _, [], _, _, _, _, _, _, _, _, _, hg => by simp [Env.gives] at hg
  | _ :: _, _ :: _, [], _, _, _, _, _, _, _, _, hg => by simp [Env.gives] at hg

end Go.Mch
