/- Taking values out of a frame, and landing trees in slots. -/
import Derived.Test.YtkdoegjnnfmpaaaYbE
namespace Go.Mch

/-- A float's tree read anew, in the same world. -/
theorem R.refit {cx : Cx} {e : Env} {vl : Vl} {w : World} {q : Nat} {t t' : T} {v' : Value} (h : R cx (e.add q (.val t)) vl w) (hc : Clr e q)
    (hrep : Mch.rep cx.fm (okR cx (Own (e.add q (.val t)) vl w)) w v' t') (hcnt : ∀ b, cnt w v' b t' ≤ cnt w (vl q) b t) :
    R cx (e.add q (.val t')) (vadd vl q v') w := by
  obtain ⟨who, hw⟩ := h.who
  refine h.retag (q := q) (d := q) (touch := fun _ => False) (add_self ..) (fun _ _ _ => rfl) (fun _ h => h.elim) h.keeps ?_ (fun b => Nat.le_trans (hcnt b) (hw q t (add_self ..) b).1) (fun b hb => .inl (Nat.le_trans hb (hcnt b)))
    (add_self ..) (fun s x hs hx => ?_)
  · refine rep_less (fun b hb => ?_) hrep
    rcases hb with ⟨s, u, hs, hu, h1⟩ | h1
    · exact ⟨s, u, hu, h1⟩
    · exact ⟨q, t, add_self .., Nat.le_trans h1 (hcnt b)⟩
  · rw [add_ne hs] at hx
    refine ⟨hs, by rw [add_ne hs]; exact hx, fun r hr => ?_⟩
    have hne : r ≠ q := fun e' => by subst e'; rw [(hc r (Nat.le_refl _)).2 s x hx] at hr; cases hr
    exact ⟨hne, hne, by rw [add_ne hne, add_ne hne]⟩

theorem own_refit {e : Env} {vl : Vl} {w : World} {q : Nat} {t t' : T} {v' : Value} (hcnt : ∀ b, cnt w v' b t' ≤ cnt w (vl q) b t) : ∀ b, Own (e.add q (.val t')) (vadd vl q v') w b → Own (e.add q (.val t)) vl w b := by
  rintro b ⟨s, u, h1, h2⟩
  by_cases hs : s = q
  · subst hs
    simp only [add_self, Option.some.injEq, V.val.injEq] at h1
    subst h1
    rw [vadd_self] at h2
    exact ⟨s, t, add_self .., Nat.le_trans h2 (hcnt b)⟩
  · rw [add_ne hs] at h1; rw [vadd_ne hs] at h2
    exact ⟨s, u, by rw [add_ne hs]; exact h1, h2⟩

theorem win_split (ts : List T) (a n : Nat) : ts = ts.take a ++ (win ts a n ++ (ts.drop a).drop n) := by
  unfold win; rw [List.take_append_drop, List.take_append_drop]

theorem repL_win {fm : Nat → Nat} {ok : K → Nat → Prop} {w : World} {g : Nat → Value} {ts : List T} {a : Nat} (n : Nat) (ha : a ≤ ts.length) (h : repL fm ok w g 0 ts) : repL fm ok w (fun j => g (j + a)) 0 (win ts a n) := by
  rw [win_split ts a n, repL_append, repL_append] at h
  have h2 := h.2.1
  rw [List.length_take, Nat.min_eq_left ha] at h2
  exact (repL_shift _ 0 a).1 (by rwa [Nat.zero_add] at h2 ⊢)

theorem cntL_win {w : World} {g : Nat → Value} {b : Nat} {ts : List T} {a : Nat} (n : Nat) (ha : a ≤ ts.length) : cntL w (fun j => g (j + a)) b 0 (win ts a n) ≤ cntL w g b 0 ts := by
  have h : cntL w g b 0 ts = cntL w g b 0 (ts.take a ++ (win ts a n ++ (ts.drop a).drop n)) := by rw [← win_split]
  rw [h, cntL_append, cntL_append, List.length_take, Nat.min_eq_left ha, cntL_shift _ 0 a]
  omega

theorem win_length {ts : List T} {a n : Nat} (h : a + n ≤ ts.length) : (win ts a n).length = n := by
  simp [win]; omega

theorem blk_slice {b o : Nat} {sp : Option Nat} {l c : Nat} : blk (.slice (some ⟨b, o, sp⟩) l c) = b := rfl

/-- A window of own memory, the rest given up. -/
theorem R.trim {cx : Cx} {e : Env} {vl : Vl} {w : World} {q sz off len : Nat} {ts : List T} {v : Value} (h : R cx (e.add q (.val (.mem .own (some sz) ts))) vl w) (hc : Clr e q) (hz : 0 < sz)
    (hl : (off + len) * sz ≤ ts.length) (hw : wnd (vl q) v sz off len) : R cx (e.add q (.val (.mem .own (some sz) (win ts (off * sz) (len * sz))))) (vadd vl q v) w ∧
      ∀ b, Own (e.add q (.val (.mem .own (some sz) (win ts (off * sz) (len * sz))))) (vadd vl q v) w b → Own (e.add q (.val (.mem .own (some sz) ts))) vl w b := by
  have hr := srep_val h (add_self ..)
  rw [rep_mem] at hr
  obtain ⟨h1, h2, h3, _, h5⟩ := hr
  obtain ⟨o', hv, w1, w2, w3⟩ := hw
  have hmul : (off + len) * sz = off * sz + len * sz := Nat.add_mul ..
  have ha : off * sz ≤ ts.length := by omega
  have hwl : (win ts (off * sz) (len * sz)).length = len * sz := win_length (by omega)
  have hpos : ∀ i, i < len * sz → o' = ofs (vl q) + off * sz := fun i hi => w3 (by
    rcases Nat.eq_zero_or_pos len with h0 | h0
    · rw [h0, Nat.zero_mul] at hi; omega
    · omega)
  have hb : blk v = blk (vl q) := by rw [hv]; rfl
  have ho : ofs v = o' := by rw [hv]; rfl
  have hcap : capOf v = capOf (vl q) - off := by rw [hv]; rfl
  have hnv : ∃ L, vl q = .slice (some ⟨blk (vl q), ofs (vl q), none⟩) L (capOf (vl q)) := by
    obtain ⟨⟨L, hL, _⟩, _⟩ := h1
    exact ⟨L, hL⟩
  obtain ⟨L, hL⟩ := hnv
  have hkid : ∀ j, j < len * sz → kid w v j = kid w (vl q) (j + off * sz) := fun j hj => by
    rw [hv, hL]
    simp only [kid, blk_slice]
    rw [hpos j hj]
    congr 3
    omega
  have hcn : ∀ b, cnt w v b (.mem .own (some sz) (win ts (off * sz) (len * sz))) ≤ cnt w (vl q) b (.mem .own (some sz) ts) := fun b => by
    rw [cnt_own, cnt_own, hb]
    have h6 := cntL_win (w := w) (g := kid w (vl q)) (b := b) (len * sz) ha
    rw [cntL_congr (g := kid w v) (g' := fun j => kid w (vl q) (j + off * sz)) _ 0 fun j _ hj => by rw [hwl] at hj; exact hkid j (by omega)]
    omega
  refine ⟨h.refit hc ?_ hcn, own_refit hcn⟩
  · rw [rep_mem, hwl]
    refine ⟨⟨⟨len, by rw [hb, ho, hcap]; exact hv, rfl, hz, by omega⟩, fun i hi => ?_⟩, fun _ => by rw [hb]; exact h2 (.inl rfl), fun _ => ?_, fun hk => (hk rfl).elim, ?_⟩
    · rw [hb, ho, hpos i hi]
      have := h1.2 (off * sz + i) (by omega)
      rwa [Nat.add_assoc]
    · obtain ⟨arr, elem, h6, h7⟩ := h3 rfl
      refine ⟨arr, elem, by rw [hb]; exact h6, ?_⟩
      simp only [ho, hcap] at h7 ⊢
      rw [Nat.sub_mul]
      have : off * sz ≤ capOf (vl q) * sz := Nat.mul_le_mul_right _ (by omega)
      omega
    · refine repL_congr _ 0 (fun j _ hj => ?_) (repL_win (len * sz) ha h5)
      rw [hwl] at hj
      exact (hkid j (by omega)).symm

theorem tree_some {e : Env} {r : Nat} {p : List Nat} {u : T} (h : e.tree r p = some u) : ∃ t, e r = some (.val t) ∧ t.at p = some u := by
  unfold Env.tree at h
  split at h
  · rename_i t ht; exact ⟨t, ht, h⟩
  · cases h

/-- The tree at a place goes to an empty slot. -/
theorem R.moveAt {cx : Cx} {e : Env} {vl : Vl} {w : World} (h : R cx e vl w) {r d : Nat} {p : List Nat} {u : T} (hp : e.tree r p = some u) (hd : e d = none) :
    R cx ((e.clear r p).add d (.val u)) (vadd vl d (nodeV w (vl r) p)) w := by
  obtain ⟨t, hr, hp⟩ := tree_some hp
  cases p with
  | nil =>
    simp only [T.at, Option.some.injEq] at hp
    subst hp
    exact h.moveRoot hr hd
  | cons i p => exact h.movePart hr hd hp

theorem arr_eq {a b : Array Value} (hs : a.size = b.size) (h : ∀ j, j < a.size → a.getD j undef = b.getD j undef) : a = b := by
  refine Array.ext hs fun i h1 h2 => ?_
  have := h i h1
  simpa [Array.getD_eq_getD_getElem?, h1, h2] using this

theorem clear_some {e : Env} {r : Nat} {p : List Nat} {s : Nat} {x : V} (h : e.clear r p s = some x) : e s = some x ∨ ((∃ t, x = .val t) ∧ ∃ y, e s = some y) := by
  cases p with
  | nil =>
    simp only [Env.clear, Env.del, Env.kill] at h
    split at h
    · cases h
    · cases hes : e s with
      | none => rw [hes] at h; cases h
      | some y =>
        rw [hes] at h
        simp only at h
        split at h
        · cases h
        · exact .inl h
  | cons i p =>
    simp only [Env.clear, Env.setTree, Env.kill] at h
    split at h
    · rename_i hs
      subst hs
      split at h
      · rename_i t ht
        cases h
        exact .inr ⟨⟨_, rfl⟩, _, ht⟩
      · cases h
    · cases hes : e s with
      | none => rw [hes] at h; cases h
      | some y =>
        rw [hes] at h
        simp only at h
        split at h
        · cases h
        · exact .inl h

mutual
theorem take_some : ∀ (v : V) (e : Env) {t : T} {e1 : Env}, e.take v = some (t, e1) → ∀ s x, e1 s = some x → e s = some x ∨ ((∃ t, x = .val t) ∧ ∃ y, e s = some y)
  | .val u, e, t, e1, h, s, x, hx => by
    simp only [Env.take] at h
    split at h
    · cases h; exact .inl hx
    · cases h
  | .sref r p sz off len, e, t, e1, h, s, x, hx => by
    simp only [Env.take] at h
    split at h
    · split at h
      · cases h; exact clear_some hx
      · cases h
    · cases h
  | .pref r p off, e, t, e1, h, s, x, hx => by
    simp only [Env.take] at h
    split at h
    · split at h
      · cases h; exact clear_some hx
      · cases h
    · cases h
  | .vagg vs, e, t, e1, h, s, x, hx => by
    simp only [Env.take] at h
    cases htl : e.takeL vs with
    | none => rw [htl] at h; cases h
    | some y => rw [htl] at h; cases h; exact takeL_some vs e htl s x hx
  | .vtup vs, e, t, e1, h, s, x, hx => by
    simp only [Env.take] at h
    cases htl : e.takeL vs with
    | none => rw [htl] at h; cases h
    | some y => rw [htl] at h; cases h; exact takeL_some vs e htl s x hx
theorem takeL_some : ∀ (vs : List V) (e : Env) {ts : List T} {e1 : Env}, e.takeL vs = some (ts, e1) → ∀ s x, e1 s = some x → e s = some x ∨ ((∃ t, x = .val t) ∧ ∃ y, e s = some y)
  | [], e, ts, e1, h, s, x, hx => by simp only [Env.takeL] at h; cases h; exact .inl hx
  | v :: vs, e, ts, e1, h, s, x, hx => by
    simp only [Env.takeL] at h
    cases hta : e.take v with
    | none => rw [hta] at h; cases h
    | some y =>
      rw [hta] at h
      simp only [Option.bind_some] at h
      cases htl : y.2.takeL vs with
      | none => rw [htl] at h; cases h
      | some z =>
        rw [htl] at h
        cases h
        rcases takeL_some vs y.2 htl s x hx with h1 | ⟨h1, y', h2⟩
        · exact take_some v e hta s x h1
        · rcases take_some v e hta s y' h2 with h3 | ⟨_, h3⟩
          · exact .inr ⟨h1, _, h3⟩
          · exact .inr ⟨h1, h3⟩
end

theorem takeL_none (vs : List V) (e : Env) {ts : List T} {e1 : Env} (h : e.takeL vs = some (ts, e1)) (j : Nat) (hj : e j = none) : e1 j = none := by
  cases hx : e1 j with
  | none => rfl
  | some x =>
    rcases takeL_some vs e h j x hx with h1 | ⟨_, y, h1⟩
    · rw [hj] at h1; cases h1
    · rw [hj] at h1; cases h1

theorem takeL_alias (vs : List V) (e : Env) {ts : List T} {e1 : Env} (h : e.takeL vs = some (ts, e1)) (s : Nat) (x : V) (hx : e1 s = some x) {j : Nat} {p : List Nat} (hy : ∀ y, e s = some y → y.hits j p = false) : x.hits j p = false := by
  rcases takeL_some vs e h s x hx with h1 | ⟨⟨t, rfl⟩, _⟩
  · exact hy x h1
  · rfl

theorem own_addA {e : Env} {vl : Vl} {w : World} {q : Nat} {v : Value} {t : T} (hn : t.noOwn = true) : ∀ b, Own (e.add q (.val t)) (vadd vl q v) w b → Own e vl w b := by
  rintro b ⟨s, u, h1, h2⟩
  by_cases hs : s = q
  · subst hs
    simp only [add_self, Option.some.injEq, V.val.injEq] at h1
    subst h1
    rw [vadd_self, cnt_noOwn _ _ _ _ hn] at h2
    omega
  · rw [add_ne hs] at h1; rw [vadd_ne hs] at h2
    exact ⟨s, u, h1, h2⟩

theorem own_moveAt {cx : Cx} {e : Env} {vl : Vl} {w : World} (h : R cx e vl w) {r d : Nat} {p : List Nat} {u : T} (hp : e.tree r p = some u) (hd : e d = none) :
    ∀ b, Own ((e.clear r p).add d (.val u)) (vadd vl d (nodeV w (vl r) p)) w b → Own e vl w b := by
  obtain ⟨t, hr, hpt⟩ := tree_some hp
  clear hp
  have hrep := srep_val h hr
  have hf := focus p t (vl r) hrep hpt
  rintro b ⟨s, y, h1, h2⟩
  by_cases hs : s = d
  · subst hs
    simp only [add_self, Option.some.injEq, V.val.injEq] at h1
    subst h1
    rw [vadd_self] at h2
    exact ⟨r, t, hr, Nat.le_trans h2 (hf.2 b)⟩
  · rw [add_ne hs] at h1; rw [vadd_ne hs] at h2
    cases p with
    | nil =>
      rcases clear_some h1 with h3 | ⟨_, y', h3⟩
      · exact ⟨s, y, h3, h2⟩
      · simp only [Env.clear, Env.del, Env.kill] at h1
        split at h1
        · cases h1
        · rw [h3] at h1
          simp only at h1
          split at h1
          · cases h1
          · cases h1; exact ⟨s, y, h3, h2⟩
    | cons i p =>
      rcases setTree_some hr h1 with ⟨rfl, h3⟩ | ⟨h3, h4, h5⟩
      · cases h3
        have hrpl := replace (w' := w) (touch := fun _ => False) (fun _ _ _ => rfl) (fun _ _ _ _ h => h) (x := .gone) (i :: p) t (vl s) hrep hpt (fun b hb => hb.elim) trivial
        have := hrpl.2.1 b
        have := hf.2 b
        refine ⟨s, t, hr, ?_⟩
        have e0 : cnt w (nodeV w (vl s) (i :: p)) b T.gone = 0 := rfl
        omega
      · exact ⟨s, y, h4, h2⟩

theorem own_pair {e e' : Env} {vl : Vl} {w : World} {q1 q2 d : Nat} {t : T} {ts : List T} {vs : Array Value} (h1 : e q1 = some (.val t)) (h2 : e q2 = some (.val (.tup ts)))
    (hv : vl q2 = .tuple vs) (hsub : ∀ s x, s ≠ d → e' s = some x → e s = some x) (he : e' d = some (.val (.tup (t :: ts)))) : ∀ b, Own e' (vadd vl d (.tuple (#[vl q1] ++ vs))) w b → Own e vl w b := by
  have hg : ∀ j, kid w (.tuple (#[vl q1] ++ vs)) (j + 1) = kid w (.tuple vs) j := fun j => by
    simp only [kid, Array.getD_eq_getD_getElem?]
    rw [Array.getElem?_append_right (by simp)]
    simp
  have hg0 : kid w (.tuple (#[vl q1] ++ vs)) 0 = vl q1 := by
    simp only [kid, Array.getD_eq_getD_getElem?]
    rw [Array.getElem?_append_left (by simp)]
    simp
  rintro b ⟨s, u, h3, h4⟩
  by_cases hs : s = d
  · subst hs
    rw [he] at h3
    cases h3
    rw [vadd_self] at h4
    have hcnt : cnt w (.tuple (#[vl q1] ++ vs)) b (.tup (t :: ts)) = cnt w (vl q1) b t + cnt w (vl q2) b (.tup ts) := by
      rw [hv]
      simp only [cnt, cntL, hg0]
      rw [cntL_shift ts 0 1]
      simp only [hg]
    rw [hcnt] at h4
    by_cases h5 : 1 ≤ cnt w (vl q1) b t
    · exact ⟨q1, t, h1, h5⟩
    · exact ⟨q2, _, h2, by omega⟩
  · rw [vadd_ne hs] at h4
    exact ⟨s, u, hsub s _ hs h3, h4⟩

mutual
theorem take_sound {cx : Cx} {w : World} {q0 : Nat} : ∀ (x : V) (v : Value) (q : Nat) (e : Env) (vl : Vl) {t : T} {e1 : Env}, R cx e vl w → Clr e q → q0 ≤ q → arw cx.fm (okR cx (Own e vl w)) q0 vl w v x → e.take x = some (t, e1) →
    ∃ vl', (∀ s, s < q → vl' s = vl s) ∧ vl' q = v ∧ R cx (e1.add q (.val t)) vl' w ∧ Clr e1 q ∧ ∀ b, Own (e1.add q (.val t)) vl' w b → Own e vl w b
  | .val u, v, q, e, vl, t, e1, h, hc, _, hx, ht => by
    simp only [Env.take] at ht
    split at ht
    · cases ht
      refine ⟨vadd vl q v, fun s hs => vadd_ne (by omega), vadd_self .., h.addA (hc q (Nat.le_refl _)).1 hx, hc, own_addA hx.1⟩
    · cases ht
  | .sref r p sz off len, v, q, e, vl, t, e1, h, hc, hq, hx, ht => by
    simp only [arw] at hx
    simp only [Env.take] at ht
    split at ht
    · rename_i sz' ts htr
      split at ht
      · rename_i hcond
        obtain ⟨rfl, h2, h3⟩ := hcond
        cases ht
        have hm := h.moveAt htr (hc q (Nat.le_refl _)).1
        have hcl : Clr (e.clear r p) q := clr_clear hc (by omega)
        have := hm.trim (v := v) hcl h3 h2 (by rw [vadd_self]; exact hx.2)
        exact ⟨_, fun s hs => by rw [vadd_ne (by omega), vadd_ne (by omega)], vadd_self .., this.1, hcl, fun b hb => own_moveAt h htr (hc q (Nat.le_refl _)).1 b (this.2 b hb)⟩
      · cases ht
    · cases ht
  | .pref r p off, v, q, e, vl, t, e1, h, hc, hq, hx, ht => by
    simp only [arw] at hx
    simp only [Env.take] at ht
    split at ht
    · rename_i ts htr
      split at ht
      · rename_i hcond
        subst hcond
        cases ht
        have hm := h.moveAt htr (hc q (Nat.le_refl _)).1
        have hcl : Clr (e.clear r p) q := clr_clear hc (by omega)
        have hr := srep_val hm (add_self ..)
        rw [vadd_self, rep_mem] at hr
        refine ⟨_, fun s hs => vadd_ne (by omega), ?_, hm, hcl, own_moveAt h htr (hc q (Nat.le_refl _)).1⟩
        rw [vadd_self, hx.2, Nat.add_zero]
        exact hr.1.1
      · cases ht
    · cases ht
  | .vagg vs, v, q, e, vl, t, e1, h, hc, hq, hx, ht => by
    simp only [arw] at hx
    simp only [Env.take] at ht
    obtain ⟨⟨cs, rfl, hsz⟩, hx⟩ := hx
    cases htl : e.takeL vs with
    | none => rw [htl] at ht; cases ht
    | some y =>
      rw [htl] at ht
      cases ht
      obtain ⟨vl', h1, ⟨us, h2, h3, h4⟩, h5, h6, h7, h8⟩ := takeL_sound vs _ 0 q e vl h hc hq hx htl
      have hus : us = cs := arr_eq (by rw [h3, hsz]) fun j hj => by
        have := h4 j (by omega)
        rw [this]
        simp [kid]
      subst hus
      have hr := srep_val h5 (add_self ..)
      rw [h2] at hr
      simp only [Mch.rep] at hr
      refine ⟨vadd vl' q (.agg us), fun s hs => by rw [vadd_ne (by omega)]; exact h1 s hs, vadd_self .., h5.refit h6 ?_ fun b => ?_, h6, fun b hb => h8 b (own_refit (fun b => ?_) b hb)⟩
      · simp only [Mch.rep]
        exact ⟨⟨us, rfl, by rw [hsz, h7]⟩, hr.2⟩
      · rw [h2]
        simp only [cnt]
        exact Nat.le_refl _
      · rw [h2]
        simp only [cnt]
        exact Nat.le_refl _
  | .vtup vs, v, q, e, vl, t, e1, h, hc, hq, hx, ht => by
    simp only [arw] at hx
    simp only [Env.take] at ht
    obtain ⟨⟨cs, rfl, hsz⟩, hx⟩ := hx
    cases htl : e.takeL vs with
    | none => rw [htl] at ht; cases ht
    | some y =>
      rw [htl] at ht
      cases ht
      obtain ⟨vl', h1, ⟨us, h2, h3, h4⟩, h5, h6, h7, h8⟩ := takeL_sound vs _ 0 q e vl h hc hq hx htl
      have hus : us = cs := arr_eq (by rw [h3, hsz]) fun j hj => by
        have := h4 j (by omega)
        rw [this]
        simp [kid]
      subst hus
      exact ⟨vl', h1, h2, h5, h6, h8⟩
theorem takeL_sound {cx : Cx} {w : World} {q0 : Nat} : ∀ (vs : List V) (g : Nat → Value) (i : Nat) (q : Nat) (e : Env) (vl : Vl) {ts : List T} {e1 : Env}, R cx e vl w → Clr e q → q0 ≤ q → arwL cx.fm (okR cx (Own e vl w)) q0 vl w g i vs →
    e.takeL vs = some (ts, e1) →
    ∃ vl', (∀ s, s < q → vl' s = vl s) ∧ (∃ us : Array Value, vl' q = .tuple us ∧ us.size = vs.length ∧ ∀ j, j < vs.length → us.getD j undef = g (i + j)) ∧ R cx (e1.add q (.val (.tup ts))) vl' w ∧ Clr e1 q ∧ vs.length = ts.length ∧ ∀ b, Own (e1.add q (.val (.tup ts))) vl' w b → Own e vl w b
  | [], g, i, q, e, vl, ts, e1, h, hc, _, _, ht => by
    simp only [Env.takeL] at ht
    cases ht
    exact ⟨vadd vl q (.tuple #[]), fun s hs => vadd_ne (by omega), ⟨#[], vadd_self .., rfl, fun j hj => by simp at hj⟩,
      h.addA (hc q (Nat.le_refl _)).1 ⟨rfl, ⟨⟨#[], rfl, rfl⟩, trivial⟩⟩, hc, rfl, own_addA rfl⟩
  | x :: vs, g, i, q, e, vl, ts, e1, h, hc, hq, hx, ht => by
    simp only [arwL] at hx
    simp only [Env.takeL] at ht
    cases hta : e.take x with
    | none => rw [hta] at ht; cases ht
    | some y =>
      obtain ⟨t, e2⟩ := y
      rw [hta] at ht
      simp only [Option.bind_some] at ht
      cases htl : e2.takeL vs with
      | none => rw [htl] at ht; cases ht
      | some z =>
        obtain ⟨ts', e3⟩ := z
        rw [htl] at ht
        cases ht
        obtain ⟨vl1, h1, h2, h3, h4, hown⟩ := take_sound x _ q e vl h hc hq hx.1 hta
        have hx2 := arwL_gen (vl' := vl1) (fun s hs => h1 s (by omega)) (fun v t _ ht => rep_less hown ht) vs g (i + 1) hx.2
        have htl2 := takeL_add (q := q) (t := t) hq vs g (i + 1) e2 hx2
        rw [htl] at htl2
        obtain ⟨vl2, k1, ⟨us, k2, k3, k4⟩, k5, k6, k7, k8⟩ := takeL_sound vs g (i + 1) (q + 1) (e2.add q (.val t)) vl1 h3 (h4.add t) (by omega) hx2 htl2
        have hq2 : vl2 q = g i := (k1 q (by omega)).trans h2
        have hclr : Clr e3 q := fun j hj => by
          by_cases hjq : j = q
          · subst hjq
            refine ⟨?_, ?_⟩
            · exact (takeL_none vs e2 htl j (h4 j (Nat.le_refl _)).1)
            · intro s x hs
              exact takeL_alias vs e2 htl s x hs fun y hy => (h4 j (Nat.le_refl _)).2 s y hy
          · have := k6 j (by omega)
            refine ⟨by have := this.1; rwa [add_ne hjq] at this, fun s x hs => ?_⟩
            by_cases hsq : s = q
            · subst hsq
              have := takeL_none vs e2 htl s (h4 s (Nat.le_refl _)).1
              rw [this] at hs; cases hs
            · exact this.2 s x (by rw [add_ne hsq]; exact hs)
        have hp := k5.pair (q1 := q) (q2 := q + 1) (d := q) (t := t) (ts := ts') (vs := us) (e' := e3.add q (.val (.tup (t :: ts')))) (by rw [add_ne (by omega)]; exact add_self ..) (add_self ..) (by omega) k2
          (fun s x hs hx => by
            rw [add_ne hs] at hx
            have hsq1 : s ≠ q + 1 := fun e' => by
              subst e'
              rw [(hclr (q + 1) (by omega)).1] at hx; cases hx
            refine ⟨hs, hsq1, by rw [add_ne hsq1, add_ne hs]; exact hx, fun r hr => ?_⟩
            have hr1 : r ≠ q := fun e' => by subst e'; rw [(hclr r (Nat.le_refl _)).2 s x hx] at hr; cases hr
            have hr2 : r ≠ q + 1 := fun e' => by subst e'; rw [(hclr (q + 1) (by omega)).2 s x hx] at hr; cases hr
            exact ⟨hr1, by rw [add_ne hr1, add_ne hr2, add_ne hr1]⟩)
          (add_self ..)
        refine ⟨_, fun s hs => ?_, ⟨#[vl2 q] ++ us, vadd_self .., by simp [k3]; omega, fun j hj => ?_⟩, hp, hclr, by simp [k7], fun b hb => hown b (k8 b (own_pair (q1 := q) (q2 := q + 1) (by rw [add_ne (by omega)]; exact add_self ..) (add_self ..) k2 (fun s x hs hx => by
          rw [add_ne hs] at hx
          have hsq1 : s ≠ q + 1 := fun e' => by
            subst e'
            have h9 := (hclr (q + 1) (by omega)).1
            simp only at hx
            rw [h9] at hx; cases hx
          rw [add_ne hsq1, add_ne hs]; exact hx) (add_self ..) b hb))⟩
        · rw [vadd_ne (by omega), k1 s (by omega)]; exact h1 s hs
        · cases j with
          | zero =>
            rw [Array.getD_eq_getD_getElem?, Array.getElem?_append_left (by simp)]
            simp [hq2]
          | succ j =>
            rw [Array.getD_eq_getD_getElem?, Array.getElem?_append_right (by simp)]
            have := k4 j (by simpa using hj)
            rw [Array.getD_eq_getD_getElem?] at this
            simp only [List.size_toArray, List.length_cons, List.length_nil, Nat.zero_add, Nat.add_sub_cancel]
            rw [this]
            congr 1
            omega
end

end Go.Mch
