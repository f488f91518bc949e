/- What is read out of a frame and what is taken out of it, in the heap. -/
import Derived.Test.YtkdoegjnnfmpaaaYbD
namespace Go.Mch

mutual
/-- A value that names places of slots below q: what it is in the heap (whatever the frame holds there). -/
def arw (fm : Nat → Nat) (ok : K → Nat → Prop) (q : Nat) (vl : Vl) (w : World) (v : Value) : V → Prop
  | .val t => t.noOwn = true ∧ rep fm ok w v t
  | .sref r p sz off len => r < q ∧ wnd (nodeV w (vl r) p) v sz off len
  | .pref r p off => r < q ∧ v = .pointer (some ⟨blk (nodeV w (vl r) p), ofs (nodeV w (vl r) p) + off, none⟩)
  | .vagg vs => (∃ cs, v = .agg cs ∧ cs.size = vs.length) ∧ arwL fm ok q vl w (kid w v) 0 vs
  | .vtup vs => (∃ cs, v = .tuple cs ∧ cs.size = vs.length) ∧ arwL fm ok q vl w (kid w v) 0 vs
def arwL (fm : Nat → Nat) (ok : K → Nat → Prop) (q : Nat) (vl : Vl) (w : World) (g : Nat → Value) (i : Nat) : List V → Prop
  | [] => True
  | v :: vs => arw fm ok q vl w (g i) v ∧ arwL fm ok q vl w g (i + 1) vs
end

mutual
theorem arw_of {fm : Nat → Nat} {ok : K → Nat → Prop} {e : Env} {vl : Vl} {w : World} {q : Nat} (hd : ∀ j, q ≤ j → e j = none) : ∀ (x : V) (v : Value), arep fm ok e vl w v x → arw fm ok q vl w v x
  | .val t, v, h => h
  | .sref r p sz off len, v, h => by
    simp only [arep, arw] at h ⊢
    obtain ⟨_, t, ts, a, _, _, d⟩ := h
    refine ⟨?_, d⟩
    rcases Nat.lt_or_ge r q with h1 | h1
    · exact h1
    · rw [hd r h1] at a; cases a
  | .pref r p off, v, h => by
    simp only [arep, arw] at h ⊢
    obtain ⟨t, s, ts, a, _, _, d⟩ := h
    refine ⟨?_, d⟩
    rcases Nat.lt_or_ge r q with h1 | h1
    · exact h1
    · rw [hd r h1] at a; cases a
  | .vagg vs, v, h => by
    simp only [arep, arw] at h ⊢
    exact ⟨h.1, arwL_of hd vs _ 0 h.2⟩
  | .vtup vs, v, h => by
    simp only [arep, arw] at h ⊢
    exact ⟨h.1, arwL_of hd vs _ 0 h.2⟩
theorem arwL_of {fm : Nat → Nat} {ok : K → Nat → Prop} {e : Env} {vl : Vl} {w : World} {q : Nat} (hd : ∀ j, q ≤ j → e j = none) : ∀ (vs : List V) (g : Nat → Value) (i : Nat), arepL fm ok e vl w g i vs → arwL fm ok q vl w g i vs
  | [], _, _, _ => trivial
  | x :: vs, g, i, h => by
    simp only [arepL, arwL] at h ⊢
    exact ⟨arw_of hd x _ h.1, arwL_of hd vs g (i + 1) h.2⟩
end

mutual
theorem arw_gen {fm : Nat → Nat} {ok ok' : K → Nat → Prop} {vl vl' : Vl} {w : World} {q : Nat} (hv : ∀ s, s < q → vl' s = vl s) (h1 : ∀ v t, t.noOwn = true → rep fm ok w v t → rep fm ok' w v t) :
    ∀ (x : V) (v : Value), arw fm ok q vl w v x → arw fm ok' q vl' w v x
  | .val t, v, h => ⟨h.1, h1 v t h.1 h.2⟩
  | .sref r p sz off len, v, h => by simp only [arw] at h ⊢; rw [hv r h.1]; exact h
  | .pref r p off, v, h => by simp only [arw] at h ⊢; rw [hv r h.1]; exact h
  | .vagg vs, v, h => by simp only [arw] at h ⊢; exact ⟨h.1, arwL_gen hv h1 vs _ 0 h.2⟩
  | .vtup vs, v, h => by simp only [arw] at h ⊢; exact ⟨h.1, arwL_gen hv h1 vs _ 0 h.2⟩
theorem arwL_gen {fm : Nat → Nat} {ok ok' : K → Nat → Prop} {vl vl' : Vl} {w : World} {q : Nat} (hv : ∀ s, s < q → vl' s = vl s) (h1 : ∀ v t, t.noOwn = true → rep fm ok w v t → rep fm ok' w v t) :
    ∀ (vs : List V) (g : Nat → Value) (i : Nat), arwL fm ok q vl w g i vs → arwL fm ok' q vl' w g i vs
  | [], _, _, _ => trivial
  | x :: vs, g, i, h => by simp only [arwL] at h ⊢; exact ⟨arw_gen hv h1 x _ h.1, arwL_gen hv h1 vs g (i + 1) h.2⟩
end

/-! ### Peeking -/

mutual
theorem peek_arep {fm : Nat → Nat} {ok : K → Nat → Prop} {e : Env} {vl : Vl} {w : World} {r : Nat} {t0 : T} (hr : e r = some (.val t0)) :
    ∀ (t : T) (p : List Nat), t0.at p = some t → rep fm ok w (nodeV w (vl r) p) t → arep fm ok e vl w (nodeV w (vl r) p) (t.peek r p)
  | .sc x, p, _, h => ⟨rfl, h⟩
  | .gone, p, _, h => ⟨rfl, h⟩
  | .nul, p, _, h => ⟨rfl, h⟩
  | .fn f caps, p, _, h => by
    refine ⟨?_, h⟩
    simp only [rep] at h
    simpa [T.noOwn] using h.2.1
  | .agg ts, p, hp, h => by
    simp only [T.peek, arep]
    simp only [rep] at h
    obtain ⟨⟨cs, h1, h2⟩, h3⟩ := h
    refine ⟨⟨cs, h1, by rw [h2, peekL_length]⟩, ?_⟩
    exact peekL_arep hr ts p (.agg ts) hp 0 (fun j t hj => by simpa [T.kids] using hj) h3
  | .tup ts, p, hp, h => by
    simp only [T.peek, arep]
    simp only [rep] at h
    obtain ⟨⟨cs, h1, h2⟩, h3⟩ := h
    refine ⟨⟨cs, h1, by rw [h2, peekL_length]⟩, ?_⟩
    exact peekL_arep hr ts p (.tup ts) hp 0 (fun j t hj => by simpa [T.kids] using hj) h3
  | .mem k s ts, p, hp, h => by
    cases k
    · rw [rep_mem] at h
      obtain ⟨h1, _, _, _, _⟩ := h
      cases s with
      | none =>
        simp only [T.peek, arep]
        exact ⟨t0, none, ts, hr, hp, Nat.zero_le _, by rw [Nat.add_zero]; exact h1.1⟩
      | some sz =>
        simp only [T.peek, arep]
        obtain ⟨⟨len, h2, h3, h4, h5⟩, _⟩ := h1
        have h6 : ts.length / sz = len := by rw [h3]; exact Nat.mul_div_cancel _ h4
        refine ⟨h4, t0, ts, hr, hp, ?_, ?_⟩
        · rw [h6, Nat.zero_add, h3]; exact Nat.le_refl _
        · rw [h6]
          exact ⟨_, by rw [Nat.sub_zero]; exact h2, by omega, by simp, fun _ => by simp⟩
    · refine ⟨?_, h⟩
      rw [rep_mem] at h
      simpa [T.noOwn] using h.2.2.2.1 (by simp)
    · refine ⟨?_, h⟩
      rw [rep_mem] at h
      simpa [T.noOwn] using h.2.2.2.1 (by simp)
theorem peekL_arep {fm : Nat → Nat} {ok : K → Nat → Prop} {e : Env} {vl : Vl} {w : World} {r : Nat} {t0 : T} (hr : e r = some (.val t0)) :
    ∀ (ts : List T) (p : List Nat) (t : T), t0.at p = some t → ∀ i, (∀ j u, ts[j]? = some u → t.kids[i + j]? = some u) → repL fm ok w (kid w (nodeV w (vl r) p)) i ts →
      arepL fm ok e vl w (kid w (nodeV w (vl r) p)) i (T.peekL r p i ts)
  | [], _, _, _, _, _, _ => trivial
  | u :: ts, p, t, hp, i, hk, h => by
    simp only [T.peekL, arepL, repL] at h ⊢
    have hi := hk 0 u (by simp)
    rw [Nat.add_zero] at hi
    have hat : t0.at (p ++ [i]) = some u := by
      rw [R.replaceAt.at_append p [i] t0 hp]
      simp only [T.at, hi, Option.bind_some]
    have hn : nodeV w (vl r) (p ++ [i]) = kid w (nodeV w (vl r) p) i := by rw [R.replaceAt.nodeV_append]; rfl
    refine ⟨?_, peekL_arep hr ts p t hp (i + 1) (fun j u' hj => ?_) h.2⟩
    · rw [← hn]
      exact peek_arep hr u (p ++ [i]) hat (by rw [hn]; exact h.1)
    · rw [show i + 1 + j = i + (j + 1) from by omega]
      exact hk (j + 1) u' (by simpa using hj)
theorem peekL_length {r : Nat} {p : List Nat} : ∀ (ts : List T) {i : Nat}, (T.peekL r p i ts).length = ts.length
  | [], _ => rfl
  | _ :: ts, i => by simp [T.peekL, peekL_length ts]
end

theorem R.peek {cx : Cx} {e : Env} {vl : Vl} {w : World} (h : R cx e vl w) {s : Nat} {x : V} (hs : e.peek s = some x) : arep cx.fm (okR cx (Own e vl w)) e vl w (vl s) x := by
  unfold Env.peek at hs
  split at hs
  · rename_i t ht
    cases hs
    exact peek_arep (vl := vl) ht t [] rfl (srep_val h ht)
  · rename_i hne
    rcases h.rep s x hs with ⟨t, rfl, h1⟩ | h1
    · exact (hne t hs).elim
    · exact h1

/-! ### Floats: trees in slots that the function has not -/

/-- From q on the slots are empty, and nobody names them. -/
def Clr (e : Env) (q : Nat) : Prop := ∀ j, q ≤ j → e j = none ∧ ∀ s x, e s = some x → x.hits j [] = false

theorem R.clr {cx : Cx} {e : Env} {vl : Vl} {w : World} (h : R cx e vl w) {q : Nat} (hd : ∀ j, q ≤ j → e j = none) : Clr e q := fun j hj =>
  ⟨hd j hj, fun s x hx => by
    cases hh : x.hits j [] with
    | false => rfl
    | true =>
      obtain ⟨t, ht⟩ := h.root hx hh
      rw [hd j hj] at ht; cases ht⟩

theorem Clr.mono {e : Env} {q q' : Nat} (h : Clr e q) (hq : q ≤ q') : Clr e q' := fun j hj => h j (Nat.le_trans hq hj)

theorem Clr.add {e : Env} {q : Nat} (h : Clr e q) (t : T) : Clr (e.add q (.val t)) (q + 1) := fun j hj => by
  refine ⟨by rw [add_ne (by omega)]; exact (h j (by omega)).1, fun s x hx => ?_⟩
  by_cases hs : s = q
  · subst hs; simp only [add_self, Option.some.injEq] at hx; subst hx; rfl
  · rw [add_ne hs] at hx; exact (h j (by omega)).2 s x hx

/-- A frame's aliases that are left are the elder frame's. -/
theorem clr_clear {e : Env} {r : Nat} {p : List Nat} {q : Nat} (h : Clr e q) (hr : r < q) : Clr (e.clear r p) q := fun j hj => by
  have hj' := h j hj
  cases p with
  | nil =>
    refine ⟨by simp only [Env.clear, Env.del, Env.kill]; split; rfl; rw [hj'.1], fun s x hx => ?_⟩
    simp only [Env.clear, Env.del, Env.kill] at hx
    split at hx
    · cases hx
    · cases hes : e s with
      | none => rw [hes] at hx; cases hx
      | some y =>
        rw [hes] at hx
        simp only at hx
        split at hx
        · cases hx
        · cases hx; exact hj'.2 s _ hes
  | cons i p =>
    refine ⟨by simp only [Env.clear, Env.setTree, Env.kill]; rw [if_neg (by omega), hj'.1], fun s x hx => ?_⟩
    simp only [Env.clear, Env.setTree, Env.kill] at hx
    split at hx
    · split at hx
      · cases hx; rfl
      · cases hx
    · cases hes : e s with
      | none => rw [hes] at hx; cases hx
      | some y =>
        rw [hes] at hx
        simp only at hx
        split at hx
        · cases hx
        · cases hx; exact hj'.2 s _ hes

theorem clear_add {e : Env} {r : Nat} {p : List Nat} {q : Nat} {t : T} (hr : r ≠ q) : (e.add q (.val t)).clear r p = (e.clear r p).add q (.val t) := by
  cases p with
  | nil =>
    funext s
    simp only [Env.clear, Env.del, Env.kill, Env.add]
    by_cases h1 : s = q
    · subst h1; simp [Ne.symm hr, V.hits]
    · simp [h1]
  | cons i p =>
    funext s
    simp only [Env.clear, Env.setTree, Env.kill, Env.add]
    by_cases h1 : s = q
    · subst h1; simp [Ne.symm hr, V.hits]
    · simp [h1, hr]

theorem tree_add {e : Env} {r : Nat} {p : List Nat} {q : Nat} {x : V} (hr : r ≠ q) : (e.add q x).tree r p = e.tree r p := by
  simp [Env.tree, Env.add, hr]

mutual
theorem take_add {fm : Nat → Nat} {ok : K → Nat → Prop} {q0 : Nat} {vl : Vl} {w : World} {q : Nat} {t : T} (hq : q0 ≤ q) : ∀ (x : V) (v : Value) (e : Env), arw fm ok q0 vl w v x →
    (e.add q (.val t)).take x = (e.take x).map fun y => (y.1, y.2.add q (.val t))
  | .val u, v, e, _ => by simp only [Env.take]; split <;> rfl
  | .sref r p sz off len, v, e, h => by
    simp only [arw] at h
    have hr : r ≠ q := by omega
    simp only [Env.take, tree_add hr, clear_add hr]
    split
    · split <;> rfl
    · rfl
  | .pref r p off, v, e, h => by
    simp only [arw] at h
    have hr : r ≠ q := by omega
    simp only [Env.take, tree_add hr, clear_add hr]
    split
    · split <;> rfl
    · rfl
  | .vagg vs, v, e, h => by
    simp only [arw] at h
    simp only [Env.take, takeL_add hq vs _ 0 e h.2]
    cases e.takeL vs <;> rfl
  | .vtup vs, v, e, h => by
    simp only [arw] at h
    simp only [Env.take, takeL_add hq vs _ 0 e h.2]
    cases e.takeL vs <;> rfl
theorem takeL_add {fm : Nat → Nat} {ok : K → Nat → Prop} {q0 : Nat} {vl : Vl} {w : World} {q : Nat} {t : T} (hq : q0 ≤ q) : ∀ (vs : List V) (g : Nat → Value) (i : Nat) (e : Env), arwL fm ok q0 vl w g i vs →
    (e.add q (.val t)).takeL vs = (e.takeL vs).map fun y => (y.1, y.2.add q (.val t))
  | [], _, _, _, _ => rfl
  | x :: vs, g, i, e, h => by
    simp only [arwL] at h
    simp only [Env.takeL, take_add hq x _ e h.1]
    cases e.take x with
    | none => rfl
    | some y =>
      simp only [Option.map_some, Option.bind_some, takeL_add hq vs g (i + 1) y.2 h.2]
      cases y.2.takeL vs <;> rfl
end

/-- Two trees that lie apart, put into one row. -/
theorem R.pair {cx : Cx} {e e' : Env} {vl : Vl} {w : World} (h : R cx e vl w) {q1 q2 d : Nat} {t : T} {ts : List T} {vs : Array Value} (h1 : e q1 = some (.val t)) (h2 : e q2 = some (.val (.tup ts))) (hne : q1 ≠ q2)
    (hv : vl q2 = .tuple vs) (hsub : ∀ s x, s ≠ d → e' s = some x → s ≠ q1 ∧ s ≠ q2 ∧ e s = some x ∧ ∀ r, x.hits r [] = true → r ≠ d ∧ e' r = e r)
    (he : e' d = some (.val (.tup (t :: ts)))) : R cx e' (vadd vl d (.tuple (#[vl q1] ++ vs))) w := by
  obtain ⟨who, hw⟩ := h.who
  have hr1 := srep_val h h1
  have hr2 := srep_val h h2
  rw [hv] at hr2
  simp only [Mch.rep] at hr2
  obtain ⟨⟨vs', hv', hsz⟩, hr2⟩ := hr2
  cases hv'
  have hg : ∀ j, kid w (.tuple (#[vl q1] ++ vs)) (j + 1) = kid w (.tuple vs) j := fun j => by
    simp only [kid, Array.getD_eq_getD_getElem?]
    rw [Array.getElem?_append_right (by simp)]
    simp
  have hg0 : kid w (.tuple (#[vl q1] ++ vs)) 0 = vl q1 := by
    simp only [kid, Array.getD_eq_getD_getElem?]
    rw [Array.getElem?_append_left (by simp)]
    simp
  have hcnt : ∀ b, cnt w (.tuple (#[vl q1] ++ vs)) b (.tup (t :: ts)) = cnt w (vl q1) b t + cnt w (vl q2) b (.tup ts) := fun b => by
    rw [hv]
    simp only [cnt, cntL, hg0]
    rw [cntL_shift ts 0 1]
    simp only [hg]
  have hdis : ∀ b, cnt w (vl q1) b t = 0 ∨ cnt w (vl q2) b (.tup ts) = 0 := fun b => by
    rcases Nat.eq_zero_or_pos (cnt w (vl q1) b t) with h3 | h3
    · exact .inl h3
    · rcases Nat.eq_zero_or_pos (cnt w (vl q2) b (.tup ts)) with h4 | h4
      · exact .inr h4
      · exact (hne (((hw q1 t h1 b).2 h3).symm.trans ((hw q2 _ h2 b).2 h4))).elim
  have hown : ∀ b, Own e' (vadd vl d (.tuple (#[vl q1] ++ vs))) w b → Own e vl w b := by
    rintro b ⟨s, u, h3, h4⟩
    by_cases hs : s = d
    · subst hs
      rw [he] at h3
      cases h3
      rw [vadd_self, hcnt] at h4
      by_cases h5 : 1 ≤ cnt w (vl q1) b t
      · exact ⟨q1, t, h1, h5⟩
      · exact ⟨q2, _, h2, by omega⟩
    · rw [vadd_ne hs] at h4
      exact ⟨s, u, (hsub s _ hs h3).2.2.1, h4⟩
  refine ⟨h.keeps, ⟨fun b => if who b = q1 ∨ who b = q2 then d else who b, fun s u hu b => ?_⟩, fun s y hy => ?_⟩
  · by_cases hs : s = d
    · subst hs
      rw [he] at hu
      cases hu
      rw [vadd_self, hcnt]
      have h3 := hw q1 t h1 b
      have h4 := hw q2 _ h2 b
      refine ⟨by rcases hdis b with h5 | h5 <;> omega, fun h5 => if_pos ?_⟩
      by_cases h6 : 1 ≤ cnt w (vl q1) b t
      · exact .inl (h3.2 h6)
      · exact .inr (h4.2 (by omega))
    · rw [vadd_ne hs]
      obtain ⟨h3, h4, h5, _⟩ := hsub s _ hs hu
      refine ⟨(hw s u h5 b).1, fun h6 => ?_⟩
      have h7 := (hw s u h5 b).2 h6
      refine (if_neg ?_).trans h7
      rw [h7]
      rintro (h8 | h8)
      · exact h3 h8
      · exact h4 h8
  · by_cases hs : s = d
    · subst hs
      rw [he] at hy
      cases hy
      rw [vadd_self]
      refine .inl ⟨_, rfl, rep_less hown ?_⟩
      simp only [Mch.rep, repL, hg0]
      refine ⟨⟨_, rfl, by simp [hsz]; omega⟩, hr1, ?_⟩
      have := (repL_shift (fm := cx.fm) (ok := okR cx (Own e vl w)) (w := w) (g := kid w (.tuple (#[vl q1] ++ vs))) ts 0 1).2
      simp only [hg] at this
      exact this hr2
    · rw [vadd_ne hs]
      obtain ⟨h3, h4, h5, h6⟩ := hsub s _ hs hy
      refine srep_gen (fun t _ ht => rep_less hown ht) (fun v t _ ht => rep_less hown ht) (fun r p hh => ?_) (h.rep s y h5)
      intro u k ts' hu hp
      obtain ⟨h7, h8⟩ := h6 r (isPrefixOf_trans_nil r p y hh)
      exact ⟨u, ts', h8.trans hu, hp, rfl, by rw [vadd_ne h7]⟩

end Go.Mch
