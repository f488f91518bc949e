/- A frame of trees against a frame of the model: who owns what; moves of trees between slots; new memory; stores. -/
import Derived.Test.YtkdoegjnnfmpaaaYbB
namespace Go.Mch

structure Keeps (M : Nat → Prop) (w0 w : World) : Prop where
  os : w.os = w0.os
  tape : w.tape = w0.tape
  output : w.output = w0.output
  size : w0.heap.size ≤ w.heap.size
  block : ∀ b, b < w0.heap.size → ¬ M b → w.heap[b]? = w0.heap[b]?

theorem Keeps.refl (M : Nat → Prop) (w : World) : Keeps M w w := ⟨rfl, rfl, rfl, Nat.le_refl _, fun _ _ _ => rfl⟩

structure Cx where
  fm : Nat → Nat
  w0 : World
  A : Nat → Prop
  M : Nat → Prop
  hA : ∀ b, A b → b < w0.heap.size
  N : Nat → Prop := fun _ => False

abbrev Vl := Nat → Value

def Own (e : Env) (vl : Vl) (w : World) (b : Nat) : Prop := ∃ s t, e s = some (.val t) ∧ 1 ≤ cnt w (vl s) b t

def okR (cx : Cx) (own : Nat → Prop) (k : K) (b : Nat) : Prop :=
  ¬ cx.A b ∧ (k = .own → cx.w0.heap.size ≤ b ∨ cx.M b) ∧ (k = .fresh → cx.w0.heap.size ≤ b) ∧ (k ≠ .own → ¬ own b ∧ ¬ cx.N b)

theorem okR_mono {cx : Cx} {o o' : Nat → Prop} {k : K} {b : Nat} (h : o' b → o b) (hk : okR cx o k b) : okR cx o' k b :=
  ⟨hk.1, hk.2.1, hk.2.2.1, fun h1 => ⟨fun h2 => (hk.2.2.2 h1).1 (h h2), (hk.2.2.2 h1).2⟩⟩

/-- The slice value v is the window from off on of the slice value nv. -/
def wnd (nv v : Value) (sz off len : Nat) : Prop :=
  ∃ o', v = .slice (some ⟨blk nv, o', none⟩) len (capOf nv - off) ∧ off + len ≤ capOf nv ∧ o' ≤ ofs nv + off * sz ∧ (off < capOf nv ∨ off = 0 → o' = ofs nv + off * sz)

mutual
/-- A value that owns nothing. -/
def arep (fm : Nat → Nat) (ok : K → Nat → Prop) (e : Env) (vl : Vl) (w : World) (v : Value) : V → Prop
  | .val t => t.noOwn = true ∧ rep fm ok w v t
  | .sref r p sz off len => 0 < sz ∧ ∃ t ts, e r = some (.val t) ∧ t.at p = some (.mem .own (some sz) ts) ∧ (off + len) * sz ≤ ts.length ∧ wnd (nodeV w (vl r) p) v sz off len
  | .pref r p off => ∃ t s ts, e r = some (.val t) ∧ t.at p = some (.mem .own s ts) ∧ off ≤ ts.length ∧ v = .pointer (some ⟨blk (nodeV w (vl r) p), ofs (nodeV w (vl r) p) + off, none⟩)
  | .vagg vs => (∃ cs, v = .agg cs ∧ cs.size = vs.length) ∧ arepL fm ok e vl w (kid w v) 0 vs
  | .vtup vs => (∃ cs, v = .tuple cs ∧ cs.size = vs.length) ∧ arepL fm ok e vl w (kid w v) 0 vs
def arepL (fm : Nat → Nat) (ok : K → Nat → Prop) (e : Env) (vl : Vl) (w : World) (g : Nat → Value) (i : Nat) : List V → Prop
  | [] => True
  | v :: vs => arep fm ok e vl w (g i) v ∧ arepL fm ok e vl w g (i + 1) vs
end

def srep (fm : Nat → Nat) (ok : K → Nat → Prop) (e : Env) (vl : Vl) (w : World) (v : Value) (x : V) : Prop :=
  (∃ t, x = .val t ∧ rep fm ok w v t) ∨ arep fm ok e vl w v x

structure R (cx : Cx) (e : Env) (vl : Vl) (w : World) : Prop where
  keeps : Keeps cx.M cx.w0 w
  who : ∃ who : Nat → Nat, ∀ s t, e s = some (.val t) → ∀ b, cnt w (vl s) b t ≤ 1 ∧ (1 ≤ cnt w (vl s) b t → who b = s)
  rep : ∀ s x, e s = some x → srep cx.fm (okR cx (Own e vl w)) e vl w (vl s) x

/-- The same place is still known. -/
def Still (e e' : Env) (vl vl' : Vl) (w w' : World) (r : Nat) (p : List Nat) : Prop :=
  ∀ t s ts, e r = some (.val t) → t.at p = some (.mem .own s ts) → ∃ t' ts', e' r = some (.val t') ∧ t'.at p = some (.mem .own s ts') ∧ ts'.length = ts.length ∧ nodeV w' (vl' r) p = nodeV w (vl r) p

mutual
theorem arep_gen {fm : Nat → Nat} {ok ok' : K → Nat → Prop} {e e' : Env} {vl vl' : Vl} {w w' : World} (h1 : ∀ v t, t.noOwn = true → rep fm ok w v t → rep fm ok' w' v t) :
    ∀ (x : V) (v : Value), (∀ r p, x.hits r p = true → Still e e' vl vl' w w' r p) → arep fm ok e vl w v x → arep fm ok' e' vl' w' v x
  | .val t, v, _, h => ⟨h.1, h1 v t h.1 h.2⟩
  | .sref r p sz off len, v, h2, h => by
    simp only [arep] at h ⊢
    obtain ⟨h0, t, ts, a, b, c, d⟩ := h
    obtain ⟨t', ts', a', b', c', d'⟩ := h2 r p (by simp [V.hits]) t _ ts a b
    exact ⟨h0, t', ts', a', b', by rw [c']; exact c, by rw [d']; exact d⟩
  | .pref r p off, v, h2, h => by
    simp only [arep] at h ⊢
    obtain ⟨t, s, ts, a, b, c, d⟩ := h
    obtain ⟨t', ts', a', b', c', d'⟩ := h2 r p (by simp [V.hits]) t s ts a b
    exact ⟨t', s, ts', a', b', by rw [c']; exact c, by rw [d']; exact d⟩
  | .vagg vs, v, h2, h => by
    simp only [arep] at h ⊢
    obtain ⟨⟨cs, rfl, hs⟩, h⟩ := h
    exact ⟨⟨cs, rfl, hs⟩, arepL_gen h1 vs _ 0 (fun r p hh => h2 r p (by simpa [V.hits] using hh)) h⟩
  | .vtup vs, v, h2, h => by
    simp only [arep] at h ⊢
    obtain ⟨⟨cs, rfl, hs⟩, h⟩ := h
    exact ⟨⟨cs, rfl, hs⟩, arepL_gen h1 vs _ 0 (fun r p hh => h2 r p (by simpa [V.hits] using hh)) h⟩
theorem arepL_gen {fm : Nat → Nat} {ok ok' : K → Nat → Prop} {e e' : Env} {vl vl' : Vl} {w w' : World} (h1 : ∀ v t, t.noOwn = true → rep fm ok w v t → rep fm ok' w' v t) :
    ∀ (vs : List V) (g : Nat → Value) (i : Nat), (∀ r p, V.hitsL r p vs = true → Still e e' vl vl' w w' r p) → arepL fm ok e vl w g i vs → arepL fm ok' e' vl' w' g i vs
  | [], _, _, _, _ => trivial
  | x :: vs, g, i, h2, h => by
    simp only [arepL] at h ⊢
    exact ⟨arep_gen h1 x _ (fun r p hh => h2 r p (by simp [V.hitsL, hh])) h.1, arepL_gen h1 vs g (i + 1) (fun r p hh => h2 r p (by simp [V.hitsL, hh])) h.2⟩
end

mutual
theorem arep_root {fm : Nat → Nat} {ok : K → Nat → Prop} {e : Env} {vl : Vl} {w : World} : ∀ (x : V) (v : Value) {r : Nat} {p : List Nat}, arep fm ok e vl w v x → x.hits r p = true → ∃ t, e r = some (.val t)
  | .val t, v, r, p, _, hh => by simp [V.hits] at hh
  | .sref r' q sz off len, v, r, p, h, hh => by
    simp only [arep] at h
    simp [V.hits] at hh
    obtain ⟨_, t, _, a, _⟩ := h
    exact ⟨t, by rw [hh.1]; exact a⟩
  | .pref r' q off, v, r, p, h, hh => by
    simp only [arep] at h
    simp [V.hits] at hh
    obtain ⟨t, _, _, a, _⟩ := h
    exact ⟨t, by rw [hh.1]; exact a⟩
  | .vagg vs, v, r, p, h, hh => by
    simp only [arep] at h
    exact arepL_root vs _ 0 h.2 (by simpa [V.hits] using hh)
  | .vtup vs, v, r, p, h, hh => by
    simp only [arep] at h
    exact arepL_root vs _ 0 h.2 (by simpa [V.hits] using hh)
theorem arepL_root {fm : Nat → Nat} {ok : K → Nat → Prop} {e : Env} {vl : Vl} {w : World} : ∀ (vs : List V) (g : Nat → Value) (i : Nat) {r : Nat} {p : List Nat}, arepL fm ok e vl w g i vs → V.hitsL r p vs = true → ∃ t, e r = some (.val t)
  | [], _, _, _, _, _, hh => by simp [V.hitsL] at hh
  | x :: vs, g, i, r, p, h, hh => by
    simp only [arepL] at h
    simp only [V.hitsL, Bool.or_eq_true] at hh
    rcases hh with hh | hh
    · exact arep_root x _ h.1 hh
    · exact arepL_root vs g (i + 1) h.2 hh
end

theorem isPrefixOf_trans_nil (r : Nat) (p : List Nat) : ∀ x : V, x.hits r p = true → x.hits r [] = true := by
  intro x
  exact hits_nil x
where
  hits_nil : ∀ x : V, x.hits r p = true → x.hits r [] = true
    | .val _, h => by simp [V.hits] at h
    | .sref .., h => by simp [V.hits] at h ⊢; exact h.1
    | .pref .., h => by simp [V.hits] at h ⊢; exact h.1
    | .vagg vs, h => by simp only [V.hits] at h ⊢; exact hitsL_nil vs h
    | .vtup vs, h => by simp only [V.hits] at h ⊢; exact hitsL_nil vs h
  hitsL_nil : ∀ vs : List V, V.hitsL r p vs = true → V.hitsL r [] vs = true
    | [], h => by simp [V.hitsL] at h
    | x :: vs, h => by
      simp only [V.hitsL, Bool.or_eq_true] at h ⊢
      rcases h with h | h
      · exact .inl (hits_nil x h)
      · exact .inr (hitsL_nil vs h)

theorem R.root {cx : Cx} {e : Env} {vl : Vl} {w : World} (h : R cx e vl w) {s r : Nat} {p : List Nat} {x : V} (hs : e s = some x) (hh : x.hits r p = true) : ∃ t, e r = some (.val t) := by
  rcases h.rep s x hs with ⟨t, rfl, _⟩ | h'
  · simp [V.hits] at hh
  · exact arep_root x _ h' hh

theorem srep_gen {fm : Nat → Nat} {ok ok' : K → Nat → Prop} {e e' : Env} {vl vl' : Vl} {w w' : World} {v : Value} {x : V}
    (hv : ∀ t, x = .val t → rep fm ok w v t → rep fm ok' w' v t) (h1 : ∀ v t, t.noOwn = true → rep fm ok w v t → rep fm ok' w' v t)
    (h2 : ∀ r p, x.hits r p = true → Still e e' vl vl' w w' r p) (h : srep fm ok e vl w v x) : srep fm ok' e' vl' w' v x := by
  rcases h with ⟨t, rfl, h⟩ | h
  · exact .inl ⟨t, rfl, hv t rfl h⟩
  · exact .inr (arep_gen h1 x v h2 h)

theorem rep_less {cx : Cx} {o o' : Nat → Prop} {w : World} (h : ∀ b, o' b → o b) {v : Value} {t : T} (hr : rep cx.fm (okR cx o) w v t) : rep cx.fm (okR cx o') w v t :=
  rep_ok (fun _ b _ _ hk => okR_mono (h b) hk) t v (fun b _ _ hk => okR_mono (h b) hk) hr

/-- A part of the frame. -/
theorem R.sub {cx : Cx} {e e' : Env} {vl vl' : Vl} {w : World} (h : R cx e vl w) (hs : ∀ s x, e' s = some x → e s = some x) (hr : ∀ s x r, e' s = some x → x.hits r [] = true → e' r = e r)
    (hv : ∀ s x, e' s = some x → vl' s = vl s) : R cx e' vl' w := by
  have hown : ∀ b, Own e' vl' w b → Own e vl w b := fun b ⟨s, t, h1, h2⟩ => ⟨s, t, hs _ _ h1, by rw [← hv _ _ h1]; exact h2⟩
  refine ⟨h.keeps, ?_, fun s x hx => ?_⟩
  · obtain ⟨who, hw⟩ := h.who
    exact ⟨who, fun s t ht b => by rw [hv _ _ ht]; exact hw s t (hs _ _ ht) b⟩
  · rw [hv _ _ hx]
    refine srep_gen (fun t _ ht => rep_less hown ht) (fun v t _ ht => rep_less hown ht) (fun r p hh => ?_) (h.rep s x (hs _ _ hx))
    intro t k ts ht hp
    have hr' := hr s x r hx (isPrefixOf_trans_nil r p x hh)
    exact ⟨t, ts, hr'.trans ht, hp, rfl, by rw [hv r _ (hr'.trans ht)]⟩

def Env.add (e : Env) (d : Nat) (x : V) : Env := fun s => if s = d then some x else e s
def vadd (vl : Vl) (d : Nat) (v : Value) : Vl := fun s => if s = d then v else vl s

@[simp] theorem add_self (e : Env) (d : Nat) (x : V) : e.add d x d = some x := by simp [Env.add]
theorem add_ne {e : Env} {d s : Nat} {x : V} (h : s ≠ d) : e.add d x s = e s := by simp [Env.add, h]
@[simp] theorem vadd_self (vl : Vl) (d : Nat) (v : Value) : vadd vl d v d = v := by simp [vadd]
theorem vadd_ne {vl : Vl} {d s : Nat} {v : Value} (h : s ≠ d) : vadd vl d v s = vl s := by simp [vadd, h]

theorem R.congr {cx : Cx} {e : Env} {vl vl' : Vl} {w : World} (h : R cx e vl w) (hv : ∀ s x, e s = some x → vl' s = vl s) : R cx e vl' w :=
  h.sub (fun _ _ hx => hx) (fun _ _ _ _ _ => rfl) hv

/-- A value that owns nothing, laid into an empty slot. -/
theorem R.addA {cx : Cx} {e : Env} {vl : Vl} {w : World} (h : R cx e vl w) {d : Nat} (hd : e d = none) {v : Value} {x : V} (hx : arep cx.fm (okR cx (Own e vl w)) e vl w v x) :
    R cx (e.add d x) (vadd vl d v) w := by
  have hown : ∀ b, Own (e.add d x) (vadd vl d v) w b → Own e vl w b := by
    rintro b ⟨s, t, h1, h2⟩
    by_cases hs : s = d
    · subst hs
      simp only [add_self, Option.some.injEq] at h1
      subst h1
      simp only [vadd_self] at h2
      rw [cnt_noOwn w v b t hx.1] at h2
      omega
    · rw [add_ne hs] at h1; rw [vadd_ne hs] at h2
      exact ⟨s, t, h1, h2⟩
  have hst : ∀ r p, (∃ t, e r = some (.val t)) → Still e (e.add d x) vl (vadd vl d v) w w r p := by
    rintro r p ⟨u, hu⟩ t k ts ht hp
    have hne : r ≠ d := fun e' => by rw [e', hd] at hu; cases hu
    exact ⟨t, ts, by rw [add_ne hne]; exact ht, hp, rfl, by rw [vadd_ne hne]⟩
  refine ⟨h.keeps, ?_, fun s y hy => ?_⟩
  · obtain ⟨who, hw⟩ := h.who
    refine ⟨who, fun s t ht b => ?_⟩
    by_cases hs : s = d
    · subst hs
      simp only [add_self, Option.some.injEq] at ht
      subst ht
      simp only [vadd_self]
      rw [cnt_noOwn w v b t hx.1]
      exact ⟨by omega, fun h => by omega⟩
    · rw [add_ne hs] at ht; rw [vadd_ne hs]; exact hw s t ht b
  · by_cases hs : s = d
    · subst hs
      simp only [add_self, Option.some.injEq] at hy
      subst hy
      simp only [vadd_self]
      exact .inr (arep_gen (fun v t _ ht => rep_less hown ht) x v (fun r p hh => hst r p (arep_root x v hx hh)) hx)
    · rw [add_ne hs] at hy; rw [vadd_ne hs]
      exact srep_gen (fun t _ ht => rep_less hown ht) (fun v t _ ht => rep_less hown ht) (fun r p hh => hst r p (h.root hy hh)) (h.rep s y hy)

/-- The tree of a slot goes to an empty slot. -/
theorem R.moveRoot {cx : Cx} {e : Env} {vl : Vl} {w : World} (h : R cx e vl w) {r d : Nat} {t : T} (hr : e r = some (.val t)) (hd : e d = none) :
    R cx ((e.del r).add d (.val t)) (vadd vl d (vl r)) w := by
  have hrd : r ≠ d := fun e' => by rw [e', hd] at hr; cases hr
  have hdel : ∀ s x, e.del r s = some x → s ≠ r ∧ e s = some x ∧ x.hits r [] = false := by
    intro s x hx
    simp only [Env.del, Env.kill] at hx
    by_cases hs : s = r
    · simp [hs] at hx
    · rw [if_neg hs] at hx
      cases hes : e s with
      | none => rw [hes] at hx; cases hx
      | some y =>
        rw [hes] at hx
        simp only at hx
        split at hx
        · cases hx
        · rename_i hh
          cases hx
          exact ⟨hs, rfl, by simpa using hh⟩
  have hown : ∀ b, Own ((e.del r).add d (.val t)) (vadd vl d (vl r)) w b → Own e vl w b := by
    rintro b ⟨s, u, h1, h2⟩
    by_cases hs : s = d
    · subst hs
      simp only [add_self, Option.some.injEq, V.val.injEq] at h1
      subst h1
      simp only [vadd_self] at h2
      exact ⟨r, t, hr, h2⟩
    · rw [add_ne hs] at h1; rw [vadd_ne hs] at h2
      exact ⟨s, u, (hdel _ _ h1).2.1, h2⟩
  refine ⟨h.keeps, ?_, fun s y hy => ?_⟩
  · obtain ⟨who, hw⟩ := h.who
    refine ⟨fun b => if who b = r then d else who b, fun s u hu b => ?_⟩
    by_cases hs : s = d
    · subst hs
      simp only [add_self, Option.some.injEq, V.val.injEq] at hu
      subst hu
      simp only [vadd_self]
      exact ⟨(hw r t hr b).1, fun h1 => by rw [if_pos ((hw r t hr b).2 h1)]⟩
    · rw [add_ne hs] at hu; rw [vadd_ne hs]
      obtain ⟨h1, h2, h3⟩ := hdel _ _ hu
      refine ⟨(hw s u h2 b).1, fun h4 => ?_⟩
      have := (hw s u h2 b).2 h4
      simp only [this]
      rw [if_neg h1]
  · by_cases hs : s = d
    · subst hs
      simp only [add_self, Option.some.injEq] at hy
      subst hy
      simp only [vadd_self]
      rcases h.rep r _ hr with ⟨t', h1, h2⟩ | h2
      · cases h1
        exact .inl ⟨t, rfl, rep_less hown h2⟩
      · exact .inl ⟨t, rfl, rep_less hown h2.2⟩
    · rw [add_ne hs] at hy; rw [vadd_ne hs]
      obtain ⟨h1, h2, h3⟩ := hdel _ _ hy
      refine srep_gen (fun t _ ht => rep_less hown ht) (fun v t _ ht => rep_less hown ht) (fun r' p hh => ?_) (h.rep s y h2)
      intro u k ts hu hp
      have hne : r' ≠ r := fun e' => by
        subst e'
        rw [isPrefixOf_trans_nil r' p y hh] at h3
        cases h3
      have hne2 : r' ≠ d := fun e' => by rw [e', hd] at hu; cases hu
      refine ⟨u, ts, ?_, hp, rfl, by rw [vadd_ne hne2]⟩
      rw [add_ne hne2]
      simp [Env.del, Env.kill, hne, hu, V.hits]

theorem setTree_some {e : Env} {r : Nat} {p : List Nat} {x : T} {t : T} (hr : e r = some (.val t)) {s : Nat} {y : V} (h : e.setTree r p x s = some y) :
    (s = r ∧ y = .val (t.setAt p x)) ∨ (s ≠ r ∧ e s = some y ∧ y.hits r p = false) := by
  simp only [Env.setTree] at h
  by_cases hs : s = r
  · rw [if_pos hs, hr] at h
    simp only [Option.some.injEq] at h
    exact .inl ⟨hs, h.symm⟩
  · rw [if_neg hs] at h
    simp only [Env.kill] at h
    cases hes : e s with
    | none => rw [hes] at h; cases h
    | some z =>
      rw [hes] at h
      simp only at h
      split at h
      · cases h
      · rename_i hh
        cases h
        exact .inr ⟨hs, rfl, by simpa using hh⟩

theorem setTree_self {e : Env} {r : Nat} {p : List Nat} {x : T} {t : T} (hr : e r = some (.val t)) : e.setTree r p x r = some (.val (t.setAt p x)) := by
  simp [Env.setTree, hr]

theorem setTree_ne {e : Env} {r s : Nat} {p : List Nat} {x : T} {y : V} (hs : s ≠ r) (h : e s = some y) (hh : y.hits r p = false) : e.setTree r p x s = some y := by
  simp [Env.setTree, Env.kill, hs, h, hh]

theorem srep_val {cx : Cx} {e : Env} {vl : Vl} {w : World} (h : R cx e vl w) {s : Nat} {t : T} (hs : e s = some (.val t)) : rep cx.fm (okR cx (Own e vl w)) w (vl s) t := by
  rcases h.rep s _ hs with ⟨t', h1, h2⟩ | h2
  · cases h1; exact h2
  · exact h2.2

/-- A part of a slot's tree goes to an empty slot. -/
theorem R.movePart {cx : Cx} {e : Env} {vl : Vl} {w : World} (h : R cx e vl w) {r d i : Nat} {p : List Nat} {t u : T} (hr : e r = some (.val t)) (hd : e d = none) (hp : t.at (i :: p) = some u) :
    R cx ((e.setTree r (i :: p) .gone).add d (.val u)) (vadd vl d (nodeV w (vl r) (i :: p))) w := by
  have hrd : r ≠ d := fun e' => by rw [e', hd] at hr; cases hr
  have hrep := srep_val h hr
  have hf := focus (i :: p) t (vl r) hrep hp
  have hrpl := replace (w' := w) (touch := fun _ => False) (fun _ _ _ => rfl) (fun _ _ _ _ h => h) (x := .gone) (i :: p) t (vl r) hrep hp (fun b hb => hb.elim) trivial
  have hcnt : ∀ b, cnt w (vl r) b (t.setAt (i :: p) .gone) + cnt w (nodeV w (vl r) (i :: p)) b u = cnt w (vl r) b t := fun b => by
    have := hrpl.2.1 b
    simp only [cnt] at this ⊢
    omega
  have hown : ∀ b, Own ((e.setTree r (i :: p) .gone).add d (.val u)) (vadd vl d (nodeV w (vl r) (i :: p))) w b → Own e vl w b := by
    rintro b ⟨s, y, h1, h2⟩
    by_cases hs : s = d
    · subst hs
      simp only [add_self, Option.some.injEq, V.val.injEq] at h1
      subst h1
      simp only [vadd_self] at h2
      exact ⟨r, t, hr, by have := hcnt b; omega⟩
    · rw [add_ne hs] at h1; rw [vadd_ne hs] at h2
      rcases setTree_some hr h1 with ⟨rfl, h3⟩ | ⟨h3, h4, h5⟩
      · cases h3
        exact ⟨s, t, hr, by have := hcnt b; omega⟩
      · exact ⟨s, y, h4, h2⟩
  refine ⟨h.keeps, ?_, fun s y hy => ?_⟩
  · obtain ⟨who, hw⟩ := h.who
    refine ⟨fun b => if 1 ≤ cnt w (nodeV w (vl r) (i :: p)) b u then d else who b, fun s y hy b => ?_⟩
    have h1 := hw r t hr b
    have h2 := hcnt b
    by_cases hs : s = d
    · subst hs
      simp only [add_self, Option.some.injEq, V.val.injEq] at hy
      subst hy
      simp only [vadd_self]
      exact ⟨by omega, fun h3 => by rw [if_pos h3]⟩
    · rw [add_ne hs] at hy; rw [vadd_ne hs]
      rcases setTree_some hr hy with ⟨rfl, h3⟩ | ⟨h3, h4, h5⟩
      · cases h3
        refine ⟨by omega, fun h4 => ?_⟩
        refine (if_neg (by omega)).trans ?_
        exact h1.2 (by omega)
      · refine ⟨(hw s y h4 b).1, fun h6 => ?_⟩
        have h7 := (hw s y h4 b).2 h6
        by_cases h8 : 1 ≤ cnt w (nodeV w (vl r) (i :: p)) b u
        · have := h1.2 (by omega)
          exact (h3 (h7 ▸ this)).elim
        · exact (if_neg h8).trans h7
  · by_cases hs : s = d
    · subst hs
      simp only [add_self, Option.some.injEq] at hy
      subst hy
      simp only [vadd_self]
      exact .inl ⟨u, rfl, rep_less hown hf.1⟩
    · rw [add_ne hs] at hy; rw [vadd_ne hs]
      rcases setTree_some hr hy with ⟨rfl, h3⟩ | ⟨h3, h4, h5⟩
      · subst h3
        exact .inl ⟨_, rfl, rep_less hown hrpl.1⟩
      · refine srep_gen (fun t _ ht => rep_less hown ht) (fun v t _ ht => rep_less hown ht) (fun r' q hh => ?_) (h.rep s y h4)
        intro u' k ts hu' hq
        have hne2 : r' ≠ d := fun e' => by rw [e', hd] at hu'; cases hu'
        by_cases hrr : r' = r
        · subst hrr
          rw [hr] at hu'
          cases hu'
          have hnp : (i :: p).isPrefixOf q = false := by
            cases hpq : (i :: p).isPrefixOf q with
            | false => rfl
            | true => rw [hits_pre y hh hpq] at h5; cases h5
          obtain ⟨ts', h6, h7⟩ := at_setAt (x := .gone) (i :: p) q t hnp hq
          exact ⟨_, ts', by rw [add_ne hne2]; exact setTree_self hr, h6, h7, by rw [vadd_ne hne2]⟩
        · exact ⟨u', ts, by rw [add_ne hne2]; exact setTree_ne hrr hu' (by simp [V.hits]), hq, rfl, by rw [vadd_ne hne2]⟩
where
  pre_trans : ∀ {a b c : List Nat}, a.isPrefixOf b = true → b.isPrefixOf c = true → a.isPrefixOf c = true := by
    intro a b c h1 h2
    rw [List.isPrefixOf_iff_prefix] at *
    exact h1.trans h2
  hits_pre {r : Nat} {p q : List Nat} : ∀ x : V, x.hits r q = true → p.isPrefixOf q = true → x.hits r p = true
    | .val _, h, _ => by simp [V.hits] at h
    | .sref r' q' _ _ _, h, hp => by
      simp only [V.hits, Bool.and_eq_true] at h ⊢
      exact ⟨h.1, pre_trans hp h.2⟩
    | .pref r' q' _, h, hp => by
      simp only [V.hits, Bool.and_eq_true] at h ⊢
      exact ⟨h.1, pre_trans hp h.2⟩
    | .vagg vs, h, hp => by simp only [V.hits] at h ⊢; exact hitsL_pre vs h hp
    | .vtup vs, h, hp => by simp only [V.hits] at h ⊢; exact hitsL_pre vs h hp
  hitsL_pre {r : Nat} {p q : List Nat} : ∀ vs : List V, V.hitsL r q vs = true → p.isPrefixOf q = true → V.hitsL r p vs = true
    | [], h, _ => by simp [V.hitsL] at h
    | x :: vs, h, hp => by
      simp only [V.hitsL, Bool.or_eq_true] at h ⊢
      rcases h with h | h
      · exact .inl (hits_pre x h hp)
      · exact .inr (hitsL_pre vs h hp)

end Go.Mch
