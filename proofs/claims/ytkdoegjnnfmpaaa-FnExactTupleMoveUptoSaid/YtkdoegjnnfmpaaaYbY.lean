/- Regions that draw their order: what is not ordered commutes. -/
import Derived.Test.YtkdoegjnnfmpaaaYbX
namespace Go.Mch

mutual
theorem peek_noOwn {s d : Nat} : ∀ (t : T) (p : List Nat), t.noOwn = true → (t.peek s p).hits d [] = false
  | .sc _, _, _ => rfl
  | .gone, _, _ => rfl
  | .nul, _, _ => rfl
  | .fn _ _, _, _ => rfl
  | .agg ts, p, h => by simp only [T.noOwn] at h; simp only [T.peek, V.hits]; exact peekL_noOwn ts p 0 h
  | .tup ts, p, h => by simp only [T.noOwn] at h; simp only [T.peek, V.hits]; exact peekL_noOwn ts p 0 h
  | .mem k s' ts, p, h => by
    cases k <;> cases s' <;> simp_all [T.peek, T.noOwn]
theorem peekL_noOwn {s d : Nat} : ∀ (ts : List T) (p : List Nat) (i : Nat), T.noOwnL ts = true → V.hitsL d [] (T.peekL s p i ts) = false
  | [], _, _, _ => rfl
  | t :: ts, p, i, h => by
    simp only [T.noOwnL, Bool.and_eq_true] at h
    simp only [T.peekL, V.hitsL, peek_noOwn t _ h.1, peekL_noOwn ts _ _ h.2, Bool.or_self]
end

/-- Slots that own nothing, and that nobody names. -/
def Fresh (D : Nat → Prop) (e : Env) : Prop := ∀ d, D d → (∀ t, e d = some (.val t) → t.noOwn = true) ∧ ∀ s x, e s = some x → x.hits d [] = false

theorem Fresh.opd {D : Nat → Prop} {e : Env} (h : Fresh D e) {d : Nat} (hd : D d) {x : Opd} {v : V} (hv : e.opd x = some v) : v.hits d [] = false := by
  cases x with
  | t n =>
    simp only [Env.opd, Env.peek] at hv
    split at hv
    · rename_i t ht
      cases hv
      by_cases hn : n = d
      · subst hn; exact peek_noOwn _ _ ((h n hd).1 _ ht)
      · exact peek_hits hn _ _
    · exact (h d hd).2 n v hv
  | c v => simp only [Env.opd, Option.some.injEq] at hv; subst hv; rfl
  | f id => simp only [Env.opd, Option.some.injEq] at hv; subst hv; rfl

theorem Fresh.setD {D : Nat → Prop} {e : Env} (h : Fresh D e) {d : Option Nat} (hd : ∀ x, d = some x → ¬ D x) {v : V} (hv : ∀ d, D d → v.hits d [] = false) : Fresh D (e.setD d v) := by
  cases d with
  | none => exact h
  | some x =>
    intro d' hd'
    have hne : d' ≠ x := fun e' => hd x rfl (e' ▸ hd')
    obtain ⟨h1, h2⟩ := h d' hd'
    refine ⟨fun t ht => ?_, fun s y hy => ?_⟩
    · simp only [Env.setD, Env.put, if_neg hne, Env.kill] at ht
      cases hes : e d' with
      | none => rw [hes] at ht; cases ht
      | some z =>
        rw [hes] at ht
        simp only at ht
        split at ht
        · cases ht
        · cases ht; exact h1 t hes
    simp only [Env.setD, Env.put] at hy
    split at hy
    · split at hy
      · cases hy
      · cases hy; exact hv d' hd'
    · simp only [Env.kill] at hy
      cases hes : e s with
      | none => rw [hes] at hy; cases hy
      | some z =>
        rw [hes] at hy
        simp only at hy
        split at hy
        · cases hy
        · cases hy; exact h2 s _ hes

theorem Fresh.of_some {D : Nat → Prop} {e e1 : Env} (h : Fresh D e) (h1 : ∀ s x, e1 s = some x → e s = some x ∨ ((∃ t, x = .val t) ∧ ∃ t, e s = some (.val t) ∧ t.noOwn = false)) : Fresh D e1 := by
  intro d hd
  obtain ⟨g1, g2⟩ := h d hd
  refine ⟨fun t ht => ?_, fun s x hx => ?_⟩
  · rcases h1 d _ ht with h2 | ⟨_, t', h2, h3⟩
    · exact g1 t h2
    · rw [g1 t' h2] at h3; cases h3
  · rcases h1 s x hx with h2 | ⟨⟨t, rfl⟩, _⟩
    · exact g2 s x h2
    · rfl

theorem fillV_hits {d : Nat} : ∀ (ps : List (Nat × Nat × V)) (vs out : List V), fillV vs ps = some out → V.hitsL d [] vs = false → (∀ p, p ∈ ps → p.2.2.hits d [] = false) → V.hitsL d [] out = false
  | [], vs, out, h, h1, _ => by simp only [fillV, Option.some.injEq] at h; subst h; exact h1
  | (i, n, x) :: ps, vs, out, h, h1, h2 => by
    have hL : ∀ vs : List V, V.hitsL d [] vs = false ↔ ∀ v, v ∈ vs → v.hits d [] = false := by
      intro vs
      induction vs with
      | nil => simp [V.hitsL]
      | cons v vs ih => simp [V.hitsL, ih]
    have hx := h2 (i, n, x) (by simp)
    simp only at hx
    have hseg : ∀ us : List V, V.hitsL d [] us = false → V.hitsL d [] (vs.take i ++ us ++ vs.drop (i + n)) = false := by
      intro us hus
      rw [hL] at h1 hus ⊢
      intro v hv
      simp only [List.mem_append] at hv
      rcases hv with (hv | hv) | hv
      · exact h1 v (List.mem_of_mem_take hv)
      · exact hus v hv
      · exact h1 v (List.mem_of_mem_drop hv)
    have hrec : ∀ us : List V, V.hitsL d [] us = false → fillV (vs.take i ++ us ++ vs.drop (i + n)) ps = some out → V.hitsL d [] out = false := fun us hus hf =>
      fillV_hits ps _ out hf (hseg us hus) fun p hp => h2 p (by simp [hp])
    have one : fillV (vs.take i ++ [x] ++ vs.drop (i + n)) ps = some out → V.hitsL d [] out = false := hrec [x] (by simp [V.hitsL, hx])
    cases x with
    | vagg us =>
      simp only [fillV] at h
      split at h
      · exact hrec us (by simpa [V.hits] using hx) h
      · cases h
    | vtup us => simp [fillV] at h
    | sref r p sz off len =>
      simp only [fillV] at h
      split at h
      · exact one h
      · cases h
    | pref r p off =>
      simp only [fillV] at h
      split at h
      · exact one h
      · cases h
    | val t =>
      cases t <;> simp only [fillV] at h <;> first | (cases h; done) | (split at h <;> first | exact one h | (cases h; done))

theorem parts_mem {e : Env} : ∀ (xs : List (Nat × Nat × Opd)) {ps : List (Nat × Nat × V)}, e.parts xs = some ps → ∀ p, p ∈ ps → ∃ x, e.opd x = some p.2.2
  | [], ps, h, p, hp => by simp only [Env.parts, Option.some.injEq] at h; subst h; simp at hp
  | (i, n, x) :: xs, ps, h, p, hp => by
    simp only [Env.parts] at h
    cases hx : e.opd x with
    | none => rw [hx] at h; cases h
    | some v =>
      rw [hx] at h
      simp only [Option.bind_some, Option.map_eq_some_iff] at h
      obtain ⟨ps', h1, rfl⟩ := h
      rcases List.mem_cons.1 hp with rfl | hp
      · exact ⟨x, hx⟩
      · exact parts_mem xs h1 p hp

theorem hitsL_mem {d : Nat} : ∀ {vs : List V} {v : V}, V.hitsL d [] vs = false → v ∈ vs → v.hits d [] = false
  | u :: vs, v, h, hv => by
    simp only [V.hitsL, Bool.or_eq_false_iff] at h
    rcases List.mem_cons.1 hv with rfl | hv
    · exact h.1
    · exact hitsL_mem h.2 hv

theorem hitsL_of {d : Nat} : ∀ {vs : List V}, (∀ v, v ∈ vs → v.hits d [] = false) → V.hitsL d [] vs = false
  | [], _ => rfl
  | v :: vs, h => by simp only [V.hitsL, h v (by simp), hitsL_of (vs := vs) fun v hv => h v (by simp [hv]), Bool.or_self]

/-- What a simple operation makes names nothing that is fresh. -/
theorem val_hits {G : Rl} {e : Env} {D : Nat → Prop} (h : Fresh D e) {d : Nat} (hd : D d) {q : Q} {v : V} (hv : q.val G e v) : v.hits d [] = false := by
  cases q <;> simp only [Q.val] at hv <;> try exact hv.elim
  case mv => exact h.opd hd hv
  case mvw => exact h.opd hd hv.1
  case pick => obtain ⟨t, _, h2⟩ := hv; exact h.opd hd h2
  case bin =>
    obtain ⟨a, _, b, _, h3⟩ := hv
    unfold binV at h3
    split at h3
    · split at h3
      · rw [Option.map_eq_some_iff] at h3; obtain ⟨_, _, rfl⟩ := h3; rfl
      · cases h3
    · cases h3
  case beq => obtain ⟨a, _, b, _, rfl⟩ := hv; rfl
  case isnil => obtain ⟨b, _, rfl⟩ := hv; rfl
  case un =>
    obtain ⟨a, _, h3⟩ := hv
    unfold unV at h3
    split at h3
    · split at h3
      · cases h3; rfl
      · cases h3
    · split at h3
      · rw [Option.map_eq_some_iff] at h3; obtain ⟨_, _, rfl⟩ := h3; rfl
      · cases h3
    · cases h3
  case conv => obtain ⟨b, _, rfl⟩ := hv; rfl
  case len => obtain ⟨b, _, rfl⟩ := hv; rfl
  case slen => obtain ⟨b, _, rfl⟩ := hv; rfl
  case idx =>
    obtain ⟨a, h1, n, _, h3⟩ := hv
    have h4 := h.opd hd h1
    unfold idxV at h3
    split at h3
    · split at h3
      · cases h3; rfl
      · cases h3
    · split at h3
      · cases h3; exact h4
      · cases h3
    · cases h3
  case fld =>
    obtain ⟨a, h1, h3⟩ := hv
    have h4 := h.opd hd h1
    unfold Env.fld at h3
    split at h3
    · split at h3
      · cases h3; rfl
      · cases h3
    · split at h3
      · split at h3
        · cases h3; exact h4
        · cases h3
      · cases h3
    · cases h3
  case fldv =>
    obtain ⟨a, h1, h3⟩ := hv
    have h4 := h.opd hd h1
    unfold fldvV at h3
    split at h3
    · simp only [V.hits] at h4
      split at h3
      · exact hitsL_mem h4 (List.mem_of_getElem? h3)
      · split at h3
        · cases h3
          simp only [V.hits]
          exact hitsL_of fun v hv => hitsL_mem h4 (List.mem_of_mem_drop (List.mem_of_mem_take hv))
        · cases h3
    · cases h3
  case ld =>
    obtain ⟨a, h1, h3⟩ := hv
    have h4 := h.opd hd h1
    unfold Env.ld at h3
    split at h3
    · split at h3
      · rw [Option.map_eq_some_iff] at h3; obtain ⟨_, _, rfl⟩ := h3; rfl
      · split at h3
        · cases h3
          simp only [V.hits]
          exact hitsL_of fun v hv => by obtain ⟨t, _, rfl⟩ := List.mem_map.1 hv; rfl
        · cases h3
    · have hr := hits_ne h4
      split at h3
      · split at h3
        · rw [Option.map_eq_some_iff] at h3; obtain ⟨_, _, rfl⟩ := h3; exact peek_hits hr _ _
        · split at h3
          · cases h3; simp only [V.hits]; exact peekL_hits hr _ _ _
          · cases h3
      · cases h3
    · cases h3
  case nilck => obtain ⟨a, h1, rfl, _⟩ := hv; exact h.opd hd h1
  case alloc => subst hv; rfl
  case build =>
    obtain ⟨ps, h1, vs, h2, rfl⟩ := hv
    simp only [V.hits]
    refine fillV_hits ps _ vs h2 (hitsL_of fun v hv => by obtain ⟨t, _, rfl⟩ := List.mem_map.1 hv; rfl) fun p hp => ?_
    obtain ⟨x, hx⟩ := parts_mem _ h1 p hp
    exact h.opd hd hx
  case mks => obtain ⟨k, _, _, rfl⟩ := hv; rfl
  case sl =>
    obtain ⟨a, h1, l, _, hh, _, h3⟩ := hv
    have h4 := h.opd hd h1
    unfold slV at h3
    split at h3
    · simp only at h3
      split at h3
      · cases h3; rfl
      · cases h3
    · simp only at h3
      split at h3
      · cases h3; exact h4
      · cases h3
    · cases h3
  case ext =>
    obtain ⟨a, h1, h3⟩ := hv
    have h4 := h.opd hd h1
    unfold extV at h3
    split at h3
    · simp only [V.hits] at h4
      exact hitsL_mem h4 (List.mem_of_getElem? h3)
    · cases h3
  case call =>
    obtain ⟨_, _, _, _, _, _, _, _, _, _, rfl, _⟩ := hv
    rfl
  obtain ⟨a, h1, n, _, h3⟩ := hv
  split at h3
  · obtain ⟨b, _, rfl⟩ := h3; rfl
  · exact h3.elim

end Go.Mch
