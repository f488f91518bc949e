/- Regions that draw their order: every order does what the written one does. -/
import Derived.Test.YtkdoegjnnfmpaaaYbY
namespace Go.Mch

/-- e1 has what e has; where e has own memory, perhaps another tree. -/
def Less (e e1 : Env) : Prop := ∀ s x, e1 s = some x → e s = some x ∨ ((∃ t, x = .val t) ∧ ∃ t, e s = some (.val t) ∧ t.noOwn = false)

theorem Less.refl (e : Env) : Less e e := fun _ _ h => .inl h
theorem Less.trans {e e1 e2 : Env} (h1 : Less e e1) (h2 : Less e1 e2) : Less e e2 := fun s x hx => by
  rcases h2 s x hx with h | ⟨ht, t, hy, hn⟩
  · exact h1 s x h
  · rcases h1 s _ hy with h | ⟨_, t', hz, hn'⟩
    · exact .inr ⟨ht, t, h, hn⟩
    · exact .inr ⟨ht, t', hz, hn'⟩

theorem less_del (e : Env) (r : Nat) : Less e (e.del r) := fun _ _ h => .inl (del_some h).2.1

theorem noOwn_kids {t : T} (h : t.noOwn = true) : T.noOwnL t.kids = true := by
  cases t with
  | mem k s ts => cases k <;> simp_all [T.noOwn, T.kids]
  | agg ts => simpa [T.noOwn, T.kids] using h
  | tup ts => simpa [T.noOwn, T.kids] using h
  | _ => rfl

theorem at_noOwn : ∀ (p : List Nat) {t u : T}, t.noOwn = true → t.at p = some u → u.noOwn = true
  | [], t, u, h, hp => by simp only [T.at, Option.some.injEq] at hp; subst hp; exact h
  | i :: p, t, u, h, hp => by
    simp only [T.at] at hp
    cases hi : t.kids[i]? with
    | none => rw [hi] at hp; cases hp
    | some c =>
      rw [hi] at hp
      exact at_noOwn p (noOwnL_get (noOwn_kids h) hi) hp

theorem tree_own {e : Env} {r : Nat} {p : List Nat} {s : Option Nat} {ts : List T} (h : e.tree r p = some (.mem .own s ts)) : ∃ t, e r = some (.val t) ∧ t.noOwn = false := by
  obtain ⟨t, h1, h2⟩ := tree_some h
  refine ⟨t, h1, ?_⟩
  cases hn : t.noOwn with
  | false => rfl
  | true => have := at_noOwn p hn h2; simp [T.noOwn] at this

theorem less_clear {e : Env} {r : Nat} {p : List Nat} {s : Option Nat} {ts : List T} (h : e.tree r p = some (.mem .own s ts)) : Less e (e.clear r p) := by
  obtain ⟨t, h1, h2⟩ := tree_own h
  cases p with
  | nil => exact less_del e r
  | cons i p =>
    intro s' y hy
    rcases setTree_some h1 hy with ⟨rfl, rfl⟩ | ⟨_, h4, _⟩
    · exact .inr ⟨⟨_, rfl⟩, t, h1, h2⟩
    · exact .inl h4

mutual
theorem less_take : ∀ (v : V) (e : Env) {t : T} {e1 : Env}, e.take v = some (t, e1) → Less e e1
  | .val u, e, t, e1, h => by
    simp only [Env.take] at h
    split at h
    · cases h; exact Less.refl e
    · cases h
  | .sref r p sz off len, e, t, e1, h => by
    simp only [Env.take] at h
    split at h
    · rename_i htr
      split at h
      · cases h; exact less_clear htr
      · cases h
    · cases h
  | .pref r p off, e, t, e1, h => by
    simp only [Env.take] at h
    split at h
    · rename_i htr
      split at h
      · cases h; exact less_clear htr
      · cases h
    · cases h
  | .vagg vs, e, t, e1, h => by
    simp only [Env.take] at h
    cases htl : e.takeL vs with
    | none => rw [htl] at h; cases h
    | some y => rw [htl] at h; cases h; exact less_takeL vs e htl
  | .vtup vs, e, t, e1, h => by
    simp only [Env.take] at h
    cases htl : e.takeL vs with
    | none => rw [htl] at h; cases h
    | some y => rw [htl] at h; cases h; exact less_takeL vs e htl
theorem less_takeL : ∀ (vs : List V) (e : Env) {ts : List T} {e1 : Env}, e.takeL vs = some (ts, e1) → Less e e1
  | [], e, ts, e1, h => by simp only [Env.takeL] at h; cases h; exact Less.refl e
  | v :: vs, e, ts, e1, h => by
    simp only [Env.takeL] at h
    cases hta : e.take v with
    | none => rw [hta] at h; cases h
    | some y =>
      rw [hta] at h
      simp only [Option.bind_some] at h
      cases htl : y.2.takeL vs with
      | none => rw [htl] at h; cases h
      | some z => rw [htl] at h; cases h; exact (less_take v e hta).trans (less_takeL vs y.2 htl)
end

theorem less_puts {us : List T} {e : Env} {r : Nat} {p : List Nat} {off : Nat} {s : Option Nat} {ts : List T} (h : e.tree r p = some (.mem .own s ts)) (hl : off + us.length ≤ ts.length) : Less e (e.puts r p off us) := by
  obtain ⟨t, h1, h2⟩ := tree_some h
  obtain ⟨t', h1', h3⟩ := tree_own h
  rw [h1] at h1'
  cases h1'
  obtain ⟨q1, q2⟩ := puts_spec us e r p off t s ts h1 h2 hl
  intro s' y hy
  by_cases hs : s' = r
  · subst hs
    rw [q1] at hy
    cases hy
    exact .inr ⟨⟨_, rfl⟩, t, h1, h3⟩
  · exact .inl (q2 s' y hs hy).1

theorem less_freeze {e e' : Env} {k : K} {s : Nat} (hk : k ≠ .own) (h : e.freeze k s = some e') : Less e e' := fun x y hy => by
  obtain ⟨t, h1, h2, h3⟩ := freeze_some h
  by_cases hx : x = s
  · subst hx
    rw [h2] at hy
    cases hy
    cases hn : t.noOwn with
    | true => rw [frz_noOwn hk t hn]; exact .inl h1
    | false => exact .inr ⟨⟨_, rfl⟩, t, h1, hn⟩
  · exact .inl (h3 x y hx hy).1

theorem less_caps {k : K} (hk : k ≠ .own) : ∀ (xs : List Opd) (e : Env) {ts : List T} {e' : Env}, Env.caps k e xs = some (ts, e') → Less e e'
  | [], e, ts, e', h => by simp only [Env.caps] at h; cases h; exact Less.refl e
  | x :: xs, e, ts, e', h => by
    simp only [Env.caps] at h
    cases hx : e.opd x with
    | none => rw [hx] at h; cases h
    | some v =>
      rw [hx] at h
      simp only [Option.bind_some] at h
      split at h
      · split at h
        · cases hc : Env.caps k e xs with
          | none => rw [hc] at h; cases h
          | some z => rw [hc] at h; cases h; exact less_caps hk xs e hc
        · cases h
      · rename_i r
        cases hf : e.freeze k r with
        | none => rw [hf] at h; cases h
        | some e1 =>
          rw [hf] at h
          simp only [Option.bind_some] at h
          split at h
          · cases hc : Env.caps k e1 xs with
            | none => rw [hc] at h; cases h
            | some z => rw [hc] at h; cases h; exact (less_freeze hk hf).trans (less_caps hk xs e1 hc)
          · cases h
      · cases h

theorem less_base {e : Env} {sz : Nat} {x : V} {z : Option (List T) × Env} (h : e.base sz x = some z) : Less e z.2 := by
  unfold Env.base at h
  split at h
  · cases h; exact Less.refl e
  · split at h
    · rename_i ht
      split at h
      · cases h; exact less_take _ e ht
      · cases h
    · cases h
  · cases h

theorem less_src {e e1 : Env} {mv : Bool} {sz : Nat} {x : V} {us : List T} (h : e.src mv sz x = some (us, e1)) : Less e e1 := by
  rcases src_frame h with rfl | ⟨r, rfl⟩
  · exact Less.refl _
  · exact less_del e r

theorem Fresh.less {D : Nat → Prop} {e e1 : Env} (h : Fresh D e) (h1 : Less e e1) : Fresh D e1 := h.of_some h1

def Q.rOnly : Q → Bool
  | .call _ args => args.all (fun x => x.2 == .r)
  | .callm .. => false
  | .boxk _ => false
  | .settle _ => false
  | _ => true

theorem fresh_stepQ {G : Rl} {m : K} (hm : m ≠ .own) {d : Option Nat} {q : Q} {Kt : Env → Prop} {e : Env} {D : Nat → Prop} (h : Fresh D e) (hd : ∀ x, d = some x → ¬ D x) (hr : q.rOnly = true) (hs : stepQ G m d q Kt e) : stepQ G m d q (fun e' => Kt e' ∧ Fresh D e') e := by
  by_cases hq : q.simple = true
  · rw [step_val hq] at hs ⊢
    obtain ⟨v, h1, h2⟩ := hs
    exact ⟨v, h1, h2, h.setD hd fun d hd => val_hits h hd h1⟩
  · have hval : ∀ (e1 : Env) (t : T), Less e e1 → Fresh D (e1.setD d (.val t)) := fun e1 t hl => (h.less hl).setD hd fun _ _ => rfl
    cases q <;> simp only [Q.simple, not_true] at hq <;> simp only [stepQ, bindP] at hs ⊢
    case callm => simp [Q.rOnly] at hr
    case boxk => simp [Q.rOnly] at hr
    case settle => simp [Q.rOnly] at hr
    case asg =>
      obtain ⟨v, h1, hK⟩ := hs
      refine ⟨v, h1, ?_⟩
      split at hK
      · exact ⟨hK, hval e _ (Less.refl e)⟩
      · obtain ⟨y, h2, hK⟩ := hK
        exact ⟨y, h2, hK, hval _ _ (less_take _ e h2)⟩
    case st =>
      obtain ⟨a, h1, v, h2, y, h3, hK⟩ := hs
      refine ⟨a, h1, v, h2, y, h3, ?_⟩
      split at hK
      · split at hK
        · exact ⟨hK.1, hK.2, h.less ((less_take _ e h3).trans (less_puts (by assumption) hK.1.2.1))⟩
        · exact hK.elim
      · exact hK.elim
    case sts =>
      obtain ⟨a, h1, v, h2, hK⟩ := hs
      refine ⟨a, h1, v, h2, ?_⟩
      split at hK
      · rename_i off z
        split at hK
        · rename_i htr
          refine ⟨hK.1, hK.2, h.less ?_⟩
          have := less_puts (off := off) (us := [.sc z]) htr (by have := hK.1; simp only [List.length_cons, List.length_nil]; omega)
          exact this
        · exact hK.elim
      · exact hK.elim
    case box =>
      obtain ⟨v, h1, y, h2, h3, hK⟩ := hs
      exact ⟨v, h1, y, h2, h3, hK, hval _ _ (less_take _ e h2)⟩
    case bsl =>
      obtain ⟨v, h1, y, h2, h3, hK⟩ := hs
      exact ⟨v, h1, y, h2, h3, hK, hval _ _ (less_takeL _ e h2)⟩
    case app =>
      obtain ⟨a, h1, b, h2, z, h3, u, h4, h5, hK⟩ := hs
      refine ⟨a, h1, b, h2, z, h3, u, h4, h5, ?_⟩
      have hl : Less e u.2 := (less_base h3).trans (less_src h4)
      split at hK
      · exact ⟨fun hh => ⟨hK.1 hh, hval _ _ hl⟩, fun hh => ⟨hK.2 hh, hval _ _ hl⟩⟩
      · exact ⟨hK, hval _ _ hl⟩
    case fnc =>
      obtain ⟨y, h1, hK⟩ := hs
      exact ⟨y, h1, hK, hval _ _ (less_caps hm _ e h1)⟩
    case call => exact absurd hr hq
    case freeze =>
      obtain ⟨e', h1, hK⟩ := hs
      exact ⟨e', h1, hK, h.less (less_freeze hm h1)⟩

theorem fresh_stepO {G : Rl} {m : K} (hm : m ≠ .own) {o : O} {Kt : Env → Prop} {e : Env} {D : Nat → Prop} (h : Fresh D e) (hd : ∀ x, o.d = some x → ¬ D x) (hr : o.q.rOnly = true) (hs : stepO G m o Kt e) : stepO G m o (fun e' => Kt e' ∧ Fresh D e') e := by
  unfold stepO at hs ⊢
  cases ho : o.g with
  | none => rw [ho] at hs; exact fresh_stepQ hm h hd hr hs
  | some sb =>
    rw [ho] at hs
    simp only at hs ⊢
    split at hs
    · rename_i b' hes
      by_cases hb : b' = sb.2
      · rw [if_pos hb] at hs
        show (if b' = sb.2 then _ else _)
        rw [if_pos hb]; exact fresh_stepQ hm h hd hr hs
      · rw [if_neg hb] at hs
        show (if b' = sb.2 then _ else _)
        rw [if_neg hb]; exact ⟨hs, h.setD hd fun _ _ => rfl⟩
    · exact ⟨hs, h.setD hd fun _ _ => rfl⟩
    · exact hs.elim

/-! ### Simple operations change places -/

def O.val (G : Rl) (o : O) (e : Env) (v : V) : Prop :=
  match o.g with
  | none => o.q.val G e v
  | some (s, b) =>
    match e s with
    | some (.val (.sc (.bool b'))) => if b' = b then o.q.val G e v else v = undefV
    | some (.val .nul) => v = undefV
    | _ => False

theorem stepO_val {G : Rl} {m : K} {o : O} {Kt : Env → Prop} {e : Env} (hq : o.q.simple = true) : stepO G m o Kt e ↔ ∃ v, o.val G e v ∧ Kt (e.setD o.d v) := by
  unfold stepO O.val
  cases ho : o.g with
  | none => exact step_val hq
  | some sb =>
    simp only
    constructor
    · intro hs
      split at hs
      · rename_i b' hes
        simp only [hes]
        by_cases hb : b' = sb.2
        · rw [if_pos hb] at hs
          obtain ⟨v, h1, h2⟩ := (step_val hq).1 hs
          exact ⟨v, by rw [if_pos hb]; exact h1, h2⟩
        · rw [if_neg hb] at hs
          exact ⟨undefV, by rw [if_neg hb], hs⟩
      · rename_i hes
        simp only [hes]
        exact ⟨undefV, rfl, hs⟩
      · exact hs.elim
    · rintro ⟨v, h1, h2⟩
      split at h1
      · rename_i b' hes
        simp only [hes]
        by_cases hb : b' = sb.2
        · rw [if_pos hb] at h1
          rw [if_pos hb]
          exact (step_val hq).2 ⟨v, h1, h2⟩
        · rw [if_neg hb] at h1
          rw [if_neg hb]
          subst h1; exact h2
      · rename_i hes
        simp only [hes]
        subst h1; exact h2
      · exact h1.elim

def O.reads (d : Nat) (o : O) : Bool := o.q.reads d || (match o.g with | some (s, _) => s == d | none => false)

theorem oval_off {G : Rl} {e e' : Env} {d : Nat} (h : Off e e' d) {o : O} (hq : o.q.simple = true) (hr : o.reads d = false) {v : V} (hv : o.val G e v) : o.val G e' v := by
  simp only [O.reads, Bool.or_eq_false_iff] at hr
  unfold O.val at hv ⊢
  cases ho : o.g with
  | none => rw [ho] at hv; exact val_off h hq hr.1 hv
  | some sb =>
    rw [ho] at hv hr
    simp only [beq_eq_false_iff_ne, ne_eq] at hv hr ⊢
    rw [h.1 sb.1 hr.2]
    split at hv
    · split at hv
      · rename_i hb; rw [if_pos hb]; exact val_off h hq hr.1 hv
      · rename_i hb; rw [if_neg hb]; exact hv
    · exact hv
    · exact hv.elim

theorem oval_hits {G : Rl} {e : Env} {D : Nat → Prop} (h : Fresh D e) {d : Nat} (hd : D d) {o : O} {v : V} (hv : o.val G e v) : v.hits d [] = false := by
  unfold O.val at hv
  split at hv
  · exact val_hits h hd hv
  · split at hv
    · split at hv
      · exact val_hits h hd hv
      · subst hv; rfl
    · subst hv; rfl
    · exact hv.elim

theorem setD_off {D : Nat → Prop} {e : Env} (h : Fresh D e) {d : Nat} (hd : D d) (v : V) : Off e (e.setD (some d) v) d := by
  obtain ⟨h1, h2⟩ := h d hd
  refine ⟨fun s hs => ?_, fun s x _ hx => h2 s x hx⟩
  simp only [Env.setD, Env.put, if_neg hs, Env.kill]
  cases hes : e s with
  | none => rfl
  | some y => simp [h2 s y hes]

/-- A light operation goes behind a store of a scalar. -/
def commutesS (x y : O) : Bool :=
  (match x.q with | .mvw _ => true | .bin .. => true | _ => false) && (match y.q with | .sts .. => true | _ => false) && x.g.isNone && y.g.isNone && (match x.d with | some d => !y.reads d && y.d != some d | none => false)

def commutesP (x y : O) : Bool :=
  x.q.simple && y.q.simple &&
  (match x.d with | some d => !y.reads d && y.d != some d | none => true) &&
  (match y.d with | some d => !x.reads d | none => true)

def commutes (x y : O) : Bool := commutesP x y || commutesS x y

mutual
theorem rootly_hits {r i : Nat} {p : List Nat} : ∀ v : V, v.rootly = true → v.hits r (p ++ [i]) = false
  | .val _, _ => rfl
  | .sref r' q _ _ _, h => by
    simp only [V.rootly, List.isEmpty_iff] at h
    subst h
    simp only [V.hits, Bool.and_eq_false_iff]
    right
    cases p <;> rfl
  | .pref r' q _, h => by
    simp only [V.rootly, List.isEmpty_iff] at h
    subst h
    simp only [V.hits, Bool.and_eq_false_iff]
    right
    cases p <;> rfl
  | .vagg vs, h => by simp only [V.rootly] at h; simp only [V.hits]; exact rootlyL_hits vs h
  | .vtup vs, h => by simp only [V.rootly] at h; simp only [V.hits]; exact rootlyL_hits vs h
theorem rootlyL_hits {r i : Nat} {p : List Nat} : ∀ vs : List V, V.rootlyL vs = true → V.hitsL r (p ++ [i]) vs = false
  | [], _ => rfl
  | v :: vs, h => by
    simp only [V.rootlyL, Bool.and_eq_true] at h
    simp only [V.hitsL, rootly_hits v h.1, rootlyL_hits vs h.2, Bool.or_self]
end

theorem peekL_set {r : Nat} {q : List Nat} : ∀ (ts : List T) (k i : Nat) (c c' : T), ts[i]? = some c → c'.peek r (q ++ [k + i]) = c.peek r (q ++ [k + i]) → T.peekL r q k (ts.set i c') = T.peekL r q k ts
  | [], _, _, _, _, h, _ => by simp at h
  | t :: ts, k, 0, c, c', h, h2 => by
    simp only [List.getElem?_cons_zero, Option.some.injEq] at h
    subst h
    simp only [Nat.add_zero] at h2
    simp only [List.set_cons_zero, T.peekL, h2]
  | t :: ts, k, i + 1, c, c', h, h2 => by
    simp only [List.set_cons_succ, T.peekL]
    rw [peekL_set ts (k + 1) i c c' (by simpa using h) (by rwa [show k + 1 + i = k + (i + 1) from by omega])]

theorem peek_setAt {r off : Nat} {x : T} {s : Option Nat} {ts : List T} : ∀ (p : List Nat) (t : T) (q : List Nat), t.at p = some (.mem .own s ts) → (t.setAt (p ++ [off]) x).peek r q = t.peek r q
  | [], t, q, h => by
    simp only [T.at, Option.some.injEq] at h
    subst h
    cases s <;> simp [T.setAt, T.peek]
  | i :: p, t, q, h => by
    simp only [T.at] at h
    cases hi : t.kids[i]? with
    | none => rw [hi] at h; cases h
    | some c =>
      rw [hi] at h
      simp only [Option.bind_some] at h
      have hgd : t.kids.getD i .gone = c := by rw [List.getD_eq_getElem?_getD, hi]; rfl
      cases t with
      | mem k s' us =>
        cases k
        · cases s' <;> simp [T.peek]
        · simp [T.kids] at hi
        · simp [T.kids] at hi
      | agg us =>
        simp only [T.kids] at hi hgd
        simp only [List.cons_append, T.setAt, T.withKids, T.kids, T.peek, hgd]
        rw [peekL_set us 0 i c _ hi (peek_setAt p c _ h)]
      | tup us =>
        simp only [T.kids] at hi hgd
        simp only [List.cons_append, T.setAt, T.withKids, T.kids, T.peek, hgd]
        rw [peekL_set us 0 i c _ hi (peek_setAt p c _ h)]
      | _ => simp [T.kids] at hi

theorem opd_store {e : Env} {r off : Nat} {p : List Nat} {s : Option Nat} {ts : List T} {z : T} (ht : e.tree r p = some (.mem .own s ts)) {x : Opd} {v : V} (hv : e.opd x = some v) (hr : v.rootly = true) : (e.setTree r (p ++ [off]) z).opd x = some v := by
  obtain ⟨t, h1, h2⟩ := tree_some ht
  cases x with
  | t n =>
    simp only [Env.opd, Env.peek] at hv ⊢
    by_cases hn : n = r
    · subst hn
      rw [setTree_self h1]
      rw [h1] at hv
      simp only [Option.some.injEq] at hv ⊢
      rw [← hv]
      exact peek_setAt p t [] h2
    · split at hv
      · rename_i u hu
        rw [setTree_ne hn hu rfl]
        exact hv
      · rename_i hne
        rw [setTree_ne hn hv (rootly_hits v hr)]
        split
        · rename_i u hu; cases hu; exact (hne u hv).elim
        · rfl
  | c u => exact hv
  | f id => exact hv

theorem light_simple {q : Q} (h : (match q with | .mvw _ => true | .bin .. => true | _ => false) = true) : q.simple = true := by
  cases q <;> first | rfl | cases h

theorem swapS {G : Rl} {m : K} {x y : O} {Kt : Env → Prop} {e : Env} {D : Nat → Prop} (h : Fresh D e) (hx : ∀ d, x.d = some d → D d) (hc : commutesS x y = true) (hs : stepO G m x (stepO G m y Kt) e) : stepO G m y (stepO G m x Kt) e := by
  obtain ⟨xd, xg, xq⟩ := x
  obtain ⟨yd, yg, yq⟩ := y
  simp only [commutesS, Bool.and_eq_true, Option.isNone_iff_eq_none] at hc
  obtain ⟨⟨⟨⟨c1, c2⟩, rfl⟩, rfl⟩, c3⟩ := hc
  cases xd with
  | none => simp at c3
  | some d =>
    simp only [Bool.and_eq_true, Bool.not_eq_true', bne_iff_ne, ne_eq] at c3
    have hD : D d := hx d rfl
    have hsim : xq.simple = true := light_simple c1
    simp only [stepO] at hs ⊢
    rw [step_val hsim] at hs
    obtain ⟨v, hv, hy⟩ := hs
    have hroot : v.rootly = true := by
      cases xq <;> simp only at c1 <;> try cases c1
      · rename_i op a b
        simp only [Q.val] at hv
        obtain ⟨a, _, b, _, h3⟩ := hv
        unfold binV at h3
        split at h3
        · split at h3
          · rw [Option.map_eq_some_iff] at h3; obtain ⟨_, _, rfl⟩ := h3; rfl
          · cases h3
        · cases h3
      · exact hv.2
    have hvd : v.hits d [] = false := val_hits h hD hv
    cases yq <;> simp only at c2 <;> try cases c2
    rename_i a z
    have hre : (Q.sts a z).reads d = false := by
      have := c3.1
      simp only [O.reads, Bool.or_false] at this
      exact this
    simp only [Q.reads, Bool.or_eq_false_iff] at hre
    have hoff : Off (e.setD (some d) v) e d := (setD_off h hD v).symm
    simp only [stepQ, bindP] at hy ⊢
    obtain ⟨av, h1, zv, h2, h3⟩ := hy
    rw [← opd_off hoff hre.1] at h1
    rw [← opd_off hoff hre.2] at h2
    refine ⟨av, h1, zv, h2, ?_⟩
    split at h3
    · rename_i r p off z
      have hrd : r ≠ d := by
        have := opd_hits hoff.symm hre.1 h1
        exact hits_ne this
      rw [← tree_off hoff hrd] at h3
      split at h3
      · rename_i ts htr
        refine ⟨h3.1, ?_⟩
        simp only [stepO]
        rw [step_val hsim]
        refine ⟨v, ?_, ?_⟩
        · cases xq <;> simp only at c1 <;> try cases c1
          · rename_i op a b
            simp only [Q.val] at hv ⊢
            obtain ⟨a', k1, b', k2, k3⟩ := hv
            have ha : a'.rootly = true ∧ b'.rootly = true := by
              unfold binV at k3
              split at k3
              · exact ⟨rfl, rfl⟩
              · cases k3
            exact ⟨a', opd_store htr k1 ha.1, b', opd_store htr k2 ha.2, k3⟩
          · exact ⟨opd_store htr hv.1 hroot, hroot⟩
        · have henv : (e.setD (some d) v).setTree r (p ++ [off]) (.sc z) = (e.setTree r (p ++ [off]) (.sc z)).setD (some d) v := by
            obtain ⟨t, q1, q2⟩ := tree_some htr
            have hkr : (e.setD (some d) v) r = some (.val t) := by rw [hoff.symm.1 r hrd]; exact q1
            funext s
            by_cases hsr : s = r
            · subst hsr
              rw [setTree_self hkr]
              simp only [Env.setD, Env.put, if_neg hrd, Env.kill, setTree_self q1]
              simp [V.hits]
            · simp only [Env.setTree, if_neg hsr]
              by_cases hsd : s = d
              · subst hsd
                simp [Env.setD, Env.put, Env.kill, hvd, rootly_hits v hroot]
              · simp only [Env.setD, Env.put, if_neg hsd, Env.kill, if_neg hsr, Env.setTree]
                cases hes : e s with
                | none => rfl
                | some u =>
                  simp only
                  cases hu1 : u.hits d [] <;> cases hu2 : u.hits r (p ++ [off]) <;> simp [hu1, hu2]
          rw [← henv]
          exact h3.2
      · exact h3.elim
    · exact h3.elim

theorem setD_swap {D : Nat → Prop} {e : Env} (h : Fresh D e) {d1 d2 : Nat} (hd1 : D d1) (hd2 : D d2) (hne : d1 ≠ d2) {v1 v2 : V} (h11 : v1.hits d1 [] = false) (h12 : v1.hits d2 [] = false) (h21 : v2.hits d1 [] = false) (h22 : v2.hits d2 [] = false) :
    (e.setD (some d1) v1).setD (some d2) v2 = (e.setD (some d2) v2).setD (some d1) v1 := by
  have o1 := (setD_off h hd1 v1).1
  have o2 := (setD_off h hd2 v2).1
  funext s
  have e1 : (e.put d1 v1) d1 = some v1 := by simp [Env.put, h11]
  have e2 : (e.put d2 v2) d2 = some v2 := by simp [Env.put, h22]
  by_cases hs1 : s = d1
  · subst hs1
    have r : ((e.setD (some d2) v2).setD (some s) v1) s = some v1 := by simp [Env.setD, Env.put, h11]
    rw [r]
    show (if s = d2 then _ else (e.put s v1).kill d2 [] s) = _
    rw [if_neg hne]
    simp only [Env.kill, e1, h12, Bool.false_eq_true, if_false]
  · by_cases hs2 : s = d2
    · subst hs2
      have r : ((e.setD (some d1) v1).setD (some s) v2) s = some v2 := by simp [Env.setD, Env.put, h22]
      rw [r]
      show _ = (if s = d1 then _ else (e.put s v2).kill d1 [] s)
      rw [if_neg (Ne.symm hne)]
      simp only [Env.kill, e2, h21, Bool.false_eq_true, if_false]
    · show (if s = d2 then _ else (e.setD (some d1) v1).kill d2 [] s) = (if s = d1 then _ else (e.setD (some d2) v2).kill d1 [] s)
      rw [if_neg hs2, if_neg hs1]
      simp only [Env.kill, o1 s hs1, o2 s hs2]
      cases hes : e s with
      | none => rfl
      | some y => simp [(h d1 hd1).2 s y hes, (h d2 hd2).2 s y hes]

theorem swapO {G : Rl} {m : K} {x y : O} {Kt : Env → Prop} {e : Env} {D : Nat → Prop} (h : Fresh D e) (hx : ∀ d, x.d = some d → D d) (hy : ∀ d, y.d = some d → D d) (hc : commutes x y = true) (hs : stepO G m x (stepO G m y Kt) e) : stepO G m y (stepO G m x Kt) e := by
  simp only [commutes, Bool.or_eq_true] at hc
  rcases hc with hc | hc
  case inr => exact swapS h hx hc hs
  simp only [commutesP, Bool.and_eq_true] at hc
  obtain ⟨⟨⟨qx, qy⟩, c1⟩, c2⟩ := hc
  rw [stepO_val qx] at hs
  obtain ⟨vx, h1, h2⟩ := hs
  rw [stepO_val qy] at h2
  obtain ⟨vy, h3, h4⟩ := h2
  rw [stepO_val qy]
  have hvy : y.val G e vy := by
    cases hxd : x.d with
    | none => rw [hxd] at h3; exact h3
    | some d =>
      rw [hxd] at h3 c1
      simp only [Bool.and_eq_true, Bool.not_eq_true'] at c1
      exact oval_off (setD_off h (hx d hxd) vx).symm qy c1.1 h3
  refine ⟨vy, hvy, ?_⟩
  rw [stepO_val qx]
  refine ⟨vx, ?_, ?_⟩
  · cases hyd : y.d with
    | none => exact h1
    | some d =>
      rw [hyd] at c2
      simp only [Bool.not_eq_true'] at c2
      exact oval_off (setD_off h (hy d hyd) vy) qx c2 h1
  · cases hxd : x.d with
    | none => rw [hxd] at h4; exact h4
    | some d1 =>
      cases hyd : y.d with
      | none => rw [hxd, hyd] at h4; exact h4
      | some d2 =>
        rw [hxd, hyd] at h4
        rw [hxd, hyd] at c1
        simp only [Bool.and_eq_true, bne_iff_ne, ne_eq, Option.some.injEq] at c1
        rw [← setD_swap h (hx d1 hxd) (hy d2 hyd) (fun e' => c1.2 e'.symm) (oval_hits h (hx d1 hxd) h1) (oval_hits h (hy d2 hyd) h1) (oval_hits h (hx d1 hxd) hvy) (oval_hits h (hy d2 hyd) hvy)]
        exact h4

/-- An operation goes ahead of those with which it commutes. -/
theorem bubble {G : Rl} {m : K} {o : O} {post : List O} {Kt : Env → Prop} : ∀ (pre : List O) {e : Env} {D : Nat → Prop}, Fresh D e → (∀ p, p ∈ pre → commutes p o = true ∧ (∀ d, p.d = some d → D d) ∧ ∀ d, o.d = some d → D d) →
    (pre.map (·.d)).Pairwise (fun a b => ∀ d, a = some d → b ≠ some d) → wpL G m (pre ++ o :: post) Kt e → wpL G m (o :: (pre ++ post)) Kt e
  | [], e, D, _, _, _, hs => hs
  | p :: pre, e, D, h, hc, hpw, hs => by
    obtain ⟨hcp, hp, ho⟩ := hc p (by simp)
    have hsim : p.q.simple = true ∧ (∀ d, p.d = some d → o.d ≠ some d) := by
      have h9 := hcp
      simp only [commutes, Bool.or_eq_true] at h9
      rcases h9 with h9 | h9
      · simp only [commutesP, Bool.and_eq_true] at h9
        obtain ⟨⟨⟨qp, qo⟩, c1⟩, _⟩ := h9
        refine ⟨qp, fun d hd => ?_⟩
        rw [hd] at c1
        simp only [Bool.and_eq_true, bne_iff_ne, ne_eq] at c1
        exact c1.2
      · simp only [commutesS, Bool.and_eq_true] at h9
        obtain ⟨⟨⟨⟨c1, _⟩, _⟩, _⟩, c3⟩ := h9
        refine ⟨light_simple c1, fun d hd => ?_⟩
        rw [hd] at c3
        simp only [Bool.and_eq_true, bne_iff_ne, ne_eq] at c3
        exact c3.2
    obtain ⟨qp, c1⟩ := hsim
    have h1 : stepO G m p (wpL G m (pre ++ o :: post) Kt) e := hs
    have hkey : stepO G m p (stepO G m o (wpL G m (pre ++ post) Kt)) e := by
      rw [stepO_val qp] at h1 ⊢
      obtain ⟨v, hv, hK⟩ := h1
      refine ⟨v, hv, ?_⟩
      simp only [List.map_cons, List.pairwise_cons] at hpw
      have hF : Fresh (fun d => D d ∧ p.d ≠ some d) (e.setD p.d v) := by
        have hsub : Fresh (fun d => D d ∧ p.d ≠ some d) e := fun d hd => h d hd.1
        exact hsub.setD (fun x hx hh => hh.2 hx) fun d hd => oval_hits h hd.1 hv
      refine bubble pre (D := fun d => D d ∧ p.d ≠ some d) hF (fun q hq => ⟨(hc q (by simp [hq])).1, fun d hd => ⟨(hc q (by simp [hq])).2.1 d hd, fun hpd => hpw.1 q.d (List.mem_map.2 ⟨q, hq, rfl⟩) d hpd hd⟩, fun d hd => ⟨ho d hd, fun hpd => ?_⟩⟩) hpw.2 hK
      · exact c1 d hpd hd
    exact swapO h hp ho hcp hkey

end Go.Mch
