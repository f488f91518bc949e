/- Rows of operations against the model's. -/
import Derived.Test.YtkdoegjnnfmpaaaYbV
import Derived.Orders
namespace Go.Mch

def okG (ops : Array Oper) : Option (Nat × Bool) → Option (Nat × Bool) → Bool
  | none, none => true
  | some (s, b), some (j, b') => ((ops[j]?).bind (·.dst)) == some s && b == b'
  | _, _ => false

def okO (P : Program) (fm : Nat → Nat) (nt : Nat) (ops : Array Oper) (o : O) (x : Oper) : Bool :=
  o.d == x.dst && okG ops o.g x.guard && okDst nt o.q x.dst && okQ P fm o.q x.op

/-- A row of operations, with freezes between. -/
def okOps (P : Program) (fm : Nat → Nat) (nt : Nat) (ops : Array Oper) : List O → List Oper → Bool
  | [], [] => true
  | ⟨d, g, .freeze _⟩ :: l, xs => d.isNone && g.isNone && okOps P fm nt ops l xs
  | ⟨d, g, .settle _⟩ :: l, xs => d.isNone && g.isNone && okOps P fm nt ops l xs
  | o :: l, x :: xs => okO P fm nt ops o x && okOps P fm nt ops l xs
  | _, _ => false

section
variable {P : Program} {cx : Cx} {nt : Nat} {Kt : Env → Prop} {a : Act} {w : World} {e : Env} {G : Rl} {m : K}

theorem Rel.putU (h : Rel cx nt e a w) {d : Option Nat} (hd : d.all (fun d => decide (d < nt)) = true) : Rel cx nt (e.setD d undefV) (a.put d undef) w := by
  cases d with
  | none => exact h
  | some d => exact h.put (by simpa using hd) ⟨rfl, rfl⟩

theorem okDst_all {q : Q} {d : Option Nat} (h : okDst nt q d = true) : d.all (fun d => decide (d < nt)) = true := by
  cases d with
  | none => rfl
  | some d =>
    unfold okDst at h
    split at h <;> simp_all

/-- An operation does what it should, or is passed over. -/
def Does (P : Program) (ops : Array Oper) (cx : Cx) (nt : Nat) (K : Env → Prop) (x : Oper) (a : Act) (w : World) : Prop :=
  if Region.wanted x (yielded ops a.tmps) then Good P cx nt K x a w else ∃ e', K e' ∧ Rel cx nt e' (a.put x.dst undef) w

theorem stepO_sound (hG : ∀ f args args' r, G f args args' r → Pact P cx.fm f args args' r) (hN : ∀ b, ¬ cx.N b) (hm : m ≠ .own) (hm2 : m = .fresh → ∀ b, ¬ cx.M b) {ops : Array Oper} (h : Rel cx nt e a w)
    {o : O} {x : Oper} (ho : okO P cx.fm nt ops o x = true) (hs : stepO G m o Kt e) : Does P ops cx nt Kt x a w := by
  simp only [okO, Bool.and_eq_true, beq_iff_eq] at ho
  obtain ⟨⟨⟨hd, hg⟩, hdst⟩, hq⟩ := ho
  obtain ⟨d, g, q⟩ := o
  simp only at hd hg hq hdst
  subst hd
  unfold Does
  unfold stepO at hs
  cases g with
  | none =>
    simp only at hs
    have hxg : x.guard = none := by
      cases hh : x.guard with
      | none => rfl
      | some y => rw [hh] at hg; simp [okG] at hg
    simp only [Region.wanted, hxg, if_true]
    exact stepQ_sound hG hN hm hm2 h hq hdst hs
  | some sb =>
    obtain ⟨s, b⟩ := sb
    simp only at hs
    cases hxg : x.guard with
    | none => rw [hxg] at hg; simp [okG] at hg
    | some jb =>
      obtain ⟨j, b'⟩ := jb
      rw [hxg] at hg
      simp only [okG, Bool.and_eq_true, beq_iff_eq] at hg
      obtain ⟨hj, rfl⟩ := hg
      have hval : ∀ t, e s = some (.val t) → s < nt ∧ Mch.rep cx.fm (okR cx (Own e (vlA a) w)) w (vlA a s) t := fun t ht => by
        refine ⟨?_, srep_val h.r ht⟩
        rcases Nat.lt_or_ge s nt with h' | h'
        · exact h'
        · rw [h.dom s h'] at ht; cases ht
      have hy : ∀ t, e s = some (.val t) → yielded ops a.tmps j = match vlA a s with | .bool b => some b | _ => none := fun t ht => by
        obtain ⟨hlt, _⟩ := hval t ht
        have hlt' : s < a.tmps.size := by rw [h.size]; exact hlt
        simp only [yielded, hj, Option.bind_some, vlA, Array.getD_eq_getD_getElem?, Array.getElem?_eq_getElem hlt', Option.getD_some]
        cases a.tmps[s] <;> rfl
      split at hs
      · rename_i b' hes
        obtain ⟨_, hr⟩ := hval _ hes
        have hv : vlA a s = .bool b' := hr.1
        simp only [Region.wanted, hxg, hy _ hes, hv]
        by_cases hb : b' = b
        · rw [if_pos hb] at hs
          rw [if_pos (by simp [hb])]
          exact stepQ_sound hG hN hm hm2 h hq hdst hs
        · rw [if_neg hb] at hs
          rw [if_neg (by simpa using hb)]
          exact ⟨_, hs, h.putU (okDst_all hdst)⟩
      · rename_i hes
        obtain ⟨_, hr⟩ := hval _ hes
        have hv : vlA a s = undef := hr
        have hu : (match vlA a s with | .bool b => some b | _ => none) = (none : Option Bool) := by rw [hv]; rfl
        simp only [Region.wanted, hxg, hy _ hes, hu]
        rw [if_neg (by simp)]
        exact ⟨_, hs, h.putU (okDst_all hdst)⟩
      · exact hs.elim

/-- These slots hold what they held. -/
def Fx (fx : List Nat) (f0 : Vl) (a : Act) : Prop := ∀ s, s ∈ fx → vlA a s = f0 s

def offO (fx : List Nat) (o : O) : Bool := o.d.all fun d => !fx.contains d

theorem wp_put {o : Oper} {K : Act → World → Prop} {Q : Exit → Act → World → Prop} (h : o.wp P a w K Q) : o.wp P a w (fun a' w' => K a' w' ∧ ∃ v ds, a' = ({ a with defers := ds }).put o.dst v) Q := by
  unfold Oper.wp at *
  generalize (execOp a.eval o).run P w = r at *
  cases r with
  | ok n w' =>
    cases n <;> simp only [Oper.upon] at h ⊢ <;>
      first
        | exact ⟨h, _, a.defers, rfl⟩
        | exact ⟨h, _, _, rfl⟩
        | exact Calls.mono h (fun e w'' he => by cases e <;> first | exact ⟨he, _, a.defers, rfl⟩ | exact he)
        | exact Rows.mono h (fun _ _ he => ⟨he, _, a.defers, rfl⟩)
  | halt x w' => cases x <;> simp only [Oper.upon] at h ⊢ <;> exact h

theorem Fx.put {fx : List Nat} {f0 : Vl} (h : Fx fx f0 a) {d : Option Nat} (hd : d.all (fun d => !fx.contains d) = true) (v : Value) (ds : List Deferred) : Fx fx f0 (({ a with defers := ds }).put d v) := by
  intro s hs
  rw [← h s hs]
  cases d with
  | none => rfl
  | some d =>
    have hne : s ≠ d := fun e' => by subst e'; simp [hs] at hd
    simp only [vlA, Act.put, Array.getD_eq_getD_getElem?]
    rw [Array.getElem?_setIfInBounds_ne (Ne.symm hne)]

theorem row_sound (hG : ∀ f args args' r, G f args args' r → Pact P cx.fm f args args' r) (hN : ∀ b, ¬ cx.N b) (hm : m ≠ .own) (hm2 : m = .fresh → ∀ b, ¬ cx.M b) {ops : Array Oper} {Q : Exit → Act → World → Prop} {fx : List Nat} {f0 : Vl}
    (hQ : ∀ e a w, Kt e → Rel cx nt e a w → Fx fx f0 a → Q .normal a w) : ∀ (l : List O) (xs : List Oper) (i : Nat) (e : Env) (a : Act) (w : World), okOps P cx.fm nt ops l xs = true → l.all (offO fx) = true → Fx fx f0 a → (∀ j, j < xs.length → ops[i + j]? = xs[j]?) →
      Rel cx nt e a w → wpL G m l Kt e → wpOps P ops Q (List.range' i xs.length) a w
  | [], [], i, e, a, w, _, _, hf, _, h, hw => hQ e a w hw h hf
  | [], _ :: _, _, _, _, _, ho, _, _, _, _, _ => by simp [okOps] at ho
  | ⟨d, g, q⟩ :: l, xs, i, e, a, w, ho, hof, hf, hx, h, hw => by
    simp only [List.all_cons, Bool.and_eq_true] at hof
    by_cases hfr : ∃ s, q = .freeze s
    · obtain ⟨s, rfl⟩ := hfr
      simp only [okOps, Bool.and_eq_true, Option.isNone_iff_eq_none] at ho
      obtain ⟨⟨rfl, rfl⟩, ho⟩ := ho
      simp only [wpL, stepO, stepQ, bindP] at hw
      obtain ⟨e', h1, h2⟩ := hw
      exact row_sound hG hN hm hm2 hQ l xs i e' a w ho (by simpa using hof.2) hf hx (h.freeze hN hm hm2 h1) h2
    by_cases hfr2 : ∃ s, q = .settle s
    · obtain ⟨s, rfl⟩ := hfr2
      simp only [okOps, Bool.and_eq_true, Option.isNone_iff_eq_none] at ho
      obtain ⟨⟨rfl, rfl⟩, ho⟩ := ho
      simp only [wpL, stepO, stepQ, bindP] at hw
      obtain ⟨e', h1, h2⟩ := hw
      exact row_sound hG hN hm hm2 hQ l xs i e' a w ho (by simpa using hof.2) hf hx (h.settle h1) h2
    · cases xs with
      | nil => cases q <;> first | (simp [okOps] at ho; done) | exact (hfr ⟨_, rfl⟩).elim | exact (hfr2 ⟨_, rfl⟩).elim
      | cons x xs =>
        have ho' : okO P cx.fm nt ops ⟨d, g, q⟩ x = true ∧ okOps P cx.fm nt ops l xs = true := by
          cases q <;> first | (simp only [okOps, Bool.and_eq_true] at ho; exact ho) | exact (hfr ⟨_, rfl⟩).elim | exact (hfr2 ⟨_, rfl⟩).elim
        have hstep := stepO_sound hG hN hm hm2 h ho'.1 hw
        have hi : ops[i]? = some x := by have := hx 0 (by simp); simpa using this
        have hdx : x.dst.all (fun d => !fx.contains d) = true := by
          have h1 := ho'.1
          simp only [okO, Bool.and_eq_true, beq_iff_eq] at h1
          rw [← h1.1.1.1]
          exact hof.1
        have hrec : ∀ e a w, wpL G m l Kt e → Rel cx nt e a w → Fx fx f0 a → wpOps P ops Q (List.range' (i + 1) xs.length) a w := fun e a w he hr hf =>
          row_sound hG hN hm hm2 hQ l xs (i + 1) e a w ho'.2 (by simpa using hof.2) hf (fun j hj => by
            have := hx (j + 1) (by simpa using hj)
            rw [show i + 1 + j = i + (j + 1) from by omega, this]
            rfl) hr he
        simp only [List.length_cons, List.range'_succ, wpOps, hi]
        unfold Does at hstep
        split
        · rename_i hwt
          rw [if_pos hwt] at hstep
          exact .inl (Oper.wp_mono (fun a' w' ⟨⟨e', h1, h2⟩, v, ds, h3⟩ => hrec e' a' w' h1 h2 (h3 ▸ hf.put hdx v ds)) (wp_put (hstep Q)))
        · rename_i hwt
          rw [if_neg hwt] at hstep
          obtain ⟨e', h1, h2⟩ := hstep
          exact hrec e' _ w h1 h2 (hf.put hdx undef a.defers)

end
end Go.Mch
