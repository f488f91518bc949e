/- The machine is monotone: what follows may be weakened, what callees are known to do may grow; the rules for loops and calls. -/
import Derived.Test.YtkdoegjnnfmpaaaYbU
namespace Go.Mch

theorem bindP_mono {α : Type} {o : Option α} {f g : α → Prop} (h : ∀ a, f a → g a) (hf : bindP o f) : bindP o g :=
  let ⟨a, h1, h2⟩ := hf; ⟨a, h1, h a h2⟩

theorem stepQ_mono {G G' : Rl} (hG : ∀ f a a' r, G f a a' r → G' f a a' r) {m : K} {d : Option Nat} {q : Q} {k k' : Env → Prop} (hk : ∀ e, k e → k' e) {e : Env}
    (h : stepQ G m d q k e) : stepQ G' m d q k' e := by
  cases q
  case call f args =>
    refine bindP_mono (fun fv hv => ?_) h
    cases fv <;> try exact hv
    rename_i t
    cases t <;> try exact hv
    refine bindP_mono (fun ts ht => ?_) hv
    obtain ⟨ts', r, h1, h2, h3, h4⟩ := ht
    exact ⟨ts', r, hG _ _ _ _ h1, h2, h3, bindP_mono (fun _ h => hk _ h) h4⟩
  case mv x => exact bindP_mono (fun _ h => hk _ h) h
  case mvw x => exact bindP_mono (fun _ h => ⟨h.1, hk _ h.2⟩) h
  case sts x y =>
    refine bindP_mono (fun a ha => bindP_mono (fun v hv => ?_) ha) h
    split at hv
    · split at hv
      · exact ⟨hv.1, hk _ hv.2⟩
      · exact hv.elim
    · exact hv.elim
  case asg x =>
    refine bindP_mono (fun v hv => ?_) h
    cases v
    case val t => exact hk _ hv
    all_goals exact bindP_mono (fun _ h => hk _ h) hv
  case pick => exact bindP_mono (fun _ h => bindP_mono (fun _ h => hk _ h) h) h
  case bin => exact bindP_mono (fun _ h => bindP_mono (fun _ h => bindP_mono (fun _ h => hk _ h) h) h) h
  case beq => exact bindP_mono (fun _ h => bindP_mono (fun _ h => hk _ h) h) h
  case isnil => exact bindP_mono (fun _ h => hk _ h) h
  case slen => exact bindP_mono (fun _ h => hk _ h) h
  case un => exact bindP_mono (fun _ h => bindP_mono (fun _ h => hk _ h) h) h
  case conv => exact bindP_mono (fun _ h => hk _ h) h
  case len => exact bindP_mono (fun _ h => hk _ h) h
  case idx => exact bindP_mono (fun _ h => bindP_mono (fun _ h => bindP_mono (fun _ h => hk _ h) h) h) h
  case fld => exact bindP_mono (fun _ h => bindP_mono (fun _ h => hk _ h) h) h
  case fldv => exact bindP_mono (fun _ h => bindP_mono (fun _ h => hk _ h) h) h
  case ld => exact bindP_mono (fun _ h => bindP_mono (fun _ h => hk _ h) h) h
  case st =>
    refine bindP_mono (fun a ha => bindP_mono (fun v hv => bindP_mono (fun y hy => ?_) hv) ha) h
    split at hy
    · split at hy
      · exact ⟨hy.1, hk _ hy.2⟩
      · exact hy.elim
    · exact hy.elim
  case nilck =>
    refine bindP_mono (fun a ha => ?_) h
    split at ha
    · exact hk _ ha
    · exact hk _ ha
    · exact ha.elim
  case alloc => exact hk _ h
  case box => exact bindP_mono (fun _ h => bindP_mono (fun _ h => ⟨h.1, hk _ h.2⟩) h) h
  case build => exact bindP_mono (fun _ h => bindP_mono (fun _ h => hk _ h) h) h
  case mks => exact bindP_mono (fun _ h => ⟨h.1, hk _ h.2⟩) h
  case bsl => exact bindP_mono (fun _ h => bindP_mono (fun _ h => ⟨h.1, hk _ h.2⟩) h) h
  case app =>
    refine bindP_mono (fun a ha => bindP_mono (fun b hb => bindP_mono (fun z hz => bindP_mono (fun u hu => ?_) hz) hb) ha) h
    refine ⟨hu.1, ?_⟩
    have h2 := hu.2
    split at h2
    · exact ⟨fun x => hk _ (h2.1 x), fun x => hk _ (h2.2 x)⟩
    · exact hk _ h2
  case sl => exact bindP_mono (fun _ h => bindP_mono (fun _ h => bindP_mono (fun _ h => bindP_mono (fun _ h => hk _ h) h) h) h) h
  case ext => exact bindP_mono (fun _ h => bindP_mono (fun _ h => hk _ h) h) h
  case fnc => exact bindP_mono (fun _ h => hk _ h) h
  case freeze => exact bindP_mono (fun _ h => hk _ h) h
  case settle => exact bindP_mono (fun _ h => hk _ h) h
  case boxk s =>
    refine bindP_mono (fun v hv => ?_) h
    split at hv
    · exact ⟨hv.1, hk _ hv.2⟩
    · exact hv.elim
  case callm f args ks =>
    refine bindP_mono (fun fv hv => ?_) h
    cases fv <;> try exact hv
    rename_i t
    cases t <;> try exact hv
    refine bindP_mono (fun vs hv => ⟨hv.1, bindP_mono (fun y hy => ?_) hv.2⟩) hv
    obtain ⟨h0, ts', r, h1, h2, h3⟩ := hy
    exact ⟨h0, ts', r, hG _ _ _ _ h1, h2, bindP_mono (fun _ h => bindP_mono (fun _ h => hk _ h) h) h3⟩
  refine bindP_mono (fun a ha => bindP_mono (fun n hn => ?_) ha) h
  split at hn
  · exact bindP_mono (fun _ h => hk _ h) hn
  · exact hn.elim

theorem stepO_mono {G G' : Rl} (hG : ∀ f a a' r, G f a a' r → G' f a a' r) {m : K} {o : O} {k k' : Env → Prop} (hk : ∀ e, k e → k' e) {e : Env}
    (h : stepO G m o k e) : stepO G' m o k' e := by
  unfold stepO at *
  split
  · rename_i hg; simp only [hg] at h; exact stepQ_mono hG hk h
  · rename_i s b hg
    simp only [hg] at h
    split at h
    · split at h
      · rename_i h1; rw [if_pos h1]; exact stepQ_mono hG hk h
      · rename_i h1; rw [if_neg h1]; exact hk _ h
    · exact hk _ h
    · exact h.elim

theorem wpL_mono {G G' : Rl} (hG : ∀ f a a' r, G f a a' r → G' f a a' r) {m : K} (l : List O) {k k' : Env → Prop} (hk : ∀ e, k e → k' e) :
    ∀ {e : Env}, wpL G m l k e → wpL G' m l k' e := by
  induction l with
  | nil => exact fun h => hk _ h
  | cons o l ih => exact fun h => stepO_mono hG (fun _ h => ih h) h

theorem after_mono {n n' : Env → Prop} {R R' : X → Env → Prop} (hn : ∀ e, n e → n' e) (hR : ∀ x e, R x e → R' x e) : ∀ x e, X.after n R x e → X.after n' R' x e
  | .nrm, e, h => hn e h
  | .ext _, e, h => hR _ e h
  | .ret, e, h => hR _ e h

theorem wp_mono {G G' : Rl} (hG : ∀ f a a' r, G f a a' r → G' f a a' r) {m : K} (c : C) : ∀ {R R' : X → Env → Prop}, (∀ x e, R x e → R' x e) → ∀ {e : Env}, wp G m c R e → wp G' m c R' e := by
  induction c with
  | skip => exact fun hR _ h => hR _ _ h
  | region dr ops ks => exact fun hR _ h => wpL_mono hG ops (fun _ h => hR _ _ h) h
  | seq a b iha ihb => exact fun hR _ h => iha (after_mono (fun _ h => ihb hR h) hR) h
  | cond c a b iha ihb =>
    intro R R' hR e h
    refine bindP_mono (fun t ht => ?_) h
    cases t
    · exact ihb hR ht
    · exact iha hR ht
  | block id b ih =>
    intro R R' hR e h
    refine ih (fun x e hx => ?_) h
    cases x
    · exact hR _ _ hx
    · simp only [X.out] at hx ⊢
      split
      · rename_i h1; rw [if_pos h1] at hx; exact hR _ _ hx
      · rename_i h1; rw [if_neg h1] at hx; exact hR _ _ hx
    · exact hR _ _ hx
  | loop b ih =>
    intro R R' hR e h I hI
    exact h I fun e he => hI e (ih (after_mono (fun _ h => h) hR) he)
  | exit id => exact fun hR _ h => hR _ _ h
  | ret => exact fun hR _ h => hR _ _ h

/-- A round, and then the loop again. -/
theorem wpLoop_round {G : Rl} {m : K} {b : C} {R : X → Env → Prop} {e : Env} (h : wp G m b (X.after (wpLoop G m b R) R) e) : wpLoop G m b R e :=
  fun I hI => hI e (wp_mono (fun _ _ _ _ h => h) b (after_mono (fun _ h => h I hI) (fun _ _ h => h)) h)

/-- Rounds that are counted. -/
theorem wpLoop_count {G : Rl} {m : K} {b : C} {R : X → Env → Prop} (St : Nat → Env → Prop) (n : Nat)
    (round : ∀ k e, k < n → St k e → wp G m b (X.after (St (k + 1)) R) e) (last : ∀ e, St n e → wp G m b (X.after (fun _ => False) R) e) :
    ∀ k e, k ≤ n → St k e → wpLoop G m b R e := by
  intro k e hk
  obtain ⟨j, hj⟩ : ∃ j, k + j = n := ⟨n - k, by omega⟩
  clear hk
  induction j generalizing k e with
  | zero =>
    intro he
    have : k = n := by omega
    subst this
    exact wpLoop_round (wp_mono (fun _ _ _ _ h => h) b (after_mono (fun _ h => h.elim) (fun _ _ h => h)) (last e he))
  | succ j ih =>
    intro he
    exact wpLoop_round (wp_mono (fun _ _ _ _ h => h) b (after_mono (fun e' h => ih (k + 1) e' (by omega) h) (fun _ _ h => h)) (round k e (by omega) he))

/-- Rounds that lower a measure. -/
theorem wpLoop_lower {G : Rl} {m : K} {b : C} {R : X → Env → Prop} {α : Type} (μ : α → Nat) (St : α → Env → Prop)
    (round : ∀ x e, St x e → wp G m b (X.after (fun e' => ∃ y, μ y < μ x ∧ St y e') R) e) :
    ∀ x e, St x e → wpLoop G m b R e := by
  intro x
  generalize hn : μ x = n
  induction n using Nat.strongRecOn generalizing x with
  | _ n ih =>
    intro e he
    exact wpLoop_round (wp_mono (fun _ _ _ _ h => h) b (after_mono (fun e' ⟨y, hy, h⟩ => ih (μ y) (hn ▸ hy) y rfl e' h) (fun _ _ h => h)) (round x e he))

/-- A function whose body goes through makes its call good. -/
theorem Call.intro_own {pg : Pg} {f : Nat} {args args' : List T} {r : T} {fn : F} (hf : pg.fn f = some fn) (hn : fn.np = args.length) (hl : fn.lets args = true)
    (h : wp (Call pg) (kindOf args) fn.body (post fn.rs args args' r) (init args)) : Call pg f args args' r :=
  fun G hp hG => hG f args args' r fn hf hn hl (wp_mono (fun _ _ _ _ hc => hc G hp hG) _ (fun _ _ h => h) h)

theorem Call.of_prim {pg : Pg} {f : Nat} {args args' : List T} {r : T} (h : pg.prim f args args' r) : Call pg f args args' r :=
  fun _ hp _ => hp f args args' r h

theorem noOwnL_getD : ∀ {ts : List T}, T.noOwnL ts = true → ∀ i, (ts.getD i .gone).noOwn = true
  | [], _, _ => rfl
  | t :: ts, h, 0 => by simp only [T.noOwnL, Bool.and_eq_true] at h; exact h.1
  | t :: ts, h, i + 1 => by simp only [T.noOwnL, Bool.and_eq_true] at h; exact noOwnL_getD h.2 i

theorem F.lets_of {fn : F} {args : List T} (h : T.noOwnL args = true) : fn.lets args = true := by
  unfold F.lets
  rw [List.all_eq_true]
  intro i _
  rw [noOwnL_getD h]
  rfl

theorem Call.intro {pg : Pg} {f : Nat} {args args' : List T} {r : T} {fn : F} (hf : pg.fn f = some fn) (hn : fn.np = args.length) (hl : T.noOwnL args = true)
    (h : wp (Call pg) .fresh fn.body (post fn.rs args args' r) (init args)) : Call pg f args args' r :=
  Call.intro_own hf hn (F.lets_of hl) (by unfold kindOf; rw [if_pos hl]; exact h)

end Go.Mch
