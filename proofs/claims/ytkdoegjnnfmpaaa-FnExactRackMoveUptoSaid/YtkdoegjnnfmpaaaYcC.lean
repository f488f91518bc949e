/- Functions against the model's: what the machine calls good, the model does. -/
import Derived.Test.YtkdoegjnnfmpaaaYcB
namespace Go.Mch

def okRv (P : Program) : RV → ResultVar → Bool
  | .t s, .tmp s' => s == s'
  | .cell s n, .cell s' t => s == s' && okN P t n
  | _, _ => false

def okRs (P : Program) : List RV → List ResultVar → Bool
  | [], [] => true
  | r :: l, r' :: l' => okRv P r r' && okRs P l l'
  | _, _ => false

def okF (P : Program) (fm : Nat → Nat) (F : F) (fn : Func) : Bool :=
  (match fn.body with
   | some c => okC P fm fn.ntmps F.body c
   | none => false) && offC F.fix F.body && okRs P F.rs fn.results.toList && decide (F.np ≤ fn.ntmps) && !(fn.name == "runtime.NumGoroutine")

section
variable {P : Program} {cx : Cx} {nt : Nat} {G : Rl} {m : K} {a : Act} {w : World} {e : Env}

theorem rv_read (h : Rel cx nt e a w) {r : RV} {r' : ResultVar} (ho : okRv P r r' = true) {v : V} (he : e.rv r = some v) {f : ResultVar → Sem Value} (hf : ∀ t, f (.tmp t) = pure (a.tmps.getD t undef))
    (hf2 : ∀ s t, f (.cell s t) = do loadVar t (← asAddr (a.tmps.getD s undef))) : ∃ x, (f r').run P w = .ok x w ∧ AR cx e a w x v := by
  cases r with
  | t s =>
    cases r' <;> simp only [okRv] at ho <;> try cases ho
    simp only [beq_iff_eq] at ho
    subst ho
    exact ⟨_, by rw [hf]; simp, h.r.peek he⟩
  | cell s n =>
    cases r' <;> simp only [okRv] at ho <;> try cases ho
    simp only [Bool.and_eq_true, beq_iff_eq] at ho
    obtain ⟨rfl, hn⟩ := ho
    simp only [Env.rv] at he
    cases hp : e.peek s with
    | none => rw [hp] at he; cases he
    | some p =>
      rw [hp] at he
      obtain ⟨x, h1, h2⟩ := ld_read (P := P) h hn (h.r.peek hp) he
      refine ⟨x, ?_, h2⟩
      rw [hf2]
      have hv : vlA a s = a.tmps.getD s undef := rfl
      rw [hv] at h1
      simp only [Instr.loadAt, Sem.run_bind] at h1
      simp only [Sem.run_bind]
      have : (Instr.sureAddr (a.tmps.getD s undef)).run P w = (asAddr (a.tmps.getD s undef)).run P w ∨ ∃ y, (Instr.sureAddr (a.tmps.getD s undef)).run P w = .halt y w := by
        cases a.tmps.getD s undef <;> first | (left; rfl) | skip
        all_goals rename_i z; cases z <;> first | (left; rfl) | (right; exact ⟨_, rfl⟩)
      rcases this with h3 | ⟨y, h3⟩
      · rw [← h3]; exact h1
      · rw [h3] at h1; simp at h1

theorem rvs_read (h : Rel cx nt e a w) {f : ResultVar → Sem Value} (hf : ∀ t, f (.tmp t) = pure (a.tmps.getD t undef)) (hf2 : ∀ s t, f (.cell s t) = do loadVar t (← asAddr (a.tmps.getD s undef))) :
    ∀ (rs : List RV) (l : List ResultVar) {vs : List V}, okRs P rs l = true → e.rvs rs = some vs → ∃ xs : List Value, (l.mapM f).run P w = .ok xs w ∧ xs.length = vs.length ∧ ∀ g i, (∀ j, j < xs.length → g (i + j) = xs.getD j undef) → arepL cx.fm (okR cx (Own e (vlA a) w)) e (vlA a) w g i vs
  | [], [], vs, _, he => by
    simp only [Env.rvs, Option.some.injEq] at he
    subst he
    exact ⟨[], by simp, rfl, fun _ _ _ => trivial⟩
  | r :: rs, r' :: l, vs, ho, he => by
    simp only [okRs, Bool.and_eq_true] at ho
    simp only [Env.rvs] at he
    cases hx : e.rv r with
    | none => rw [hx] at he; cases he
    | some v =>
      rw [hx] at he
      simp only [Option.bind_some, Option.map_eq_some_iff] at he
      obtain ⟨vs', h1, rfl⟩ := he
      obtain ⟨x, g1, g2⟩ := rv_read h ho.1 hx hf hf2
      obtain ⟨xs, k1, k2, k3⟩ := rvs_read h hf hf2 rs l ho.2 h1
      refine ⟨x :: xs, by simp only [List.mapM_cons, Sem.run_bind, g1, Result.andThen_ok, k1, Sem.run_pure], by simp [k2], fun g i hg => ⟨?_, k3 g (i + 1) fun j hj => ?_⟩⟩
      · have := hg 0 (by simp)
        simp only [Nat.add_zero, List.getD_cons_zero] at this
        rw [this]; exact g2
      · have := hg (j + 1) (by simpa using hj)
        simp only [List.getD_cons_succ] at this
        rw [← this, show i + 1 + j = i + (j + 1) from by omega]
  | [], _ :: _, _, h, _ => by simp [okRs] at h
  | _ :: _, [], _, h, _ => by simp [okRs] at h

theorem result_sound (h : Rel cx nt e a w) {fn : Func} {rs : List RV} (hrs : okRs P rs fn.results.toList = true) {r : T} {e1 : Env} (he : e.result rs = some (r, e1)) :
    ∃ v vl, (results fn a.tmps).run P w = .ok v w ∧ vl nt = v ∧ R cx (e1.add nt (.val r)) vl w ∧ Clr e1 nt ∧ ∀ s, s < nt → vl s = vlA a s := by
  have run : ∀ vs, e.rvs rs = some vs → ∃ xs : List Value, (results fn a.tmps).run P w = .ok (if h : xs.toArray.size = 1 then xs.toArray[0] else .tuple xs.toArray) w ∧ xs.length = vs.length ∧ ∀ g i, (∀ j, j < xs.length → g (i + j) = xs.getD j undef) → arepL cx.fm (okR cx (Own e (vlA a) w)) e (vlA a) w g i vs := by
    intro vs hv
    have := rvs_read (P := P) h (f := fun | .tmp t => pure (a.tmps.getD t undef) | .cell s t => do loadVar t (← asAddr (a.tmps.getD s undef))) (fun _ => rfl) (fun _ _ => rfl) rs _ hrs hv
    obtain ⟨xs, k1, k2, k3⟩ := this
    refine ⟨xs, ?_, k2, k3⟩
    have hres : results fn a.tmps = (do
        let vs ← fn.results.mapM fun | .tmp t => pure (a.tmps.getD t undef) | .cell s t => do loadVar t (← asAddr (a.tmps.getD s undef))
        pure (if h : vs.size = 1 then vs[0] else .tuple vs)) := rfl
    rw [hres, Array.mapM_eq_mapM_toList]
    simp only [Sem.run_bind, Sem.run_map]
    rw [k1]
    simp only [Result.andThen_ok, Sem.run_pure]
  have many : rs.length ≠ 1 → (e.rvs rs).bind (fun vs => (e.takeL vs).map fun x => (T.tup x.1, x.2)) = some (r, e1) → ∃ v vl, (results fn a.tmps).run P w = .ok v w ∧ vl nt = v ∧ R cx (e1.add nt (.val r)) vl w ∧ Clr e1 nt ∧ ∀ s, s < nt → vl s = vlA a s := by
    intro hne he
    cases hv : e.rvs rs with
    | none => rw [hv] at he; cases he
    | some vs =>
      rw [hv] at he
      simp only [Option.bind_some, Option.map_eq_some_iff] at he
      obtain ⟨⟨ts, e2⟩, h1, h2⟩ := he
      cases h2
      obtain ⟨xs, g1, g2, g3⟩ := run vs hv
      have g4 := g3 (fun j => xs.getD j undef) 0 (fun j _ => by rw [Nat.zero_add])
      obtain ⟨vl, k1, ⟨us, k2, k3, k4⟩, k5, k6, _, _⟩ := takeL_sound vs _ 0 nt e (vlA a) h.r h.clr (Nat.le_refl _) (arwL_of h.dom vs _ 0 g4) h1
      have hlen : ∀ (rs : List RV) {vs : List V}, e.rvs rs = some vs → vs.length = rs.length := by
        intro rs
        induction rs with
        | nil => intro vs h; simp only [Env.rvs, Option.some.injEq] at h; subst h; rfl
        | cons r rs ih =>
          intro vs h
          simp only [Env.rvs] at h
          cases hr : e.rv r with
          | none => rw [hr] at h; cases h
          | some v =>
            rw [hr] at h
            simp only [Option.bind_some, Option.map_eq_some_iff] at h
            obtain ⟨vs', h1, rfl⟩ := h
            simp [ih h1]
      have hl := hlen rs hv
      refine ⟨_, vl, g1, ?_, k5, k6, k1⟩
      rw [dif_neg (by simp; omega), k2]
      congr 1
      refine arr_eq (by simp [k3, g2]) fun j hj => ?_
      rw [k4 j (by omega), Nat.zero_add]
      simp [Array.getD_eq_getD_getElem?, List.getD_eq_getElem?_getD]
  match rs, many, run, he with
  | [], many, _, he => exact many (by simp) he
  | [r0], _, run, he =>
    simp only [Env.result] at he
    cases hx : e.rv r0 with
    | none => rw [hx] at he; cases he
    | some v =>
      rw [hx] at he
      simp only [Option.bind_some] at he
      obtain ⟨xs, g1, g2, g3⟩ := run [v] (by simp only [Env.rvs, hx, Option.bind_some, Option.map_some])
      have hx1 : ∃ x, xs = [x] := by
        match xs, g2 with
        | [x], _ => exact ⟨x, rfl⟩
      obtain ⟨x, rfl⟩ := hx1
      have g4 := g3 (fun _ => x) 0 (fun j hj => by simp at hj; subst hj; rfl)
      obtain ⟨vl, h1, h2, h3, h4⟩ := h.take g4.1 he
      exact ⟨_, vl, g1, by rw [h2]; rfl, h3, h4, h1⟩
  | _ :: _ :: _, many, _, he => exact many (by simp) he

end

theorem fn_sound {P : Program} {fm : Nat → Nat} {G : Rl} (hP : P.follows .mixedOrders = true) (hG : ∀ f args args' r, G f args args' r → Pact P fm f args args' r) {f : Nat} {F : F} {fn : Func} (hfn : P.funcs[fm f]? = some fn) (hok : okF P fm F fn = true)
    {args args' : List T} {r : T} (hnp : F.np = args.length) (hlet : F.lets args = true) (hw : wp G (kindOf args) F.body (post F.rs args args' r) (init args)) : Pact P fm f args args' r := by
  simp only [okF, Bool.and_eq_true, decide_eq_true_eq, Bool.not_eq_true'] at hok
  obtain ⟨⟨⟨⟨hc, hoff⟩, hrs⟩, hnt⟩, hname⟩ := hok
  split at hc
  · rename_i c hbody
    refine ⟨⟨fn, hfn, by rw [hbody]; rfl, hname⟩, fun w vs A M hA hsz hM hR => ?_⟩
    refine calls_of_wp hfn hbody ?_
    have hvs : ∀ s, s < vs.size → vlA { tmps := vs ++ Array.replicate (fn.ntmps - vs.size) undef, defers := [] } s = vs.getD s undef := fun s hs => by
      simp only [vlA, Array.getD_eq_getD_getElem?]
      rw [Array.getElem?_append_left hs]
    have hrel : Rel (cx0 fm w A M hA) fn.ntmps (init args) { tmps := vs ++ Array.replicate (fn.ntmps - vs.size) undef, defers := [] } w := by
      refine ⟨hR.congr fun s x hx => ?_, fun j hj => ?_, by simp; omega, rfl⟩
      · obtain ⟨t, ht, _⟩ := init_some hx
        have hs : s < vs.size := by
          rw [hsz]
          rcases Nat.lt_or_ge s args.length with h' | h'
          · exact h'
          · rw [List.getElem?_eq_none h'] at ht; cases ht
        exact hvs s hs
      · unfold init
        rw [List.getElem?_eq_none (by omega)]
        rfl
    have hkn : kindOf args ≠ .own := by unfold kindOf; split <;> decide
    have hcs := code_sound (cx := cx0 fm w A M hA) (fx := F.fix) (f0 := vlA { tmps := vs ++ Array.replicate (fn.ntmps - vs.size) undef, defers := [] }) hP hG (fun _ h => h) hkn hM F.body c hc hoff hw hrel (fun _ _ => rfl)
    have fin : ∀ (e : Env) (a : Act) (w' : World), bindP (e.result F.rs) (fun x => x.1 = r ∧ args' = backArgs x.2 0 args) → Rel (cx0 fm w A M hA) fn.ntmps e a w' → Fx F.fix (vlA { tmps := vs ++ Array.replicate (fn.ntmps - vs.size) undef, defers := [] }) a → a.defers = [] ∧ ∃ v, (results fn a.tmps).run P w' = .ok v w' ∧ Back fm args args' r w vs A M hA (.returned v) w' := by
      rintro e a w' ⟨⟨r', e1⟩, h1, rfl, h2⟩ hr hfx
      obtain ⟨v, vl, g1, g2, g3, g4, g5⟩ := result_sound (P := P) hr hrs h1
      refine ⟨hr.defers, v, g1, fn.ntmps, e1, vl, by omega, g3, g4, g2, h2, fun s hs hh => ?_⟩
      have hin : s ∈ F.fix := by
        have := List.all_eq_true.1 hlet s (by simpa using hs)
        simp only [Bool.or_eq_true, hh, Bool.false_eq_true, false_or, List.contains_iff_mem] at this
        exact this
      rw [g5 s (by omega), hfx s hin]
      exact hvs s (by omega)
    refine Go.wp_mono hcs fun en a w' hl => ?_
    cases en with
    | normal => obtain ⟨e, h1, h2, h3⟩ := hl; exact fin e a w' h1 h2 h3
    | ret => obtain ⟨e, h1, h2, h3⟩ := hl; exact fin e a w' h1 h2 h3
    | exit id => obtain ⟨e, h1, _⟩ := hl; exact h1.elim
    | goto l => exact hl.elim
    | panic c => exact hl.elim
    | outgrown => exact hl.elim
  · cases hc

/-- What the machine calls good, the model does. -/
theorem sound {P : Program} {fm : Nat → Nat} {pg : Pg} (hP : P.follows .mixedOrders = true) (hprim : ∀ f args args' r, pg.prim f args args' r → Pact P fm f args args' r)
    (hprog : ∀ f F, pg.fn f = some F → ∃ fn, P.funcs[fm f]? = some fn ∧ okF P fm F fn = true)
    {f : Nat} {args args' : List T} {r : T} (h : Call pg f args args' r) : Pact P fm f args args' r :=
  h (fun f args args' r => Pact P fm f args args' r) hprim (fun f args args' r fn hf hnp hl hw => by
    obtain ⟨fn', h1, h2⟩ := hprog f fn hf
    exact fn_sound hP (fun f args args' r h => h) h1 h2 hnp hl hw)

end Go.Mch
