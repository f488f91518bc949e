/- Operations that only read and make one value: what they do does not hang on their order. -/
import Derived.Test.YtkdoegjnnfmpaaaYbW
namespace Go.Mch

def Q.simple : Q → Bool
  | .mv _ | .mvw _ | .pick .. | .bin .. | .beq .. | .isnil .. | .un .. | .conv .. | .len _ | .slen _ | .idx .. | .at .. | .fld .. | .fldv .. | .ld .. | .nilck _ | .alloc _ | .build .. | .mks .. | .sl .. | .ext .. => true
  | .call _ args => args.all (fun x => x.2 == .r)
  | _ => false

/-- The value that a simple operation makes. -/
def Q.val (G : Rl) (q : Q) (e : Env) (v : V) : Prop :=
  match q with
  | .mv x => e.opd x = some v
  | .mvw x => e.opd x = some v ∧ v.rootly = true
  | .pick c a b => ∃ t, (e.opd c).bind asB = some t ∧ e.opd (if t then a else b) = some v
  | .bin op x y => ∃ a, e.opd x = some a ∧ ∃ b, e.opd y = some b ∧ binV op a b = some v
  | .beq neg x y => ∃ a, (e.opd x).bind asB = some a ∧ ∃ b, (e.opd y).bind asB = some b ∧ v = .val (.sc (.bool ((a == b) != neg)))
  | .isnil neg x => ∃ b, (e.opd x).bind V.isNil = some b ∧ v = .val (.sc (.bool (b != neg)))
  | .un op x => ∃ a, e.opd x = some a ∧ unV op a = some v
  | .conv k x => ∃ n, (e.opd x).bind asI = some n ∧ v = .val (.sc (.int k (k.wrap n)))
  | .len x => ∃ n, (e.opd x).bind lenV = some n ∧ v = .val (.sc (.int .i64 n))
  | .slen x => ∃ n, (e.opd x).bind slenV = some n ∧ v = .val (.sc (.int .i64 n))
  | .idx sz x i => ∃ a, e.opd x = some a ∧ ∃ n, (e.opd i).bind asI = some n ∧ idxV sz a n = some v
  | .at x i => ∃ a, e.opd x = some a ∧ ∃ n, (e.opd i).bind asI = some n ∧ (match a with
      | .val (.sc (.string s)) => ∃ b, (if 0 ≤ n then s[n.toNat]? else none) = some b ∧ v = .val (.sc (.int .u8 b.toNat))
      | _ => False)
  | .fld off x => ∃ a, e.opd x = some a ∧ e.fld off a = some v
  | .fldv off n x => ∃ a, e.opd x = some a ∧ fldvV off n a = some v
  | .ld n a => ∃ p, e.opd a = some p ∧ e.ld n p = some v
  | .nilck x => ∃ a, e.opd x = some a ∧ v = a ∧ (match a with
      | .pref .. => True
      | .val (.mem _ none _) => True
      | _ => False)
  | .alloc zs => v = .val (.mem .own none (zs.map .sc))
  | .build zs parts => ∃ ps, e.parts parts = some ps ∧ ∃ vs, fillV (zs.map fun z => .val (.sc z)) ps = some vs ∧ v = .vagg vs
  | .mks z n => ∃ k, (e.opd n).bind asI = some k ∧ (0 ≤ k ∧ k ≤ (roomy : Int)) ∧ v = .val (.mem .own (some 1) (List.replicate k.toNat (.sc z)))
  | .sl sz x lo hi => ∃ a, e.opd x = some a ∧ ∃ l, e.optI lo = some l ∧ ∃ h, e.optI hi = some h ∧ slV sz a l h = some v
  | .ext x i => ∃ a, e.opd x = some a ∧ extV i a = some v
  | .call f args => ∃ id caps, e.opd f = some (.val (.fn id caps)) ∧ ∃ ts, e.args args = some ts ∧ ∃ ts' r, G id (ts ++ T.eryL .old caps) (ts' ++ T.eryL .old caps) r ∧ ts'.length = ts.length ∧ (e.lends args = true → r.noOld = true ∧ args.all (fun x => x.2 == .r) = true) ∧ v = .val r ∧ args.length = ts'.length
  | _ => False

theorem back_r' : ∀ (xs : List (Opd × Mode)) (ts : List T) {e : Env}, xs.all (fun x => x.2 == .r) = true → xs.length = ts.length → e.back xs ts = some e
  | [], [], _, _, _ => rfl
  | (x, md) :: xs, t :: ts, e, hm, h => by
    simp only [List.all_cons, Bool.and_eq_true, beq_iff_eq] at hm
    obtain ⟨rfl, hm⟩ := hm
    simp only [Env.back]
    exact back_r' xs ts (by simpa using hm) (by simpa using h)
  | [], _ :: _, _, _, h => by simp at h
  | _ :: _, [], _, _, h => by simp at h

theorem back_len : ∀ (xs : List (Opd × Mode)) (ts : List T) {e e' : Env}, e.back xs ts = some e' → xs.all (fun x => x.2 == .r) = true → xs.length = ts.length
  | [], [], _, _, _, _ => rfl
  | (x, md) :: xs, t :: ts, e, e', h, hm => by
    simp only [List.all_cons, Bool.and_eq_true, beq_iff_eq] at hm
    obtain ⟨rfl, hm⟩ := hm
    simp only [Env.back] at h
    simp [back_len xs ts h (by simpa using hm)]
  | [], _ :: _, _, _, h, _ => by simp [Env.back] at h
  | (_, .r) :: _, [], _, _, h, _ => by simp [Env.back] at h
  | (_, .w) :: _, [], _, _, h, _ => by simp [Env.back] at h
  | (_, .m) :: _, [], _, _, h, _ => by simp [Env.back] at h

theorem step_val {G : Rl} {m : K} {d : Option Nat} {q : Q} {Kt : Env → Prop} {e : Env} (hq : q.simple = true) : stepQ G m d q Kt e ↔ ∃ v, q.val G e v ∧ Kt (e.setD d v) := by
  cases q <;> simp only [Q.simple] at hq <;> first | (cases hq; done) | skip
  case mv => exact Iff.rfl
  case mvw => exact ⟨fun ⟨v, h1, h2, h3⟩ => ⟨v, ⟨h1, h2⟩, h3⟩, fun ⟨v, ⟨h1, h2⟩, h3⟩ => ⟨v, h1, h2, h3⟩⟩
  case pick =>
    exact ⟨fun ⟨t, h1, v, h2, h3⟩ => ⟨v, ⟨t, h1, h2⟩, h3⟩, fun ⟨v, ⟨t, h1, h2⟩, h3⟩ => ⟨t, h1, v, h2, h3⟩⟩
  case bin => exact ⟨fun ⟨a, h1, b, h2, v, h3, h4⟩ => ⟨v, ⟨a, h1, b, h2, h3⟩, h4⟩, fun ⟨v, ⟨a, h1, b, h2, h3⟩, h4⟩ => ⟨a, h1, b, h2, v, h3, h4⟩⟩
  case beq => exact ⟨fun ⟨a, h1, b, h2, h3⟩ => ⟨_, ⟨a, h1, b, h2, rfl⟩, h3⟩, fun ⟨v, ⟨a, h1, b, h2, h3⟩, h4⟩ => ⟨a, h1, b, h2, by subst h3; exact h4⟩⟩
  case isnil => exact ⟨fun ⟨a, h1, h3⟩ => ⟨_, ⟨a, h1, rfl⟩, h3⟩, fun ⟨v, ⟨a, h1, h3⟩, h4⟩ => ⟨a, h1, by subst h3; exact h4⟩⟩
  case un => exact ⟨fun ⟨a, h1, v, h3, h4⟩ => ⟨v, ⟨a, h1, h3⟩, h4⟩, fun ⟨v, ⟨a, h1, h3⟩, h4⟩ => ⟨a, h1, v, h3, h4⟩⟩
  case conv => exact ⟨fun ⟨a, h1, h3⟩ => ⟨_, ⟨a, h1, rfl⟩, h3⟩, fun ⟨v, ⟨a, h1, h3⟩, h4⟩ => ⟨a, h1, by subst h3; exact h4⟩⟩
  case len => exact ⟨fun ⟨a, h1, h3⟩ => ⟨_, ⟨a, h1, rfl⟩, h3⟩, fun ⟨v, ⟨a, h1, h3⟩, h4⟩ => ⟨a, h1, by subst h3; exact h4⟩⟩
  case slen => exact ⟨fun ⟨a, h1, h3⟩ => ⟨_, ⟨a, h1, rfl⟩, h3⟩, fun ⟨v, ⟨a, h1, h3⟩, h4⟩ => ⟨a, h1, by subst h3; exact h4⟩⟩
  case idx => exact ⟨fun ⟨a, h1, b, h2, v, h3, h4⟩ => ⟨v, ⟨a, h1, b, h2, h3⟩, h4⟩, fun ⟨v, ⟨a, h1, b, h2, h3⟩, h4⟩ => ⟨a, h1, b, h2, v, h3, h4⟩⟩
  case fld => exact ⟨fun ⟨a, h1, v, h3, h4⟩ => ⟨v, ⟨a, h1, h3⟩, h4⟩, fun ⟨v, ⟨a, h1, h3⟩, h4⟩ => ⟨a, h1, v, h3, h4⟩⟩
  case fldv => exact ⟨fun ⟨a, h1, v, h3, h4⟩ => ⟨v, ⟨a, h1, h3⟩, h4⟩, fun ⟨v, ⟨a, h1, h3⟩, h4⟩ => ⟨a, h1, v, h3, h4⟩⟩
  case ld => exact ⟨fun ⟨a, h1, v, h3, h4⟩ => ⟨v, ⟨a, h1, h3⟩, h4⟩, fun ⟨v, ⟨a, h1, h3⟩, h4⟩ => ⟨a, h1, v, h3, h4⟩⟩
  case nilck =>
    constructor
    · rintro ⟨a, h1, h3⟩
      split at h3
      · exact ⟨_, ⟨_, h1, rfl, trivial⟩, h3⟩
      · exact ⟨_, ⟨_, h1, rfl, trivial⟩, h3⟩
      · exact h3.elim
    · rintro ⟨v, ⟨a, h1, rfl, h3⟩, h4⟩
      refine ⟨v, h1, ?_⟩
      split at h3
      · exact h4
      · exact h4
      · exact h3.elim
  case alloc => exact ⟨fun h => ⟨_, rfl, h⟩, fun ⟨v, h1, h2⟩ => by subst h1; exact h2⟩
  case build => exact ⟨fun ⟨a, h1, b, h2, h3⟩ => ⟨_, ⟨a, h1, b, h2, rfl⟩, h3⟩, fun ⟨v, ⟨a, h1, b, h2, h3⟩, h4⟩ => ⟨a, h1, b, h2, by subst h3; exact h4⟩⟩
  case mks => exact ⟨fun ⟨a, h1, h2, h3⟩ => ⟨_, ⟨a, h1, h2, rfl⟩, h3⟩, fun ⟨v, ⟨a, h1, h2, h3⟩, h4⟩ => ⟨a, h1, h2, by subst h3; exact h4⟩⟩
  case sl => exact ⟨fun ⟨a, h1, b, h2, c, h3, v, h4, h5⟩ => ⟨v, ⟨a, h1, b, h2, c, h3, h4⟩, h5⟩, fun ⟨v, ⟨a, h1, b, h2, c, h3, h4⟩, h5⟩ => ⟨a, h1, b, h2, c, h3, v, h4, h5⟩⟩
  case ext => exact ⟨fun ⟨a, h1, v, h3, h4⟩ => ⟨v, ⟨a, h1, h3⟩, h4⟩, fun ⟨v, ⟨a, h1, h3⟩, h4⟩ => ⟨a, h1, v, h3, h4⟩⟩
  case call f args =>
    constructor
    · rintro ⟨fv, h1, h2⟩
      split at h2
      · obtain ⟨ts, h3, ts', r, h4, h5, h6, e', h7, h8⟩ := h2
        have := back_r args ts' hq h7
        subst this
        exact ⟨_, ⟨_, _, h1, ts, h3, ts', r, h4, h5, h6, rfl, back_len args ts' h7 hq⟩, h8⟩
      · exact h2.elim
    · rintro ⟨v, ⟨id, caps, h1, ts, h3, ts', r, h4, h5, h6, rfl, h7⟩, h8⟩
      exact ⟨_, h1, ts, h3, ts', r, h4, h5, h6, e, back_r' args ts' hq h7, h8⟩
  constructor
  · rintro ⟨a, h1, n, h2, h3⟩
    split at h3
    · obtain ⟨b, h4, h5⟩ := h3
      exact ⟨_, ⟨_, h1, n, h2, b, h4, rfl⟩, h5⟩
    · exact h3.elim
  · rintro ⟨v, ⟨a, h1, n, h2, h3⟩, h4⟩
    refine ⟨a, h1, n, h2, ?_⟩
    split at h3
    · obtain ⟨b, h5, rfl⟩ := h3
      exact ⟨b, h5, h4⟩
    · exact h3.elim

/-! ### What is not read may turn -/

/-- Slot d is not there, or new: nobody else names it. -/
def Off (e e' : Env) (d : Nat) : Prop := (∀ s, s ≠ d → e' s = e s) ∧ ∀ s x, s ≠ d → e s = some x → x.hits d [] = false

theorem Off.symm {e e' : Env} {d : Nat} (h : Off e e' d) : Off e' e d := ⟨fun s hs => (h.1 s hs).symm, fun s x hs hx => h.2 s x hs (by rw [← h.1 s hs]; exact hx)⟩

mutual
theorem peek_hits {s d : Nat} (hs : s ≠ d) : ∀ (t : T) (p : List Nat), (t.peek s p).hits d [] = false
  | .sc _, _ => rfl
  | .gone, _ => rfl
  | .nul, _ => rfl
  | .fn _ _, _ => rfl
  | .agg ts, p => by simp only [T.peek, V.hits]; exact peekL_hits hs ts p 0
  | .tup ts, p => by simp only [T.peek, V.hits]; exact peekL_hits hs ts p 0
  | .mem k s' ts, p => by
    cases k <;> cases s' <;> simp [T.peek, Ne.symm hs]
theorem peekL_hits {s d : Nat} (hs : s ≠ d) : ∀ (ts : List T) (p : List Nat) (i : Nat), V.hitsL d [] (T.peekL s p i ts) = false
  | [], _, _ => rfl
  | t :: ts, p, i => by simp only [T.peekL, V.hitsL, peek_hits hs t, peekL_hits hs ts, Bool.or_self]
end

def Opd.is (d : Nat) : Opd → Bool
  | .t n => n == d
  | _ => false

theorem opd_off {e e' : Env} {d : Nat} (h : Off e e' d) {x : Opd} (hx : x.is d = false) : e'.opd x = e.opd x := by
  cases x with
  | t n =>
    have hn : n ≠ d := by simpa [Opd.is] using hx
    simp only [Env.opd, Env.peek, h.1 n hn]
  | _ => rfl

theorem opd_hits {e e' : Env} {d : Nat} (h : Off e e' d) {x : Opd} (hx : x.is d = false) {v : V} (hv : e.opd x = some v) : v.hits d [] = false := by
  cases x with
  | t n =>
    have hn : n ≠ d := by simpa [Opd.is] using hx
    simp only [Env.opd, Env.peek] at hv
    split at hv
    · cases hv; exact peek_hits hn _ _
    · exact h.2 n v hn hv
  | c v => simp only [Env.opd, Option.some.injEq] at hv; subst hv; rfl
  | f id => simp only [Env.opd, Option.some.injEq] at hv; subst hv; rfl

theorem tree_off {e e' : Env} {d : Nat} (h : Off e e' d) {r : Nat} {p : List Nat} (hr : r ≠ d) : e'.tree r p = e.tree r p := by
  simp only [Env.tree, h.1 r hr]

theorem hits_ne {r d : Nat} {p : List Nat} (h : (d == r && List.isPrefixOf [] p) = false) : r ≠ d := fun e => by subst e; simp at h

theorem fld_off {e e' : Env} {d : Nat} (h : Off e e' d) {off : Nat} {v : V} (hv : v.hits d [] = false) : e'.fld off v = e.fld off v := by
  cases v with
  | pref r p o =>
    have hr : r ≠ d := hits_ne hv
    simp only [Env.fld, tree_off h hr]
  | val t => cases t <;> try rfl
             rename_i k s ts; cases s <;> rfl
  | _ => rfl

theorem ld_off {e e' : Env} {d : Nat} (h : Off e e' d) {n : Option Nat} {v : V} (hv : v.hits d [] = false) : e'.ld n v = e.ld n v := by
  cases v with
  | pref r p o =>
    have hr : r ≠ d := hits_ne hv
    simp only [Env.ld, tree_off h hr]
  | val t => cases t <;> try rfl
             rename_i k s ts; cases s <;> rfl
  | _ => rfl

mutual
theorem res_off {e e' : Env} {d : Nat} (h : Off e e' d) : ∀ v : V, v.hits d [] = false → e'.res v = e.res v
  | .val _, _ => rfl
  | .sref r p _ _ _, hv => by
    have hr : r ≠ d := hits_ne hv
    simp only [Env.res, tree_off h hr]
  | .pref r p _, hv => by
    have hr : r ≠ d := hits_ne hv
    simp only [Env.res, tree_off h hr]
  | .vagg vs, hv => by
    simp only [V.hits] at hv
    simp only [Env.res, resL_off h vs hv]
  | .vtup vs, hv => by
    simp only [V.hits] at hv
    simp only [Env.res, resL_off h vs hv]
theorem resL_off {e e' : Env} {d : Nat} (h : Off e e' d) : ∀ vs : List V, V.hitsL d [] vs = false → e'.resL vs = e.resL vs
  | [], _ => rfl
  | v :: vs, hv => by
    simp only [V.hitsL, Bool.or_eq_false_iff] at hv
    simp only [Env.resL, res_off h v hv.1, resL_off h vs hv.2]
end

theorem args_off {e e' : Env} {d : Nat} (h : Off e e' d) : ∀ xs : List (Opd × Mode), xs.all (fun x => !x.1.is d) = true → xs.all (fun x => x.2 == .r) = true → e'.args xs = e.args xs ∧ e'.lends xs = e.lends xs
  | [], _, _ => ⟨rfl, rfl⟩
  | (x, md) :: xs, h1, h2 => by
    simp only [List.all_cons, Bool.and_eq_true, beq_iff_eq, Bool.not_eq_true'] at h1 h2
    obtain ⟨rfl, h2⟩ := h2
    obtain ⟨r1, r2⟩ := args_off h xs (by simpa using h1.2) (by simpa using h2)
    have ho := opd_off h h1.1
    simp only [Env.args, Env.lends, ho, r1, r2]
    refine ⟨?_, trivial⟩
    cases hv : e.opd x with
    | none => rfl
    | some v => simp only [Option.bind_some, res_off h v (opd_hits h h1.1 hv)]

theorem parts_off {e e' : Env} {d : Nat} (h : Off e e' d) : ∀ xs : List (Nat × Nat × Opd), xs.all (fun x => !x.2.2.is d) = true → e'.parts xs = e.parts xs
  | [], _ => rfl
  | (i, n, x) :: xs, h1 => by
    simp only [List.all_cons, Bool.and_eq_true, Bool.not_eq_true'] at h1
    simp only [Env.parts, opd_off h h1.1, parts_off h xs (by simpa using h1.2)]

def optIs (d : Nat) : Option Opd → Bool
  | none => false
  | some x => x.is d

theorem optI_off {e e' : Env} {d : Nat} (h : Off e e' d) {x : Option Opd} (hx : optIs d x = false) : e'.optI x = e.optI x := by
  cases x with
  | none => rfl
  | some x => simp only [Env.optI, opd_off h (x := x) hx]

/-- Does it read slot d? -/
def Q.reads (d : Nat) : Q → Bool
  | .mv x | .mvw x | .un _ x | .conv _ x | .len x | .slen x | .fld _ x | .fldv _ _ x | .ld _ x | .nilck x | .ext x _ | .isnil _ x | .mks _ x | .asg x | .box x => x.is d
  | .pick c a b => c.is d || a.is d || b.is d
  | .bin _ x y | .beq _ x y | .idx _ x y | .at x y | .st _ x y | .sts x y | .app _ _ x y => x.is d || y.is d
  | .sl _ x lo hi => x.is d || optIs d lo || optIs d hi
  | .build _ ps => !ps.all (fun x => !x.2.2.is d)
  | .call f args => f.is d || !args.all (fun x => !x.1.is d)
  | .alloc _ => false
  | _ => true

theorem val_off {G : Rl} {e e' : Env} {d : Nat} (h : Off e e' d) {q : Q} (hq : q.simple = true) (hr : q.reads d = false) {v : V} (hv : q.val G e v) : q.val G e' v := by
  cases q <;> simp only [Q.simple] at hq <;> first | (cases hq; done) | skip
  case mv => simp only [Q.reads] at hr; simp only [Q.val] at hv ⊢; rw [opd_off h hr]; exact hv
  case mvw => simp only [Q.reads] at hr; simp only [Q.val] at hv ⊢; rw [opd_off h hr]; exact hv
  case pick c x y =>
    simp only [Q.reads, Bool.or_eq_false_iff] at hr
    simp only [Q.val] at hv ⊢
    obtain ⟨t, h1, h2⟩ := hv
    refine ⟨t, by rw [opd_off h hr.1.1]; exact h1, ?_⟩
    cases t
    · simp only [Bool.false_eq_true, if_false] at h2 ⊢; rw [opd_off h hr.2]; exact h2
    · simp only [if_true] at h2 ⊢; rw [opd_off h hr.1.2]; exact h2
  case bin => simp only [Q.reads, Bool.or_eq_false_iff] at hr; simp only [Q.val] at hv ⊢; rw [opd_off h hr.1, opd_off h hr.2]; exact hv
  case beq => simp only [Q.reads, Bool.or_eq_false_iff] at hr; simp only [Q.val] at hv ⊢; rw [opd_off h hr.1, opd_off h hr.2]; exact hv
  case isnil => simp only [Q.reads] at hr; simp only [Q.val] at hv ⊢; rw [opd_off h hr]; exact hv
  case un => simp only [Q.reads] at hr; simp only [Q.val] at hv ⊢; rw [opd_off h hr]; exact hv
  case conv => simp only [Q.reads] at hr; simp only [Q.val] at hv ⊢; rw [opd_off h hr]; exact hv
  case len => simp only [Q.reads] at hr; simp only [Q.val] at hv ⊢; rw [opd_off h hr]; exact hv
  case slen => simp only [Q.reads] at hr; simp only [Q.val] at hv ⊢; rw [opd_off h hr]; exact hv
  case idx => simp only [Q.reads, Bool.or_eq_false_iff] at hr; simp only [Q.val] at hv ⊢; rw [opd_off h hr.1, opd_off h hr.2]; exact hv
  case fld =>
    simp only [Q.reads] at hr
    simp only [Q.val] at hv ⊢
    rw [opd_off h hr]
    obtain ⟨a, h1, h2⟩ := hv
    exact ⟨a, h1, by rw [fld_off h (opd_hits h hr h1)]; exact h2⟩
  case fldv => simp only [Q.reads] at hr; simp only [Q.val] at hv ⊢; rw [opd_off h hr]; exact hv
  case ld =>
    simp only [Q.reads] at hr
    simp only [Q.val] at hv ⊢
    rw [opd_off h hr]
    obtain ⟨a, h1, h2⟩ := hv
    exact ⟨a, h1, by rw [ld_off h (opd_hits h hr h1)]; exact h2⟩
  case nilck => simp only [Q.reads] at hr; simp only [Q.val] at hv ⊢; rw [opd_off h hr]; exact hv
  case alloc => exact hv
  case build =>
    simp only [Q.reads, Bool.not_eq_false'] at hr
    simp only [Q.val] at hv ⊢
    rw [parts_off h _ hr]; exact hv
  case mks => simp only [Q.reads] at hr; simp only [Q.val] at hv ⊢; rw [opd_off h hr]; exact hv
  case sl =>
    simp only [Q.reads, Bool.or_eq_false_iff] at hr
    simp only [Q.val] at hv ⊢
    rw [opd_off h hr.1.1, optI_off h hr.1.2, optI_off h hr.2]; exact hv
  case ext => simp only [Q.reads] at hr; simp only [Q.val] at hv ⊢; rw [opd_off h hr]; exact hv
  case call f args =>
    simp only [Q.reads, Bool.or_eq_false_iff, Bool.not_eq_false'] at hr
    simp only [Q.val] at hv ⊢
    obtain ⟨h1, h2⟩ := args_off h args hr.2 hq
    rw [opd_off h hr.1, h1, h2]
    exact hv
  simp only [Q.reads, Bool.or_eq_false_iff] at hr; simp only [Q.val] at hv ⊢; rw [opd_off h hr.1, opd_off h hr.2]; exact hv

end Go.Mch
