/- The check that a compact operation is the model's, and the operations that only read. -/
import Derived.Test.YtkdoegjnnfmpaaaYbF
namespace Go.Mch

/-! ### The check -/

/-- The same constant, of a kind that is no memory. -/
def eqC : Value → Value → Bool
  | .int k n, .int k' n' => k == k' && n == n'
  | .bool b, .bool b' => b == b'
  | .string s, .string s' => s.data == s'.data
  | .slice none 0 0, .slice none 0 0 => true
  | .pointer none, .pointer none => true
  | .nilFunc, .nilFunc => true
  | .nilIface, .nilIface => true
  | .map none, .map none => true
  | _, _ => false

theorem eqC_spec {x y : Value} (h : eqC x y = true) : x = y ∧ scal x = true := by
  unfold eqC at h
  split at h <;> simp_all [scal]
  exact ByteArray.ext h

def eqCL : List Value → List Value → Bool
  | [], [] => true
  | x :: xs, y :: ys => eqC x y && eqCL xs ys
  | _, _ => false

theorem eqCL_spec : ∀ {xs ys : List Value}, eqCL xs ys = true → xs = ys ∧ ∀ x ∈ xs, scal x = true
  | [], [], _ => ⟨rfl, by simp⟩
  | x :: xs, y :: ys, h => by
    simp only [eqCL, Bool.and_eq_true] at h
    obtain ⟨rfl, h1⟩ := eqC_spec h.1
    obtain ⟨rfl, h2⟩ := eqCL_spec h.2
    exact ⟨rfl, by simpa using ⟨h1, h2⟩⟩
  | [], _ :: _, h => by simp [eqCL] at h
  | _ :: _, [], h => by simp [eqCL] at h

def okOpd (fm : Nat → Nat) : Opd → Operand → Bool
  | .t n, .tmp m => n == m
  | .c v, .const v' => eqC v v'
  | .f id, .func g => fm id == g
  | _, _ => false

def elOf (P : Program) (t : TypeId) : Option TypeId := match P.underlying t with | some (.slice e) => some e | _ => none
def szOf (P : Program) (t : TypeId) : Option Nat := (P.info? t).map (·.size)
def byOf (P : Program) (t : TypeId) : Option Nat := (P.info? t).map (·.bytes)
def zeroOf (P : Program) (t : TypeId) : Option (List Value) := ((P.info? t).bind (·.zero)).map fun z => z.cells.toList
def aggOf (P : Program) (t : TypeId) : Option Bool := (P.underlying t).map fun d => match d with | .struct _ | .array _ _ => true | _ => false
def fieldOf (P : Program) (t : TypeId) (i : Nat) : Option Field := match P.underlying t with | some (.struct fs) => fs[i]? | _ => none
/-- A value of type t in one cell (none) or as n cells. -/
def okN (P : Program) (t : TypeId) : Option Nat → Bool
  | none => aggOf P t == some false && szOf P t == some 1
  | some n => aggOf P t == some true && szOf P t == some n

theorem run_und {P : Program} {t : TypeId} {d : TypeDesc} {w : World} (h : P.underlying t = some d) : (underlying t).run P w = .ok d w := run_underlying h w

theorem elOf_spec {P : Program} {t e : TypeId} (h : elOf P t = some e) : P.underlying t = some (.slice e) := by
  unfold elOf at h; split at h <;> simp_all

theorem run_szOf {P : Program} {t : TypeId} {n : Nat} {w : World} (h : szOf P t = some n) : (sizeOf t).run P w = .ok n w := by
  unfold szOf at h
  cases hi : P.info? t with
  | none => rw [hi] at h; cases h
  | some i => rw [hi] at h; cases h; simp [sizeOf, typeInfo, hi]

theorem run_aggOf {P : Program} {t : TypeId} {b : Bool} {w : World} (h : aggOf P t = some b) : (isAgg t).run P w = .ok b w := by
  unfold aggOf at h
  cases hi : P.underlying t with
  | none => rw [hi] at h; cases h
  | some d =>
    rw [hi] at h
    simp only [Option.map_some, Option.some.injEq] at h
    subst h
    simp only [isAgg, Sem.run_bind, run_und hi, Result.andThen_ok]
    cases d <;> rfl

/-! ### A frame of the machine against a frame of the model -/

abbrev vlA (a : Act) : Vl := fun s => a.tmps.getD s undef

structure Rel (cx : Cx) (nt : Nat) (e : Env) (a : Act) (w : World) : Prop where
  r : R cx e (vlA a) w
  dom : ∀ j, nt ≤ j → e j = none
  size : a.tmps.size = nt
  defers : a.defers = []

abbrev AR (cx : Cx) (e : Env) (a : Act) (w : World) (v : Value) (x : V) : Prop := arep cx.fm (okR cx (Own e (vlA a) w)) e (vlA a) w v x

theorem Rel.clr {cx : Cx} {nt : Nat} {e : Env} {a : Act} {w : World} (h : Rel cx nt e a w) : Clr e nt := h.r.clr h.dom

theorem rep_sc {cx : Cx} {o : Nat → Prop} {w : World} {v x : Value} (h : Mch.rep cx.fm (okR cx o) w v (.sc x)) : v = x := h.1

theorem Rel.opd {cx : Cx} {nt : Nat} {e : Env} {a : Act} {w : World} (h : Rel cx nt e a w) {x : Opd} {y : Operand} {v : V} (ho : okOpd cx.fm x y = true) (he : e.opd x = some v) : AR cx e a w (a.eval y) v := by
  cases x with
  | t n =>
    cases y <;> simp only [okOpd] at ho <;> try cases ho
    rename_i m
    simp only [beq_iff_eq] at ho
    subst ho
    exact h.r.peek he
  | c u =>
    cases y <;> simp only [okOpd] at ho <;> try cases ho
    rename_i u'
    obtain ⟨rfl, h1⟩ := eqC_spec ho
    simp only [Env.opd, Option.some.injEq] at he
    subst he
    exact ⟨rfl, rfl, h1⟩
  | f id =>
    cases y <;> simp only [okOpd] at ho <;> try cases ho
    rename_i g
    simp only [beq_iff_eq] at ho
    simp only [Env.opd, Option.some.injEq] at he
    subst he
    refine ⟨rfl, ?_⟩
    simp only [Mch.rep]
    exact ⟨⟨#[], by simp [Act.eval, ho], rfl⟩, rfl, trivial⟩

theorem vlA_put {a : Act} {d : Nat} {v : Value} (hd : d < a.tmps.size) : vlA (a.put (some d) v) = vadd (vlA a) d v := by
  funext s
  simp only [vlA, Act.put, vadd, Array.getD_eq_getD_getElem?]
  by_cases hs : s = d
  · subst hs; simp [hd]
  · rw [Array.getElem?_setIfInBounds_ne (Ne.symm hs)]; simp [hs]

theorem del_some {e : Env} {d s : Nat} {x : V} (h : e.del d s = some x) : s ≠ d ∧ e s = some x ∧ x.hits d [] = false := by
  simp only [Env.del, Env.kill] at h
  split at h
  · cases h
  · rename_i hs
    cases hes : e s with
    | none => rw [hes] at h; cases h
    | some y =>
      rw [hes] at h
      simp only at h
      split at h
      · cases h
      · rename_i hh
        cases h
        exact ⟨hs, rfl, by simpa using hh⟩

theorem del_keep {e : Env} {d s : Nat} {x : V} (hs : s ≠ d) (h : e s = some x) (hh : x.hits d [] = false) : e.del d s = some x := by
  simp [Env.del, Env.kill, hs, h, hh]

theorem R.delR {cx : Cx} {e : Env} {vl : Vl} {w : World} (h : R cx e vl w) (d : Nat) : R cx (e.del d) vl w :=
  h.sub (fun s x hx => (del_some hx).2.1) (fun s x r hx hr => by
    obtain ⟨h1, h2, h3⟩ := del_some hx
    obtain ⟨t, ht⟩ := h.root h2 hr
    have hne : r ≠ d := fun e' => by subst e'; rw [h3] at hr; cases hr
    rw [ht]; exact del_keep hne ht rfl) (fun _ _ _ => rfl)

/-- A value that owns nothing lands in a slot. -/
theorem Rel.put {cx : Cx} {nt : Nat} {e : Env} {a : Act} {w : World} (h : Rel cx nt e a w) {d : Nat} (hd : d < nt) {v : Value} {x : V} (hx : AR cx e a w v x) : Rel cx nt (e.put d x) (a.put (some d) v) w := by
  refine ⟨?_, fun j hj => ?_, by simpa [Act.put] using h.size, h.defers⟩
  · rw [vlA_put (by rw [h.size]; exact hd)]
    have h1 := h.r.delR d
    cases hh : x.hits d [] with
    | true =>
      have : e.put d x = e.del d := by funext s; simp [Env.put, Env.del, hh]
      rw [this]
      exact h1.congr fun s y hy => vadd_ne (del_some hy).1
    | false =>
      have : e.put d x = (e.del d).add d x := by
        funext s
        simp only [Env.put, Env.del, Env.add, hh]
        by_cases hs : s = d <;> simp [hs]
      rw [this]
      refine h1.addA (by simp [Env.del]) ?_
      have hown : ∀ b, Own (e.del d) (vlA a) w b → Own e (vlA a) w b := fun b ⟨s, t, h2, h3⟩ => ⟨s, t, (del_some h2).2.1, h3⟩
      refine arep_gen (fun v t _ ht => rep_less hown ht) x v (fun r p hr => ?_) hx
      intro t k ts ht hp
      have hne : r ≠ d := fun e' => by subst e'; rw [isPrefixOf_trans_nil r p x hr] at hh; cases hh
      exact ⟨t, ts, del_keep hne ht rfl, hp, rfl, rfl⟩
  · simp only [Env.put, Env.kill]
    rw [if_neg (by omega), h.dom j hj]

/-- A float lands in a slot. -/
theorem R.land {cx : Cx} {e1 : Env} {vl : Vl} {w : World} {q d : Nat} {t : T} (h : R cx (e1.add q (.val t)) vl w) (hc : Clr e1 q) (hqd : d < q) : R cx (e1.put d (.val t)) (vadd vl d (vl q)) w := by
  obtain ⟨who, hw⟩ := h.who
  refine h.retag (q := q) (d := d) (touch := fun _ => False) (add_self ..) (fun _ _ _ => rfl) (fun _ h => h.elim) h.keeps ?_ (fun b => (hw q t (add_self ..) b).1) (fun b hb => .inl hb) (by simp [Env.put, V.hits]) (fun s x hs hx => ?_)
  · refine rep_less (fun b hb => ?_) (srep_val h (add_self ..))
    rcases hb with ⟨s, u, hs, hu, h1⟩ | h1
    · exact ⟨s, u, hu, h1⟩
    · exact ⟨q, t, add_self .., h1⟩
  · have hx' : e1.del d s = some x := by simpa [Env.put, Env.del, hs] using hx
    obtain ⟨h1, h2, h3⟩ := del_some hx'
    have hsq : s ≠ q := fun e' => by subst e'; rw [(hc s (Nat.le_refl _)).1] at h2; cases h2
    refine ⟨hsq, by rw [add_ne hsq]; exact h2, fun r hr => ?_⟩
    have hrd : r ≠ d := fun e' => by subst e'; rw [h3] at hr; cases hr
    have hrq : r ≠ q := fun e' => by subst e'; rw [(hc r (Nat.le_refl _)).2 s x h2] at hr; cases hr
    refine ⟨hrd, hrq, ?_⟩
    obtain ⟨u, hu⟩ := h.root (s := s) (x := x) (by rw [add_ne hsq]; exact h2) hr
    have hu' : e1 r = some (.val u) := by rwa [add_ne hrq] at hu
    rw [add_ne hrq, hu']
    simp [Env.put, hrd, Env.kill, hu', V.hits]

theorem Rel.land {cx : Cx} {nt : Nat} {e1 : Env} {a : Act} {w' : World} {vl : Vl} {d : Nat} {t : T} (hs : a.tmps.size = nt) (hf : a.defers = []) (h : R cx (e1.add nt (.val t)) vl w') (hc : Clr e1 nt) (hv : ∀ s, s < nt → vl s = vlA a s) (hd : d < nt) :
    Rel cx nt (e1.put d (.val t)) (a.put (some d) (vl nt)) w' := by
  have h1 := h.land hc hd
  have hdom : ∀ j, nt ≤ j → e1.put d (.val t) j = none := fun j hj => by
    simp only [Env.put, Env.kill]
    rw [if_neg (by omega), (hc j hj).1]
  refine ⟨?_, hdom, by simpa [Act.put] using hs, hf⟩
  rw [vlA_put (by rw [hs]; exact hd)]
  refine h1.congr fun s x hx => ?_
  have hlt : s < nt := by
    rcases Nat.lt_or_ge s nt with h2 | h2
    · exact h2
    · rw [hdom s h2] at hx; cases hx
  by_cases hsd : s = d
  · subst hsd; rw [vadd_self, vadd_self]
  · rw [vadd_ne hsd, vadd_ne hsd]; exact (hv s hlt).symm

/-- What an operation must do. -/
def Good (P : Program) (cx : Cx) (nt : Nat) (K : Env → Prop) (o : Oper) (a : Act) (w : World) : Prop :=
  ∀ Qx : Exit → Act → World → Prop, o.wp P a w (fun a' w' => ∃ e', K e' ∧ Rel cx nt e' a' w') Qx

theorem good_value {P : Program} {cx : Cx} {nt : Nat} {K : Env → Prop} {o : Oper} {a : Act} {w w' : World} {v : Value} {e' : Env} (hrun : (execOp a.eval o).run P w = .ok (.value v) w') (hK : K e') (hr : Rel cx nt e' (a.put o.dst v) w') : Good P cx nt K o a w := by
  intro Qx
  unfold Oper.wp
  rw [hrun]
  exact ⟨e', hK, hr⟩

theorem good_skip {P : Program} {cx : Cx} {nt : Nat} {K : Env → Prop} {o : Oper} {a : Act} {w w' : World} {e' : Env} (hrun : (execOp a.eval o).run P w = .ok .skip w') (hK : K e') (hr : Rel cx nt e' (a.put o.dst undef) w') : Good P cx nt K o a w := by
  intro Qx
  unfold Oper.wp
  rw [hrun]
  exact ⟨e', hK, hr⟩

/-- An operation that only reads. -/
theorem good_read {P : Program} {cx : Cx} {nt : Nat} {K : Env → Prop} {o : Oper} {a : Act} {w : World} {e : Env} {d : Nat} {v : Value} {x : V} (h : Rel cx nt e a w) (hd : o.dst = some d) (hlt : d < nt)
    (hrun : (execOp a.eval o).run P w = .ok (.value v) w) (hx : AR cx e a w v x) (hK : K (e.setD (some d) x)) : Good P cx nt K o a w :=
  good_value hrun hK (by rw [hd]; exact h.put hlt hx)

theorem ar_sc {cx : Cx} {e : Env} {a : Act} {w : World} {v x : Value} (h : AR cx e a w v (.val (.sc x))) : v = x := h.2.1

theorem ar_mk {cx : Cx} {e : Env} {a : Act} {w : World} {x : Value} (h : scal x = true) : AR cx e a w x (.val (.sc x)) := ⟨rfl, rfl, h⟩

theorem asB_spec {o : Option V} {b : Bool} (h : o.bind asB = some b) : o = some (.val (.sc (.bool b))) := by
  cases o with
  | none => cases h
  | some v =>
    simp only [Option.bind_some] at h
    unfold asB at h
    split at h
    · cases h; rfl
    · cases h

theorem asI_spec {o : Option V} {n : Int} (h : o.bind asI = some n) : ∃ k, o = some (.val (.sc (.int k n))) := by
  cases o with
  | none => cases h
  | some v =>
    simp only [Option.bind_some] at h
    unfold asI at h
    split at h
    · cases h; exact ⟨_, rfl⟩
    · cases h

theorem i64_wrap {n : Int} (h1 : -9223372036854775808 ≤ n) (h2 : n ≤ 9223372036854775807) : IntKind.i64.wrap n = n := by
  rw [IntKind.wrap_i64]; omega

theorem arith_spec {k : IntKind} {n : Int} {v : Value} (h : arith k n = some v) : v = .int k (k.wrap n) := by
  unfold arith at h
  split at h
  · rename_i hk
    subst hk
    split at h
    · rename_i hn
      cases h
      rw [i64_wrap hn.1 hn.2]
    · cases h
  · cases h; rfl

theorem eqGuard_int {P : Program} {w : World} {op : BinOp} {t : TypeId} {x y : Operand} {k k' : IntKind} {a b : Int} : (eqGuard op t x y (.int k a) (.int k' b)).run P w = .ok () w := by
  unfold eqGuard
  cases op <;> rfl

theorem binSc_spec {op : BinOp} {k : IntKind} {a b : Int} {v : Value} (h : binSc op k a b = some v) (P : Program) (w : World) (t : TypeId) : (binOp op t (.int k a) (.int k b)).run P w = .ok v w ∧ scal v = true := by
  cases op <;> simp only [binSc] at h <;> first | cases h | skip
  case add => rw [arith_spec h]; exact ⟨by simp [binOp, Op.intArith], rfl⟩
  case sub => rw [arith_spec h]; exact ⟨by simp [binOp, Op.intArith], rfl⟩
  case mul => rw [arith_spec h]; exact ⟨by simp [binOp, Op.intArith], rfl⟩
  case quo =>
    split at h
    · cases h
    · rename_i hb; rw [arith_spec h]; exact ⟨by simp [binOp, Op.intDiv, hb], rfl⟩
  case rem =>
    split at h
    · cases h
    · rename_i hb; cases h; exact ⟨by simp [binOp, Op.intDiv, hb], rfl⟩
  all_goals exact ⟨by simp [binOp, Op.intCmp], rfl⟩

end Go.Mch
