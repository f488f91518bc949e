/- Our texts YbW YbX YbY YbZ YcA YcB YcC, end to end. -/
import Derived.Test.YtpaklggigidikaaGreatM3
import Derived.Orders
namespace Go.Mch

def okG (ops : Array Oper) : Option (Nat × Bool) → Option (Nat × Bool) → Bool
 | none, none => true
 | some (s, b), some (j, b') => ((ops[j]?).bind (·.dst)) == some s && b == b'
 | _, _ => false

def okO (P : Program) (fm : Nat → Nat) (nt : Nat) (ops : Array Oper) (o : O) (x : Oper) : Bool :=
 o.d == x.dst && okG ops o.g x.guard && okDst nt o.q x.dst && okQ P fm o.q x.op

def okOps (P : Program) (fm : Nat → Nat) (nt : Nat) (ops : Array Oper) : List O → List Oper → Bool
 | [], [] => true
 | ⟨d, g, .freeze _⟩ :: l, xs => d.isNone && g.isNone && okOps P fm nt ops l xs
 | ⟨d, g, .settle _⟩ :: l, xs => d.isNone && g.isNone && okOps P fm nt ops l xs
 | o :: l, x :: xs => okO P fm nt ops o x && okOps P fm nt ops l xs
 | _, _ => false

section
variable {P : Program} {cx : Cx} {nt : Nat} {Kt : Env → Prop} {a : Act} {w : World} {e : Env} {G : Rl} {m : K}

theorem Rel.putU (h : Rel cx nt e a w) {d : Option Nat} (hd : d.all (fun d => decide (d < nt)) = true) : Rel cx nt (e.setD d j03) (a.put d undef) w := by
 cases d with
 | none => exact h
 | some d => exact h.put (by simpa using hd) ⟨rfl, rfl⟩

theorem okDst_all {q : Q} {d : Option Nat} (h : okDst nt q d = true) : d.all (fun d => decide (d < nt)) = true := by
 cases d with
 | none => rfl
 | some d =>
  unfold okDst at h
  split at h <;> simp_all

def Does (P : Program) (ops : Array Oper) (cx : Cx) (nt : Nat) (K : Env → Prop) (x : Oper) (a : Act) (w : World) : Prop :=
 if Region.wanted x (yielded ops a.tmps) then Good P cx nt K x a w else ∃ e', K e' ∧ Rel cx nt e' (a.put x.dst undef) w

theorem stepO_sound (hG : ∀ f args args' r, G f args args' r → Pact P cx.fm f args args' r) (hN : ∀ b, ¬ cx.N b) (hm : m ≠ .own) (hm2 : m = .fresh → ∀ b, ¬ cx.M b) {ops : Array Oper} (h : Rel cx nt e a w)
 {o : O} {x : Oper} (ho : okO P cx.fm nt ops o x = true) (hs : j1c G m o Kt e) : Does P ops cx nt Kt x a w := by
 simp only [okO, Bool.and_eq_true, beq_iff_eq] at ho
 obtain ⟨⟨⟨hd, hg⟩, hdst⟩, hq⟩ := ho
 obtain ⟨d, g, q⟩ := o
 simp only at hd hg hq hdst
 subst hd
 unfold Does
 unfold j1c at hs
 cases g with
 | none =>
  simp only at hs
  have hxg : x.guard = none := by
   cases hh : x.guard with
   | none => rfl
   | some y => rw [hh] at hg; simp [okG] at hg
  simp only [Region.wanted, hxg, if_true]
  exact stepQ_sound hG hN hm hm2 h hq hdst hs
 | some sb =>
  obtain ⟨s, b⟩ := sb
  simp only at hs
  cases hxg : x.guard with
  | none => rw [hxg] at hg; simp [okG] at hg
  | some jb =>
   obtain ⟨j, b'⟩ := jb
   rw [hxg] at hg
   simp only [okG, Bool.and_eq_true, beq_iff_eq] at hg
   obtain ⟨hj, rfl⟩ := hg
   have hval : ∀ t, e s = some (.val t) → s < nt ∧ Mch.rep cx.fm (okR cx (Own e (vlA a) w)) w (vlA a s) t := fun t ht => by
    refine ⟨?_, j0k h.r ht⟩
    rcases Nat.lt_or_ge s nt with h' | h'
    · exact h'
    · rw [h.dom s h'] at ht; cases ht
   have hy : ∀ t, e s = some (.val t) → yielded ops a.tmps j = match vlA a s with | .bool b => some b | _ => none := fun t ht => by
    obtain ⟨hlt, _⟩ := hval t ht
    have hlt' : s < a.tmps.size := by rw [h.size]; exact hlt
    simp only [yielded, hj, Option.bind_some, vlA, Array.getD_eq_getD_getElem?, Array.getElem?_eq_getElem hlt', Option.getD_some]
    cases a.tmps[s] <;> rfl
   split at hs
   · rename_i b' hes
     obtain ⟨_, hr⟩ := hval _ hes
     have hv : vlA a s = .bool b' := hr.1
     simp only [Region.wanted, hxg, hy _ hes, hv]
     by_cases hb : b' = b
     · rw [if_pos hb] at hs
       rw [if_pos (by simp [hb])]
       exact stepQ_sound hG hN hm hm2 h hq hdst hs
     · rw [if_neg hb] at hs
       rw [if_neg (by simpa using hb)]
       exact ⟨_, hs, h.putU (okDst_all hdst)⟩
   · rename_i hes
     obtain ⟨_, hr⟩ := hval _ hes
     have hv : vlA a s = undef := hr
     have hu : (match vlA a s with | .bool b => some b | _ => none) = (none : Option Bool) := by rw [hv]; rfl
     simp only [Region.wanted, hxg, hy _ hes, hu]
     rw [if_neg (by simp)]
     exact ⟨_, hs, h.putU (okDst_all hdst)⟩
   · exact hs.elim

def Fx (fx : List Nat) (f0 : Vl) (a : Act) : Prop := ∀ s, s ∈ fx → vlA a s = f0 s

def offO (fx : List Nat) (o : O) : Bool := o.d.all fun d => !fx.contains d

theorem wp_put {o : Oper} {K : Act → World → Prop} {Q : Exit → Act → World → Prop} (h : o.wp P a w K Q) : o.wp P a w (fun a' w' => K a' w' ∧ ∃ v ds, a' = ({ a with defers := ds }).put o.dst v) Q := by
 unfold Oper.wp at *
 generalize (execOp a.eval o).run P w = r at *
 cases r with
 | ok n w' =>
  cases n <;> simp only [Oper.upon] at h ⊢ <;>
   first
    | exact ⟨h, _, a.defers, rfl⟩
    | exact ⟨h, _, _, rfl⟩
    | exact Calls.mono h (fun e w'' he => by cases e <;> first | exact ⟨he, _, a.defers, rfl⟩ | exact he)
    | exact Rows.mono h (fun _ _ he => ⟨he, _, a.defers, rfl⟩)
 | halt x w' => cases x <;> simp only [Oper.upon] at h ⊢ <;> exact h

theorem Fx.put {fx : List Nat} {f0 : Vl} (h : Fx fx f0 a) {d : Option Nat} (hd : d.all (fun d => !fx.contains d) = true) (v : Value) (ds : List Deferred) : Fx fx f0 (({ a with defers := ds }).put d v) := by
 intro s hs
 rw [← h s hs]
 cases d with
 | none => rfl
 | some d =>
  have hne : s ≠ d := fun e' => by subst e'; simp [hs] at hd
  simp only [vlA, Act.put, Array.getD_eq_getD_getElem?]
  rw [Array.getElem?_setIfInBounds_ne (Ne.symm hne)]

theorem row_sound (hG : ∀ f args args' r, G f args args' r → Pact P cx.fm f args args' r) (hN : ∀ b, ¬ cx.N b) (hm : m ≠ .own) (hm2 : m = .fresh → ∀ b, ¬ cx.M b) {ops : Array Oper} {Q : Exit → Act → World → Prop} {fx : List Nat} {f0 : Vl}
 (hQ : ∀ e a w, Kt e → Rel cx nt e a w → Fx fx f0 a → Q .normal a w) : ∀ (l : List O) (xs : List Oper) (i : Nat) (e : Env) (a : Act) (w : World), okOps P cx.fm nt ops l xs = true → l.all (offO fx) = true → Fx fx f0 a → (∀ j, j < xs.length → ops[i + j]? = xs[j]?) →
  Rel cx nt e a w → wpL G m l Kt e → wpOps P ops Q (List.range' i xs.length) a w
 | [], [], i, e, a, w, _, _, hf, _, h, hw => hQ e a w hw h hf
 | [], _ :: _, _, _, _, _, ho, _, _, _, _, _ => by simp [okOps] at ho
 | ⟨d, g, q⟩ :: l, xs, i, e, a, w, ho, hof, hf, hx, h, hw => by
  simp only [List.all_cons, Bool.and_eq_true] at hof
  by_cases hfr : ∃ s, q = .freeze s
  · obtain ⟨s, rfl⟩ := hfr
    simp only [okOps, Bool.and_eq_true, Option.isNone_iff_eq_none] at ho
    obtain ⟨⟨rfl, rfl⟩, ho⟩ := ho
    simp only [wpL, j1c, j0m, j0c] at hw
    obtain ⟨e', h1, h2⟩ := hw
    exact row_sound hG hN hm hm2 hQ l xs i e' a w ho (by simpa using hof.2) hf hx (h.freeze hN hm hm2 h1) h2
  by_cases hfr2 : ∃ s, q = .settle s
  · obtain ⟨s, rfl⟩ := hfr2
    simp only [okOps, Bool.and_eq_true, Option.isNone_iff_eq_none] at ho
    obtain ⟨⟨rfl, rfl⟩, ho⟩ := ho
    simp only [wpL, j1c, j0m, j0c] at hw
    obtain ⟨e', h1, h2⟩ := hw
    exact row_sound hG hN hm hm2 hQ l xs i e' a w ho (by simpa using hof.2) hf hx (h.settle h1) h2
  · cases xs with
    | nil => cases q <;> first | (simp [okOps] at ho; done) | exact (hfr ⟨_, rfl⟩).elim | exact (hfr2 ⟨_, rfl⟩).elim
    | cons x xs =>
     have ho' : okO P cx.fm nt ops ⟨d, g, q⟩ x = true ∧ okOps P cx.fm nt ops l xs = true := by
      cases q <;> first | (simp only [okOps, Bool.and_eq_true] at ho; exact ho) | exact (hfr ⟨_, rfl⟩).elim | exact (hfr2 ⟨_, rfl⟩).elim
     have hstep := stepO_sound hG hN hm hm2 h ho'.1 hw
     have hi : ops[i]? = some x := by have := hx 0 (by simp); simpa using this
     have hdx : x.dst.all (fun d => !fx.contains d) = true := by
      have h1 := ho'.1
      simp only [okO, Bool.and_eq_true, beq_iff_eq] at h1
      rw [← h1.1.1.1]
      exact hof.1
     have hrec : ∀ e a w, wpL G m l Kt e → Rel cx nt e a w → Fx fx f0 a → wpOps P ops Q (List.range' (i + 1) xs.length) a w := fun e a w he hr hf =>
      row_sound hG hN hm hm2 hQ l xs (i + 1) e a w ho'.2 (by simpa using hof.2) hf (fun j hj => by
       have := hx (j + 1) (by simpa using hj)
       rw [show i + 1 + j = i + (j + 1) from by omega, this]
       rfl) hr he
     simp only [List.length_cons, List.range'_succ, wpOps, hi]
     unfold Does at hstep
     split
     · rename_i hwt
       rw [if_pos hwt] at hstep
       exact .inl (Oper.wp_mono (fun a' w' ⟨⟨e', h1, h2⟩, v, ds, h3⟩ => hrec e' a' w' h1 h2 (h3 ▸ hf.put hdx v ds)) (wp_put (hstep Q)))
     · rename_i hwt
       rw [if_neg hwt] at hstep
       obtain ⟨e', h1, h2⟩ := hstep
       exact hrec e' _ w h1 h2 (hf.put hdx undef a.defers)

end
end Go.Mch
namespace Go.Mch

def Q.simple : Q → Bool
 | .mv _ | .mvw _ | .pick .. | .bin .. | .beq .. | .isnil .. | .un .. | .conv .. | .len _ | .slen _ | .idx .. | .at .. | .fld .. | .fldv .. | .ld .. | .nilck _ | .alloc _ | .build .. | .mks .. | .bslv .. | .bslw .. | .mvs _ | .sl .. | .ext .. | .exts .. | .mm .. => true
 | .call _ args => args.all (fun x => x.2 == .r)
 | _ => false

theorem binV_sc {op : BinOp} {x y v : V} (h : binV op x y = some v) : (∃ z, v = .val (.sc z)) ∧ (∃ a, x = .val (.sc a)) ∧ ∃ b, y = .val (.sc b) := by
 unfold binV at h
 split at h
 · split at h
   · rw [Option.map_eq_some_iff] at h; obtain ⟨z, _, rfl⟩ := h; exact ⟨⟨z, rfl⟩, ⟨_, rfl⟩, ⟨_, rfl⟩⟩
   · rw [Option.map_eq_some_iff] at h; obtain ⟨z, _, rfl⟩ := h; exact ⟨⟨z, rfl⟩, ⟨_, rfl⟩, ⟨_, rfl⟩⟩
 · cases h
def Q.val (G : Rl) (q : Q) (e : Env) (v : V) : Prop :=
 match q with
 | .mv x => e.opd x = some v
 | .mvw x => e.opd x = some v ∧ v.j4f = true
 | .pick c a b => ∃ t, (e.opd c).bind asB = some t ∧ e.opd (if t then a else b) = some v
 | .bin op x y => ∃ a, e.opd x = some a ∧ ∃ b, e.opd y = some b ∧ binV op a b = some v
 | .beq neg x y => ∃ a, (e.opd x).bind asB = some a ∧ ∃ b, (e.opd y).bind asB = some b ∧ v = .val (.sc (.bool ((a == b) != neg)))
 | .isnil neg x => ∃ b, (e.opd x).bind V.isNil = some b ∧ v = .val (.sc (.bool (b != neg)))
 | .un op x => ∃ a, e.opd x = some a ∧ unV op a = some v
 | .conv k x => ∃ n, (e.opd x).bind asI = some n ∧ v = .val (.sc (.int k (k.wrap n)))
 | .len x => ∃ n, (e.opd x).bind lenV = some n ∧ v = .val (.sc (.int .i64 n))
 | .slen x => ∃ n, (e.opd x).bind slenV = some n ∧ v = .val (.sc (.int .i64 n))
 | .idx sz x i => ∃ a, e.opd x = some a ∧ ∃ n, (e.opd i).bind asI = some n ∧ idxV sz a n = some v
 | .at x i => ∃ a, e.opd x = some a ∧ ∃ n, (e.opd i).bind asI = some n ∧ (match a with
  | .val (.sc (.string s)) => ∃ b, (if 0 ≤ n then s[n.toNat]? else none) = some b ∧ v = .val (.sc (.int .u8 b.toNat))
  | _ => False)
 | .fld off x => ∃ a, e.opd x = some a ∧ e.fld off a = some v
 | .fldv off n x => ∃ a, e.opd x = some a ∧ fldvV off n a = some v
 | .ld n a => ∃ p, e.opd a = some p ∧ e.ld n p = some v
 | .nilck x => ∃ a, e.opd x = some a ∧ v = a ∧ (match a with
  | .pref .. => True
  | .val (.mem _ none _) => True
  | _ => False)
 | .alloc zs => v = .val (.mem .own none (zs.map .sc))
 | .build zs parts => ∃ ps, e.parts parts = some ps ∧ ∃ vs, j2l (zs.map fun z => .val (.sc z)) ps = some vs ∧ v = .vagg vs
 | .mks z n => ∃ k, (e.opd n).bind asI = some k ∧ (0 ≤ k ∧ k ≤ (roomy : Int)) ∧ v = .val (.mem .own (some 1) (List.replicate k.toNat (.sc z)))
 | .sl sz x lo hi => ∃ a, e.opd x = some a ∧ ∃ l, e.optI lo = some l ∧ ∃ h, e.optI hi = some h ∧ slV sz a l h = some v
 | .ext x i => ∃ a, e.opd x = some a ∧ extV i a = some v
 | .exts n i => ∃ x, e n = some x ∧ ∃ z, x.scAt i = some z ∧ v = .val (.sc z)
 | .bslv sz ps => ∃ vs, e.opds ps = some vs ∧ ∃ ts, V.cells sz vs = some ts ∧ v = .val (.mem .own (some sz) ts)
 | .bslw sz ps => ∃ vs, e.opds ps = some vs ∧ ∃ ts, V.cells sz vs = some ts ∧ v = .val (.mem .old (some sz) (T.frzL .old ts))
 | .mvs n => ∃ x, e n = some x ∧ ∃ ts, x.boxT = some ts ∧ v = .same n
 | .mm mx x y => ∃ a, e.opd x = some a ∧ ∃ b, e.opd y = some b ∧ mmV mx a b = some v
 | .call f args => ∃ id caps, e.opd f = some (.val (.fn id caps)) ∧ ∃ ts, e.args args = some ts ∧ ∃ ts' r, G id (ts ++ T.eryL .old caps) (ts' ++ T.eryL .old caps) r ∧ ts'.length = ts.length ∧ (e.j6p args = true → r.noOld = true ∧ args.all (fun x => x.2 == .r) = true) ∧ v = .val r ∧ args.length = ts'.length
 | _ => False

theorem back_r' : ∀ (xs : List (Opd × Mode)) (ts : List T) {e : Env}, xs.all (fun x => x.2 == .r) = true → xs.length = ts.length → e.back xs ts = some e
 | [], [], _, _, _ => rfl
 | (x, md) :: xs, t :: ts, e, hm, h => by
  simp only [List.all_cons, Bool.and_eq_true, beq_iff_eq] at hm
  obtain ⟨rfl, hm⟩ := hm
  simp only [Env.back]
  exact back_r' xs ts (by simpa using hm) (by simpa using h)
 | [], _ :: _, _, _, h => by simp at h
 | _ :: _, [], _, _, h => by simp at h

theorem back_len : ∀ (xs : List (Opd × Mode)) (ts : List T) {e e' : Env}, e.back xs ts = some e' → xs.all (fun x => x.2 == .r) = true → xs.length = ts.length
 | [], [], _, _, _, _ => rfl
 | (x, md) :: xs, t :: ts, e, e', h, hm => by
  simp only [List.all_cons, Bool.and_eq_true, beq_iff_eq] at hm
  obtain ⟨rfl, hm⟩ := hm
  simp only [Env.back] at h
  simp [back_len xs ts h (by simpa using hm)]
 | [], _ :: _, _, _, h, _ => by simp [Env.back] at h
 | (_, .r) :: _, [], _, _, h, _ => by simp [Env.back] at h
 | (_, .w) :: _, [], _, _, h, _ => by simp [Env.back] at h
 | (_, .m) :: _, [], _, _, h, _ => by simp [Env.back] at h

theorem j3r {G : Rl} {m : K} {d : Option Nat} {q : Q} {Kt : Env → Prop} {e : Env} (hq : q.simple = true) : j0m G m d q Kt e ↔ ∃ v, q.val G e v ∧ Kt (e.setD d v) := by
 cases q <;> simp only [Q.simple] at hq <;> first | (cases hq; done) | skip
 case mv => exact Iff.rfl
 case mvw => exact ⟨fun ⟨v, h1, h2, h3⟩ => ⟨v, ⟨h1, h2⟩, h3⟩, fun ⟨v, ⟨h1, h2⟩, h3⟩ => ⟨v, h1, h2, h3⟩⟩
 case pick =>
  exact ⟨fun ⟨t, h1, v, h2, h3⟩ => ⟨v, ⟨t, h1, h2⟩, h3⟩, fun ⟨v, ⟨t, h1, h2⟩, h3⟩ => ⟨t, h1, v, h2, h3⟩⟩
 case bin => exact ⟨fun ⟨a, h1, b, h2, v, h3, h4⟩ => ⟨v, ⟨a, h1, b, h2, h3⟩, h4⟩, fun ⟨v, ⟨a, h1, b, h2, h3⟩, h4⟩ => ⟨a, h1, b, h2, v, h3, h4⟩⟩
 case beq => exact ⟨fun ⟨a, h1, b, h2, h3⟩ => ⟨_, ⟨a, h1, b, h2, rfl⟩, h3⟩, fun ⟨v, ⟨a, h1, b, h2, h3⟩, h4⟩ => ⟨a, h1, b, h2, by subst h3; exact h4⟩⟩
 case isnil => exact ⟨fun ⟨a, h1, h3⟩ => ⟨_, ⟨a, h1, rfl⟩, h3⟩, fun ⟨v, ⟨a, h1, h3⟩, h4⟩ => ⟨a, h1, by subst h3; exact h4⟩⟩
 case bslv => exact ⟨fun ⟨a, h1, b, h2, h3⟩ => ⟨_, ⟨a, h1, b, h2, rfl⟩, h3⟩, fun ⟨v, ⟨a, h1, b, h2, h3⟩, h4⟩ => ⟨a, h1, b, h2, by subst h3; exact h4⟩⟩
 case bslw => exact ⟨fun ⟨a, h1, b, h2, h3⟩ => ⟨_, ⟨a, h1, b, h2, rfl⟩, h3⟩, fun ⟨v, ⟨a, h1, b, h2, h3⟩, h4⟩ => ⟨a, h1, b, h2, by subst h3; exact h4⟩⟩
 case mvs => exact ⟨fun ⟨a, h1, b, h2, h3⟩ => ⟨_, ⟨a, h1, b, h2, rfl⟩, h3⟩, fun ⟨v, ⟨a, h1, b, h2, h3⟩, h4⟩ => ⟨a, h1, b, h2, by subst h3; exact h4⟩⟩
 case exts => exact ⟨fun ⟨a, h1, b, h2, h3⟩ => ⟨_, ⟨a, h1, b, h2, rfl⟩, h3⟩, fun ⟨v, ⟨a, h1, b, h2, h3⟩, h4⟩ => ⟨a, h1, b, h2, by subst h3; exact h4⟩⟩
 case mm => exact ⟨fun ⟨a, h1, b, h2, v, h3, h4⟩ => ⟨v, ⟨a, h1, b, h2, h3⟩, h4⟩, fun ⟨v, ⟨a, h1, b, h2, h3⟩, h4⟩ => ⟨a, h1, b, h2, v, h3, h4⟩⟩
 case un => exact ⟨fun ⟨a, h1, v, h3, h4⟩ => ⟨v, ⟨a, h1, h3⟩, h4⟩, fun ⟨v, ⟨a, h1, h3⟩, h4⟩ => ⟨a, h1, v, h3, h4⟩⟩
 case conv => exact ⟨fun ⟨a, h1, h3⟩ => ⟨_, ⟨a, h1, rfl⟩, h3⟩, fun ⟨v, ⟨a, h1, h3⟩, h4⟩ => ⟨a, h1, by subst h3; exact h4⟩⟩
 case len => exact ⟨fun ⟨a, h1, h3⟩ => ⟨_, ⟨a, h1, rfl⟩, h3⟩, fun ⟨v, ⟨a, h1, h3⟩, h4⟩ => ⟨a, h1, by subst h3; exact h4⟩⟩
 case slen => exact ⟨fun ⟨a, h1, h3⟩ => ⟨_, ⟨a, h1, rfl⟩, h3⟩, fun ⟨v, ⟨a, h1, h3⟩, h4⟩ => ⟨a, h1, by subst h3; exact h4⟩⟩
 case idx => exact ⟨fun ⟨a, h1, b, h2, v, h3, h4⟩ => ⟨v, ⟨a, h1, b, h2, h3⟩, h4⟩, fun ⟨v, ⟨a, h1, b, h2, h3⟩, h4⟩ => ⟨a, h1, b, h2, v, h3, h4⟩⟩
 case fld => exact ⟨fun ⟨a, h1, v, h3, h4⟩ => ⟨v, ⟨a, h1, h3⟩, h4⟩, fun ⟨v, ⟨a, h1, h3⟩, h4⟩ => ⟨a, h1, v, h3, h4⟩⟩
 case fldv => exact ⟨fun ⟨a, h1, v, h3, h4⟩ => ⟨v, ⟨a, h1, h3⟩, h4⟩, fun ⟨v, ⟨a, h1, h3⟩, h4⟩ => ⟨a, h1, v, h3, h4⟩⟩
 case ld => exact ⟨fun ⟨a, h1, v, h3, h4⟩ => ⟨v, ⟨a, h1, h3⟩, h4⟩, fun ⟨v, ⟨a, h1, h3⟩, h4⟩ => ⟨a, h1, v, h3, h4⟩⟩
 case nilck =>
  constructor
  · rintro ⟨a, h1, h3⟩
    split at h3
    · exact ⟨_, ⟨_, h1, rfl, trivial⟩, h3⟩
    · exact ⟨_, ⟨_, h1, rfl, trivial⟩, h3⟩
    · exact h3.elim
  · rintro ⟨v, ⟨a, h1, rfl, h3⟩, h4⟩
    refine ⟨v, h1, ?_⟩
    split at h3
    · exact h4
    · exact h4
    · exact h3.elim
 case alloc => exact ⟨fun h => ⟨_, rfl, h⟩, fun ⟨v, h1, h2⟩ => by subst h1; exact h2⟩
 case build => exact ⟨fun ⟨a, h1, b, h2, h3⟩ => ⟨_, ⟨a, h1, b, h2, rfl⟩, h3⟩, fun ⟨v, ⟨a, h1, b, h2, h3⟩, h4⟩ => ⟨a, h1, b, h2, by subst h3; exact h4⟩⟩
 case mks => exact ⟨fun ⟨a, h1, h2, h3⟩ => ⟨_, ⟨a, h1, h2, rfl⟩, h3⟩, fun ⟨v, ⟨a, h1, h2, h3⟩, h4⟩ => ⟨a, h1, h2, by subst h3; exact h4⟩⟩
 case sl => exact ⟨fun ⟨a, h1, b, h2, c, h3, v, h4, h5⟩ => ⟨v, ⟨a, h1, b, h2, c, h3, h4⟩, h5⟩, fun ⟨v, ⟨a, h1, b, h2, c, h3, h4⟩, h5⟩ => ⟨a, h1, b, h2, c, h3, v, h4, h5⟩⟩
 case ext => exact ⟨fun ⟨a, h1, v, h3, h4⟩ => ⟨v, ⟨a, h1, h3⟩, h4⟩, fun ⟨v, ⟨a, h1, h3⟩, h4⟩ => ⟨a, h1, v, h3, h4⟩⟩
 case call f args =>
  constructor
  · rintro ⟨fv, h1, h2⟩
    split at h2
    · obtain ⟨ts, h3, ts', r, h4, h5, h6, e', h7, h8⟩ := h2
      have := back_r args ts' hq h7
      subst this
      exact ⟨_, ⟨_, _, h1, ts, h3, ts', r, h4, h5, h6, rfl, back_len args ts' h7 hq⟩, h8⟩
    · exact h2.elim
  · rintro ⟨v, ⟨id, caps, h1, ts, h3, ts', r, h4, h5, h6, rfl, h7⟩, h8⟩
    exact ⟨_, h1, ts, h3, ts', r, h4, h5, h6, e, back_r' args ts' hq h7, h8⟩
 constructor
 · rintro ⟨a, h1, n, h2, h3⟩
   split at h3
   · obtain ⟨b, h4, h5⟩ := h3
     exact ⟨_, ⟨_, h1, n, h2, b, h4, rfl⟩, h5⟩
   · exact h3.elim
 · rintro ⟨v, ⟨a, h1, n, h2, h3⟩, h4⟩
   refine ⟨a, h1, n, h2, ?_⟩
   split at h3
   · obtain ⟨b, h5, rfl⟩ := h3
     exact ⟨b, h5, h4⟩
   · exact h3.elim


def Off (e e' : Env) (d : Nat) : Prop := (∀ s, s ≠ d → e' s = e s) ∧ ∀ s x, s ≠ d → e s = some x → x.hits d [] = false

theorem Off.symm {e e' : Env} {d : Nat} (h : Off e e' d) : Off e' e d := ⟨fun s hs => (h.1 s hs).symm, fun s x hs hx => h.2 s x hs (by rw [← h.1 s hs]; exact hx)⟩

mutual
theorem j7x {s d : Nat} (hs : s ≠ d) : ∀ (t : T) (p : List Nat), (t.peek s p).hits d [] = false
 | .sc _, _ => rfl
 | .gone, _ => rfl
 | .nul, _ => rfl
 | .fn _ _, _ => rfl
 | .agg ts, p => by simp only [T.peek, V.hits]; exact j7y hs ts p 0
 | .tup ts, p => by simp only [T.peek, V.hits]; exact j7y hs ts p 0
 | .mem k s' ts, p => by
  cases k <;> cases s' <;> simp [T.peek, Ne.symm hs]
 | .set ks, p => by
  simp only [T.peek]
  split
  · simp only [V.hits, beq_eq_false_iff_ne.2 (Ne.symm hs), Bool.false_and]
  · rfl
theorem j7y {s d : Nat} (hs : s ≠ d) : ∀ (ts : List T) (p : List Nat) (i : Nat), V.j1m d [] (T.j4h s p i ts) = false
 | [], _, _ => rfl
 | t :: ts, p, i => by simp only [T.j4h, V.j1m, j7x hs t, j7y hs ts, Bool.or_self]
end

def Opd.is (d : Nat) : Opd → Bool
 | .t n => n == d
 | _ => false

theorem j0y {e e' : Env} {d : Nat} (h : Off e e' d) {x : Opd} (hx : x.is d = false) : e'.opd x = e.opd x := by
 cases x with
 | t n =>
  have hn : n ≠ d := by simpa [Opd.is] using hx
  simp only [Env.opd, Env.peek, h.1 n hn]
 | _ => rfl

theorem opd_hits {e e' : Env} {d : Nat} (h : Off e e' d) {x : Opd} (hx : x.is d = false) {v : V} (hv : e.opd x = some v) : v.hits d [] = false := by
 cases x with
 | t n =>
  have hn : n ≠ d := by simpa [Opd.is] using hx
  simp only [Env.opd, Env.peek] at hv
  split at hv
  · cases hv; exact j7x hn _ _
  · exact h.2 n v hn hv
 | c v => simp only [Env.opd, Option.some.injEq] at hv; subst hv; rfl
 | f id => simp only [Env.opd, Option.some.injEq] at hv; subst hv; rfl

theorem tree_off {e e' : Env} {d : Nat} (h : Off e e' d) {r : Nat} {p : List Nat} (hr : r ≠ d) : e'.tree r p = e.tree r p := by
 simp only [Env.tree, h.1 r hr]

theorem j6q {r d : Nat} {p : List Nat} (h : (d == r && List.isPrefixOf [] p) = false) : r ≠ d := fun e => by subst e; simp at h

theorem fld_off {e e' : Env} {d : Nat} (h : Off e e' d) {off : Nat} {v : V} (hv : v.hits d [] = false) : e'.fld off v = e.fld off v := by
 cases v with
 | pref r p o =>
  have hr : r ≠ d := j6q hv
  simp only [Env.fld, tree_off h hr]
 | val t => cases t <;> try rfl
            rename_i k s ts; cases s <;> rfl
 | _ => rfl

theorem ld_off {e e' : Env} {d : Nat} (h : Off e e' d) {n : Option Nat} {v : V} (hv : v.hits d [] = false) : e'.ld n v = e.ld n v := by
 cases v with
 | pref r p o =>
  have hr : r ≠ d := j6q hv
  simp only [Env.ld, tree_off h hr]
 | val t => cases t <;> try rfl
            rename_i k s ts; cases s <;> rfl
 | _ => rfl

mutual
theorem res_off {e e' : Env} {d : Nat} (h : Off e e' d) : ∀ v : V, v.hits d [] = false → e'.res v = e.res v
 | .val _, _ => rfl
 | .sref r p _ _ _, hv => by
  have hr : r ≠ d := j6q hv
  simp only [Env.res, tree_off h hr]
 | .pref r p _, hv => by
  have hr : r ≠ d := j6q hv
  simp only [Env.res, tree_off h hr]
 | .vagg vs, hv => by
  simp only [V.hits] at hv
  simp only [Env.res, resL_off h vs hv]
 | .vtup vs, hv => by
  simp only [V.hits] at hv
  simp only [Env.res, resL_off h vs hv]
 | .same _, _ => rfl
 | .vfn f r, hv => by
  have hr : r ≠ d := fun e => by subst e; simp [V.hits] at hv
  simp only [Env.res, tree_off h hr]
theorem resL_off {e e' : Env} {d : Nat} (h : Off e e' d) : ∀ vs : List V, V.j1m d [] vs = false → e'.resL vs = e.resL vs
 | [], _ => rfl
 | v :: vs, hv => by
  simp only [V.j1m, Bool.or_eq_false_iff] at hv
  simp only [Env.resL, res_off h v hv.1, resL_off h vs hv.2]
end

theorem args_off {e e' : Env} {d : Nat} (h : Off e e' d) : ∀ xs : List (Opd × Mode), xs.all (fun x => !x.1.is d) = true → xs.all (fun x => x.2 == .r) = true → e'.args xs = e.args xs ∧ e'.j6p xs = e.j6p xs
 | [], _, _ => ⟨rfl, rfl⟩
 | (x, md) :: xs, h1, h2 => by
  simp only [List.all_cons, Bool.and_eq_true, beq_iff_eq, Bool.not_eq_true'] at h1 h2
  obtain ⟨rfl, h2⟩ := h2
  obtain ⟨r1, r2⟩ := args_off h xs (by simpa using h1.2) (by simpa using h2)
  have ho := j0y h h1.1
  simp only [Env.args, Env.j6p, ho, r1, r2]
  refine ⟨?_, trivial⟩
  cases hv : e.opd x with
  | none => rfl
  | some v => simp only [Option.bind_some, res_off h v (opd_hits h h1.1 hv)]

theorem parts_off {e e' : Env} {d : Nat} (h : Off e e' d) : ∀ xs : List (Nat × Nat × Opd), xs.all (fun x => !x.2.2.is d) = true → e'.parts xs = e.parts xs
 | [], _ => rfl
 | (i, n, x) :: xs, h1 => by
  simp only [List.all_cons, Bool.and_eq_true, Bool.not_eq_true'] at h1
  simp only [Env.parts, j0y h h1.1, parts_off h xs (by simpa using h1.2)]

theorem opds_off {e e' : Env} {d : Nat} (h : Off e e' d) : ∀ xs : List Opd, xs.all (fun x => !x.is d) = true → e'.opds xs = e.opds xs
 | [], _ => rfl
 | x :: xs, h1 => by
  simp only [List.all_cons, Bool.and_eq_true, Bool.not_eq_true'] at h1
  simp only [Env.opds, j0y h h1.1, opds_off h xs (by simpa using h1.2)]

def optIs (d : Nat) : Option Opd → Bool
 | none => false
 | some x => x.is d

theorem optI_off {e e' : Env} {d : Nat} (h : Off e e' d) {x : Option Opd} (hx : optIs d x = false) : e'.optI x = e.optI x := by
 cases x with
 | none => rfl
 | some x => simp only [Env.optI, j0y h (x := x) hx]

def Q.reads (d : Nat) : Q → Bool
 | .mv x | .mvw x | .un _ x | .conv _ x | .len x | .slen x | .fld _ x | .fldv _ _ x | .ld _ x | .nilck x | .ext x _ | .isnil _ x | .mks _ x | .asg x | .box x => x.is d
 | .pick c a b => c.is d || a.is d || b.is d
 | .bin _ x y | .beq _ x y | .mm _ x y | .idx _ x y | .at x y | .st _ x y | .sts x y | .app _ _ x y => x.is d || y.is d
 | .stsw a x y => a.is d || x.is d || y == d
 | .sl _ x lo hi => x.is d || optIs d lo || optIs d hi
 | .build _ ps => !ps.all (fun x => !x.2.2.is d)
 | .call f args => f.is d || !args.all (fun x => !x.1.is d)
 | .bsl1 n => n == d
 | .tk1 _ n | .exts n _ | .mvs n => n == d
 | .calls f x n xs => f.is d || x.is d || n == d || !xs.all (fun x => !x.is d)
 | .bsls _ _ _ ps | .bslv _ ps | .bslw _ ps => !ps.all (fun x => !x.is d)
 | .alloc _ => false
 | _ => true

theorem val_off {G : Rl} {e e' : Env} {d : Nat} (h : Off e e' d) {q : Q} (hq : q.simple = true) (hr : q.reads d = false) {v : V} (hv : q.val G e v) : q.val G e' v := by
 cases q <;> simp only [Q.simple] at hq <;> first | (cases hq; done) | skip
 case mv => simp only [Q.reads] at hr; simp only [Q.val] at hv ⊢; rw [j0y h hr]; exact hv
 case mvw => simp only [Q.reads] at hr; simp only [Q.val] at hv ⊢; rw [j0y h hr]; exact hv
 case pick c x y =>
  simp only [Q.reads, Bool.or_eq_false_iff] at hr
  simp only [Q.val] at hv ⊢
  obtain ⟨t, h1, h2⟩ := hv
  refine ⟨t, by rw [j0y h hr.1.1]; exact h1, ?_⟩
  cases t
  · simp only [Bool.false_eq_true, if_false] at h2 ⊢; rw [j0y h hr.2]; exact h2
  · simp only [if_true] at h2 ⊢; rw [j0y h hr.1.2]; exact h2
 case bin => simp only [Q.reads, Bool.or_eq_false_iff] at hr; simp only [Q.val] at hv ⊢; rw [j0y h hr.1, j0y h hr.2]; exact hv
 case beq => simp only [Q.reads, Bool.or_eq_false_iff] at hr; simp only [Q.val] at hv ⊢; rw [j0y h hr.1, j0y h hr.2]; exact hv
 case bslv =>
  simp only [Q.reads, Bool.not_eq_false'] at hr
  simp only [Q.val] at hv ⊢
  rw [opds_off h _ hr]; exact hv
 case bslw =>
  simp only [Q.reads, Bool.not_eq_false'] at hr
  simp only [Q.val] at hv ⊢
  rw [opds_off h _ hr]; exact hv
 case mvs => simp only [Q.reads, beq_eq_false_iff_ne, ne_eq] at hr; simp only [Q.val] at hv ⊢; rw [h.1 _ hr]; exact hv
 case mm => simp only [Q.reads, Bool.or_eq_false_iff] at hr; simp only [Q.val] at hv ⊢; rw [j0y h hr.1, j0y h hr.2]; exact hv
 case isnil => simp only [Q.reads] at hr; simp only [Q.val] at hv ⊢; rw [j0y h hr]; exact hv
 case un => simp only [Q.reads] at hr; simp only [Q.val] at hv ⊢; rw [j0y h hr]; exact hv
 case conv => simp only [Q.reads] at hr; simp only [Q.val] at hv ⊢; rw [j0y h hr]; exact hv
 case len => simp only [Q.reads] at hr; simp only [Q.val] at hv ⊢; rw [j0y h hr]; exact hv
 case slen => simp only [Q.reads] at hr; simp only [Q.val] at hv ⊢; rw [j0y h hr]; exact hv
 case idx => simp only [Q.reads, Bool.or_eq_false_iff] at hr; simp only [Q.val] at hv ⊢; rw [j0y h hr.1, j0y h hr.2]; exact hv
 case fld =>
  simp only [Q.reads] at hr
  simp only [Q.val] at hv ⊢
  rw [j0y h hr]
  obtain ⟨a, h1, h2⟩ := hv
  exact ⟨a, h1, by rw [fld_off h (opd_hits h hr h1)]; exact h2⟩
 case fldv => simp only [Q.reads] at hr; simp only [Q.val] at hv ⊢; rw [j0y h hr]; exact hv
 case ld =>
  simp only [Q.reads] at hr
  simp only [Q.val] at hv ⊢
  rw [j0y h hr]
  obtain ⟨a, h1, h2⟩ := hv
  exact ⟨a, h1, by rw [ld_off h (opd_hits h hr h1)]; exact h2⟩
 case nilck => simp only [Q.reads] at hr; simp only [Q.val] at hv ⊢; rw [j0y h hr]; exact hv
 case alloc => exact hv
 case build =>
  simp only [Q.reads, Bool.not_eq_false'] at hr
  simp only [Q.val] at hv ⊢
  rw [parts_off h _ hr]; exact hv
 case mks => simp only [Q.reads] at hr; simp only [Q.val] at hv ⊢; rw [j0y h hr]; exact hv
 case sl =>
  simp only [Q.reads, Bool.or_eq_false_iff] at hr
  simp only [Q.val] at hv ⊢
  rw [j0y h hr.1.1, optI_off h hr.1.2, optI_off h hr.2]; exact hv
 case exts => simp only [Q.reads, beq_eq_false_iff_ne, ne_eq] at hr; simp only [Q.val] at hv ⊢; rw [h.1 _ hr]; exact hv
 case ext => simp only [Q.reads] at hr; simp only [Q.val] at hv ⊢; rw [j0y h hr]; exact hv
 case call f args =>
  simp only [Q.reads, Bool.or_eq_false_iff, Bool.not_eq_false'] at hr
  simp only [Q.val] at hv ⊢
  obtain ⟨h1, h2⟩ := args_off h args hr.2 hq
  rw [j0y h hr.1, h1, h2]
  exact hv
 simp only [Q.reads, Bool.or_eq_false_iff] at hr; simp only [Q.val] at hv ⊢; rw [j0y h hr.1, j0y h hr.2]; exact hv

end Go.Mch
namespace Go.Mch

mutual
theorem peek_noOwn {s d : Nat} : ∀ (t : T) (p : List Nat), t.j0r = true → (t.peek s p).hits d [] = false
 | .sc _, _, _ => rfl
 | .gone, _, _ => rfl
 | .nul, _, _ => rfl
 | .fn _ _, _, _ => rfl
 | .agg ts, p, h => by simp only [T.j0r] at h; simp only [T.peek, V.hits]; exact peekL_noOwn ts p 0 h
 | .tup ts, p, h => by simp only [T.j0r] at h; simp only [T.peek, V.hits]; exact peekL_noOwn ts p 0 h
 | .mem k s' ts, p, h => by
  cases k <;> cases s' <;> simp_all [T.peek, T.j0r]
theorem peekL_noOwn {s d : Nat} : ∀ (ts : List T) (p : List Nat) (i : Nat), T.j0l ts = true → V.j1m d [] (T.j4h s p i ts) = false
 | [], _, _, _ => rfl
 | t :: ts, p, i, h => by
  simp only [T.j0l, Bool.and_eq_true] at h
  simp only [T.j4h, V.j1m, peek_noOwn t _ h.1, peekL_noOwn ts _ _ h.2, Bool.or_self]
end

def j2t (D : Nat → Prop) (e : Env) : Prop := ∀ d, D d → (∀ z, e d = some z → ∃ t, z = .val t ∧ t.j0r = true) ∧ ∀ s x, e s = some x → x.hits d [] = false

theorem j2t.opd {D : Nat → Prop} {e : Env} (h : j2t D e) {d : Nat} (hd : D d) {x : Opd} {v : V} (hv : e.opd x = some v) : v.hits d [] = false := by
 cases x with
 | t n =>
  simp only [Env.opd, Env.peek] at hv
  split at hv
  · rename_i t ht
    cases hv
    by_cases hn : n = d
    · subst hn
      obtain ⟨u, hu, hn⟩ := (h n hd).1 _ ht
      cases hu
      exact peek_noOwn _ _ hn
    · exact j7x hn _ _
  · exact (h d hd).2 n v hv
 | c v => simp only [Env.opd, Option.some.injEq] at hv; subst hv; rfl
 | f id => simp only [Env.opd, Option.some.injEq] at hv; subst hv; rfl

theorem j2t.setD {D : Nat → Prop} {e : Env} (h : j2t D e) {d : Option Nat} (hd : ∀ x, d = some x → ¬ D x) {v : V} (hv : ∀ d, D d → v.hits d [] = false) : j2t D (e.setD d v) := by
 cases d with
 | none => exact h
 | some x =>
  intro d' hd'
  have hne : d' ≠ x := fun e' => hd x rfl (e' ▸ hd')
  obtain ⟨h1, h2⟩ := h d' hd'
  refine ⟨fun t ht => ?_, fun s y hy => ?_⟩
  · simp only [Env.setD, Env.put, if_neg hne, Env.kill] at ht
    cases hes : e d' with
    | none => rw [hes] at ht; cases ht
    | some z =>
     rw [hes] at ht
     simp only at ht
     split at ht
     · cases ht
     · cases ht; exact h1 _ hes
  simp only [Env.setD, Env.put] at hy
  split at hy
  · split at hy
    · cases hy
    · cases hy; exact hv d' hd'
  · simp only [Env.kill] at hy
    cases hes : e s with
    | none => rw [hes] at hy; cases hy
    | some z =>
     rw [hes] at hy
     simp only at hy
     split at hy
     · cases hy
     · cases hy; exact h2 s _ hes

theorem j2t.of_some {D : Nat → Prop} {e e1 : Env} (h : j2t D e) (h1 : ∀ s x, e1 s = some x → e s = some x ∨ ((∃ t, x = .val t) ∧ ∃ t, e s = some (.val t) ∧ t.j0r = false)) : j2t D e1 := by
 intro d hd
 obtain ⟨g1, g2⟩ := h d hd
 refine ⟨fun t ht => ?_, fun s x hx => ?_⟩
 · rcases h1 d _ ht with h2 | ⟨_, t', h2, h3⟩
   · exact g1 t h2
   · obtain ⟨u, hu, hn⟩ := g1 _ h2
     cases hu
     rw [hn] at h3; cases h3
 · rcases h1 s x hx with h2 | ⟨⟨t, rfl⟩, _⟩
   · exact g2 s x h2
   · rfl

theorem fillV_hits {d : Nat} : ∀ (ps : List (Nat × Nat × V)) (vs out : List V), j2l vs ps = some out → V.j1m d [] vs = false → (∀ p, p ∈ ps → p.2.2.hits d [] = false) → V.j1m d [] out = false
 | [], vs, out, h, h1, _ => by simp only [j2l, Option.some.injEq] at h; subst h; exact h1
 | (i, n, x) :: ps, vs, out, h, h1, h2 => by
  have hL : ∀ vs : List V, V.j1m d [] vs = false ↔ ∀ v, v ∈ vs → v.hits d [] = false := by
   intro vs
   induction vs with
   | nil => simp [V.j1m]
   | cons v vs ih => simp [V.j1m, ih]
  have hx := h2 (i, n, x) (by simp)
  simp only at hx
  have hseg : ∀ us : List V, V.j1m d [] us = false → V.j1m d [] (vs.take i ++ us ++ vs.drop (i + n)) = false := by
   intro us hus
   rw [hL] at h1 hus ⊢
   intro v hv
   simp only [List.mem_append] at hv
   rcases hv with (hv | hv) | hv
   · exact h1 v (List.mem_of_mem_take hv)
   · exact hus v hv
   · exact h1 v (List.mem_of_mem_drop hv)
  have hrec : ∀ us : List V, V.j1m d [] us = false → j2l (vs.take i ++ us ++ vs.drop (i + n)) ps = some out → V.j1m d [] out = false := fun us hus hf =>
   fillV_hits ps _ out hf (hseg us hus) fun p hp => h2 p (by simp [hp])
  have one : j2l (vs.take i ++ [x] ++ vs.drop (i + n)) ps = some out → V.j1m d [] out = false := hrec [x] (by simp [V.j1m, hx])
  cases x with
  | vagg us =>
   simp only [j2l] at h
   split at h
   · exact hrec us (by simpa [V.hits] using hx) h
   · cases h
  | vtup us => simp [j2l] at h
  | same r => simp [j2l] at h
  | vfn f r => simp [j2l] at h
  | sref r p sz off len =>
   simp only [j2l] at h
   split at h
   · exact one h
   · cases h
  | pref r p off =>
   simp only [j2l] at h
   split at h
   · exact one h
   · cases h
  | val t =>
   cases t <;> simp only [j2l] at h <;> first | (cases h; done) | (split at h <;> first | exact one h | (cases h; done))

theorem parts_mem {e : Env} : ∀ (xs : List (Nat × Nat × Opd)) {ps : List (Nat × Nat × V)}, e.parts xs = some ps → ∀ p, p ∈ ps → ∃ x, e.opd x = some p.2.2
 | [], ps, h, p, hp => by simp only [Env.parts, Option.some.injEq] at h; subst h; simp at hp
 | (i, n, x) :: xs, ps, h, p, hp => by
  simp only [Env.parts] at h
  cases hx : e.opd x with
  | none => rw [hx] at h; cases h
  | some v =>
   rw [hx] at h
   simp only [Option.bind_some, Option.map_eq_some_iff] at h
   obtain ⟨ps', h1, rfl⟩ := h
   rcases List.mem_cons.1 hp with rfl | hp
   · exact ⟨x, hx⟩
   · exact parts_mem xs h1 p hp

theorem hitsL_mem {d : Nat} : ∀ {vs : List V} {v : V}, V.j1m d [] vs = false → v ∈ vs → v.hits d [] = false
 | u :: vs, v, h, hv => by
  simp only [V.j1m, Bool.or_eq_false_iff] at h
  rcases List.mem_cons.1 hv with rfl | hv
  · exact h.1
  · exact hitsL_mem h.2 hv

theorem hitsL_of {d : Nat} : ∀ {vs : List V}, (∀ v, v ∈ vs → v.hits d [] = false) → V.j1m d [] vs = false
 | [], _ => rfl
 | v :: vs, h => by simp only [V.j1m, h v (by simp), hitsL_of (vs := vs) fun v hv => h v (by simp [hv]), Bool.or_self]

theorem j4u {G : Rl} {e : Env} {D : Nat → Prop} (h : j2t D e) {d : Nat} (hd : D d) {q : Q} {v : V} (hv : q.val G e v) : v.hits d [] = false := by
 cases q <;> simp only [Q.val] at hv <;> try exact hv.elim
 case mv => exact h.opd hd hv
 case mvw => exact h.opd hd hv.1
 case pick => obtain ⟨t, _, h2⟩ := hv; exact h.opd hd h2
 case bin =>
  obtain ⟨a, _, b, _, h3⟩ := hv
  obtain ⟨⟨_, rfl⟩, _, _⟩ := binV_sc h3
  rfl
 case beq => obtain ⟨a, _, b, _, rfl⟩ := hv; rfl
 case isnil => obtain ⟨b, _, rfl⟩ := hv; rfl
 case un =>
  obtain ⟨a, _, h3⟩ := hv
  unfold unV at h3
  split at h3
  · split at h3
    · cases h3; rfl
    · cases h3
  · split at h3
    · rw [Option.map_eq_some_iff] at h3; obtain ⟨_, _, rfl⟩ := h3; rfl
    · cases h3
  · cases h3
 case conv => obtain ⟨b, _, rfl⟩ := hv; rfl
 case len => obtain ⟨b, _, rfl⟩ := hv; rfl
 case slen => obtain ⟨b, _, rfl⟩ := hv; rfl
 case idx =>
  obtain ⟨a, h1, n, _, h3⟩ := hv
  have h4 := h.opd hd h1
  unfold idxV at h3
  split at h3
  · split at h3
    · cases h3; rfl
    · cases h3
  · split at h3
    · cases h3; exact h4
    · cases h3
  · cases h3
 case fld =>
  obtain ⟨a, h1, h3⟩ := hv
  have h4 := h.opd hd h1
  unfold Env.fld at h3
  split at h3
  · split at h3
    · cases h3; rfl
    · cases h3
  · split at h3
    · split at h3
      · cases h3; exact h4
      · cases h3
    · cases h3
  · cases h3
 case fldv =>
  obtain ⟨a, h1, h3⟩ := hv
  have h4 := h.opd hd h1
  unfold fldvV at h3
  split at h3
  · simp only [V.hits] at h4
    split at h3
    · exact hitsL_mem h4 (List.mem_of_getElem? h3)
    · split at h3
      · cases h3
        simp only [V.hits]
        exact hitsL_of fun v hv => hitsL_mem h4 (List.mem_of_mem_drop (List.mem_of_mem_take hv))
      · cases h3
  · cases h3
 case ld =>
  obtain ⟨a, h1, h3⟩ := hv
  have h4 := h.opd hd h1
  unfold Env.ld at h3
  split at h3
  · split at h3
    · rw [Option.map_eq_some_iff] at h3; obtain ⟨_, _, rfl⟩ := h3; rfl
    · split at h3
      · cases h3
        simp only [V.hits]
        exact hitsL_of fun v hv => by obtain ⟨t, _, rfl⟩ := List.mem_map.1 hv; rfl
      · cases h3
  · have hr := j6q h4
    split at h3
    · split at h3
      · rw [Option.map_eq_some_iff] at h3; obtain ⟨_, _, rfl⟩ := h3; exact j7x hr _ _
      · split at h3
        · cases h3; simp only [V.hits]; exact j7y hr _ _ _
        · cases h3
    · cases h3
  · cases h3
 case nilck => obtain ⟨a, h1, rfl, _⟩ := hv; exact h.opd hd h1
 case alloc => subst hv; rfl
 case build =>
  obtain ⟨ps, h1, vs, h2, rfl⟩ := hv
  simp only [V.hits]
  refine fillV_hits ps _ vs h2 (hitsL_of fun v hv => by obtain ⟨t, _, rfl⟩ := List.mem_map.1 hv; rfl) fun p hp => ?_
  obtain ⟨x, hx⟩ := parts_mem _ h1 p hp
  exact h.opd hd hx
 case mks => obtain ⟨k, _, _, rfl⟩ := hv; rfl
 case sl =>
  obtain ⟨a, h1, l, _, hh, _, h3⟩ := hv
  have h4 := h.opd hd h1
  unfold slV at h3
  split at h3
  · simp only at h3
    split at h3
    · cases h3; rfl
    · cases h3
  · simp only at h3
    split at h3
    · cases h3; exact h4
    · cases h3
  · split at h3
    · cases h3; rfl
    · cases h3
  · cases h3
 case exts => obtain ⟨_, _, _, _, rfl⟩ := hv; rfl
 case bslv => obtain ⟨_, _, _, _, rfl⟩ := hv; rfl
 case bslw => obtain ⟨_, _, _, _, rfl⟩ := hv; rfl
 case mvs n =>
  obtain ⟨x, h1, ts, h2, rfl⟩ := hv
  have hne : d ≠ n := fun h0 => by
   subst h0
   obtain ⟨t, h3, h4⟩ := (h d hd).1 x h1
   subst h3
   cases t with
   | mem k s us =>
    simp only [V.boxT] at h2
    split at h2
    · rename_i heq
      cases heq
      simp [T.j0r] at h4
    · cases h2
   | _ => cases h2
  simp [V.hits, hne]
 case mm =>
  obtain ⟨a, _, b, _, h3⟩ := hv
  unfold mmV at h3
  split at h3
  · split at h3
    · cases h3; rfl
    · cases h3
  · cases h3
 case ext =>
  obtain ⟨a, h1, h3⟩ := hv
  have h4 := h.opd hd h1
  unfold extV at h3
  split at h3
  · simp only [V.hits] at h4
    exact hitsL_mem h4 (List.mem_of_getElem? h3)
  · cases h3
 case call =>
  obtain ⟨_, _, _, _, _, _, _, _, _, _, rfl, _⟩ := hv
  rfl
 obtain ⟨a, h1, n, _, h3⟩ := hv
 split at h3
 · obtain ⟨b, _, rfl⟩ := h3; rfl
 · exact h3.elim

end Go.Mch
namespace Go.Mch

def Less (e e1 : Env) : Prop := ∀ s x, e1 s = some x → e s = some x ∨ ((∃ t, x = .val t) ∧ ∃ t, e s = some (.val t) ∧ t.j0r = false)

theorem Less.refl (e : Env) : Less e e := fun _ _ h => .inl h
theorem Less.trans {e e1 e2 : Env} (h1 : Less e e1) (h2 : Less e1 e2) : Less e e2 := fun s x hx => by
 rcases h2 s x hx with h | ⟨ht, t, hy, hn⟩
 · exact h1 s x h
 · rcases h1 s _ hy with h | ⟨_, t', hz, hn'⟩
   · exact .inr ⟨ht, t, h, hn⟩
   · exact .inr ⟨ht, t', hz, hn'⟩

theorem j7j (e : Env) (r : Nat) : Less e (e.del r) := fun _ _ h => .inl (del_some h).2.1

theorem noOwn_kids {t : T} (h : t.j0r = true) : T.j0l t.kids = true := by
 cases t with
 | mem k s ts => cases k <;> simp_all [T.j0r, T.kids]
 | agg ts => simpa [T.j0r, T.kids] using h
 | tup ts => simpa [T.j0r, T.kids] using h
 | _ => rfl

theorem at_noOwn : ∀ (p : List Nat) {t u : T}, t.j0r = true → t.at p = some u → u.j0r = true
 | [], t, u, h, hp => by simp only [T.at, Option.some.injEq] at hp; subst hp; exact h
 | i :: p, t, u, h, hp => by
  simp only [T.at] at hp
  cases hi : t.kids[i]? with
  | none => rw [hi] at hp; cases hp
  | some c =>
   rw [hi] at hp
   exact at_noOwn p (j61 (noOwn_kids h) hi) hp

theorem tree_own {e : Env} {r : Nat} {p : List Nat} {s : Option Nat} {ts : List T} (h : e.tree r p = some (.mem .own s ts)) : ∃ t, e r = some (.val t) ∧ t.j0r = false := by
 obtain ⟨t, h1, h2⟩ := j2o h
 refine ⟨t, h1, ?_⟩
 cases hn : t.j0r with
 | false => rfl
 | true => have := at_noOwn p hn h2; simp [T.j0r] at this

theorem less_clear {e : Env} {r : Nat} {p : List Nat} {s : Option Nat} {ts : List T} (h : e.tree r p = some (.mem .own s ts)) : Less e (e.clear r p) := by
 obtain ⟨t, h1, h2⟩ := tree_own h
 cases p with
 | nil => exact j7j e r
 | cons i p =>
  intro s' y hy
  rcases j31 h1 hy with ⟨rfl, rfl⟩ | ⟨_, h4, _⟩
  · exact .inr ⟨⟨_, rfl⟩, t, h1, h2⟩
  · exact .inl h4

mutual
theorem less_take : ∀ (v : V) (e : Env) {t : T} {e1 : Env}, e.take v = some (t, e1) → Less e e1
 | .val u, e, t, e1, h => by
  simp only [Env.take] at h
  split at h
  · cases h; exact Less.refl e
  · cases h
 | .sref r p sz off len, e, t, e1, h => by
  simp only [Env.take] at h
  split at h
  · rename_i htr
    split at h
    · cases h; exact less_clear htr
    · cases h
  · cases h
 | .pref r p off, e, t, e1, h => by
  simp only [Env.take] at h
  split at h
  · rename_i htr
    split at h
    · cases h; exact less_clear htr
    · cases h
  · cases h
 | .vagg vs, e, t, e1, h => by
  simp only [Env.take] at h
  cases htl : e.j06 vs with
  | none => rw [htl] at h; cases h
  | some y => rw [htl] at h; cases h; exact less_takeL vs e htl
 | .vtup vs, e, t, e1, h => by
  simp only [Env.take] at h
  cases htl : e.j06 vs with
  | none => rw [htl] at h; cases h
  | some y => rw [htl] at h; cases h; exact less_takeL vs e htl
 | .vfn _ _, e, t, e1, h => by simp [Env.take] at h
 | .same r, e, t, e1, h => by
  simp only [Env.take] at h
  split at h
  · cases h; exact j7j e r
  · cases h
theorem less_takeL : ∀ (vs : List V) (e : Env) {ts : List T} {e1 : Env}, e.j06 vs = some (ts, e1) → Less e e1
 | [], e, ts, e1, h => by simp only [Env.j06] at h; cases h; exact Less.refl e
 | v :: vs, e, ts, e1, h => by
  simp only [Env.j06] at h
  cases hta : e.take v with
  | none => rw [hta] at h; cases h
  | some y =>
   rw [hta] at h
   simp only [Option.bind_some] at h
   cases htl : y.2.j06 vs with
   | none => rw [htl] at h; cases h
   | some z => rw [htl] at h; cases h; exact (less_take v e hta).trans (less_takeL vs y.2 htl)
end

theorem less_puts {us : List T} {e : Env} {r : Nat} {p : List Nat} {off : Nat} {s : Option Nat} {ts : List T} (h : e.tree r p = some (.mem .own s ts)) (hl : off + us.length ≤ ts.length) : Less e (e.puts r p off us) := by
 obtain ⟨t, h1, h2⟩ := j2o h
 obtain ⟨t', h1', h3⟩ := tree_own h
 rw [h1] at h1'
 cases h1'
 obtain ⟨q1, q2⟩ := puts_spec us e r p off t s ts h1 h2 hl
 intro s' y hy
 by_cases hs : s' = r
 · subst hs
   rw [q1] at hy
   cases hy
   exact .inr ⟨⟨_, rfl⟩, t, h1, h3⟩
 · exact .inl (q2 s' y hs hy).1

theorem less_freeze {e e' : Env} {k : K} {s : Nat} (hk : k ≠ .own) (h : e.freeze k s = some e') : Less e e' := fun x y hy => by
 obtain ⟨t, h1, h2, h3⟩ := freeze_some h
 by_cases hx : x = s
 · subst hx
   rw [h2] at hy
   cases hy
   cases hn : t.j0r with
   | true => rw [frz_noOwn hk t hn]; exact .inl h1
   | false => exact .inr ⟨⟨_, rfl⟩, t, h1, hn⟩
 · exact .inl (h3 x y hx hy).1

theorem less_caps {k : K} (hk : k ≠ .own) : ∀ (xs : List Opd) (e : Env) {ts : List T} {e' : Env}, Env.caps k e xs = some (ts, e') → Less e e'
 | [], e, ts, e', h => by simp only [Env.caps] at h; cases h; exact Less.refl e
 | x :: xs, e, ts, e', h => by
  simp only [Env.caps] at h
  cases hx : e.opd x with
  | none => rw [hx] at h; cases h
  | some v =>
   rw [hx] at h
   simp only [Option.bind_some] at h
   split at h
   · split at h
     · cases hc : Env.caps k e xs with
       | none => rw [hc] at h; cases h
       | some z => rw [hc] at h; cases h; exact less_caps hk xs e hc
     · cases h
   · rename_i r
     cases hf : e.freeze k r with
     | none => rw [hf] at h; cases h
     | some e1 =>
      rw [hf] at h
      simp only [Option.bind_some] at h
      split at h
      · cases hc : Env.caps k e1 xs with
        | none => rw [hc] at h; cases h
        | some z => rw [hc] at h; cases h; exact (less_freeze hk hf).trans (less_caps hk xs e1 hc)
      · cases h
   · cases h

theorem less_base {e : Env} {sz : Nat} {x : V} {z : Option (List T) × Env} (h : e.base sz x = some z) : Less e z.2 := by
 unfold Env.base at h
 split at h
 · cases h; exact Less.refl e
 · split at h
   · rename_i ht
     split at h
     · cases h; exact less_take _ e ht
     · cases h
   · cases h
 · cases h

theorem less_src {e e1 : Env} {mv : Bool} {sz : Nat} {x : V} {us : List T} (h : e.src mv sz x = some (us, e1)) : Less e e1 := by
 rcases src_frame h with rfl | ⟨r, rfl⟩
 · exact Less.refl _
 · exact j7j e r

theorem j2t.less {D : Nat → Prop} {e e1 : Env} (h : j2t D e) (h1 : Less e e1) : j2t D e1 := h.of_some h1

theorem j2t.over {D : Nat → Prop} {e : Env} (h : j2t D e) {n : Nat} {ts : List T} (hn : e n = some (.val (.mem .own none ts))) (ts' : List T) : j2t D (e.over n (.mem .own none ts')) := by
 intro d hd
 obtain ⟨h1, h2⟩ := h d hd
 have hne : d ≠ n := fun h0 => by
  subst h0
  obtain ⟨t, h3, h4⟩ := h1 _ hn
  cases h3
  simp [T.j0r] at h4
 refine ⟨fun z hz => ?_, fun s x hx => ?_⟩
 · simp only [Env.over, if_neg hne] at hz
   exact h1 z hz
 · simp only [Env.over] at hx
   split at hx
   · cases hx; rfl
   · exact h2 s x hx
def Q.rOnly : Q → Bool
 | .call _ args => args.all (fun x => x.2 == .r)
 | .callm .. => false
 | .boxk _ => false
 | .settle _ => false
 | .bslk .. => false
 | .appk .. => false
 | .fncl .. => false
 | .cap0 _ => false
 | .bstr _ => false
 | .arr .. => false
 | .mkset => false
 | .apz .. => false
 | .look .. => false
 | .upd .. => false
 | _ => true

theorem swp_spec {e e' : Env} {y : Nat} {av xv yv : V} (h : e.swp y av xv yv = some e') : ∃ r i j lx ly ts ui uj, av = .pref r [] i ∧ xv = .sref r [j] 1 0 lx ∧ yv = .sref r [i] 1 0 ly ∧ r ≠ y ∧ e.tree r [] = some (.mem .own (some 1) ts) ∧ ts[i]? = some (.mem .own (some 1) ui) ∧ ts[j]? = some (.mem .own (some 1) uj) ∧ (lx = uj.length ∧ ly = ui.length) ∧
 e' = if i = j then e else ((e.j0g r [i] (.mem .own (some 1) uj)).j0g r [j] .gone).put y (.val (.mem .own (some 1) ui)) := by
 unfold Env.swp at h
 split at h
 · rename_i r i r1 j lx r2 i' ly
   split at h
   · rename_i hc
     obtain ⟨rfl, rfl, rfl, hrs⟩ := hc
     split at h
     · rename_i ts ht
       split at h
       · rename_i ui uj hi hj
         split at h
         · rename_i hl
           simp only [Option.some.injEq] at h
           exact ⟨_, _, j, lx, ly, ts, ui, uj, rfl, rfl, rfl, hrs, ht, hi, hj, hl, h.symm⟩
         · cases h
       · cases h
     · cases h
   · cases h
 · cases h
theorem less_setTree {e : Env} {r : Nat} {p : List Nat} {x : T} {s : Option Nat} {ts : List T} {off : Nat} (h : e.tree r p = some (.mem .own s ts)) (hl : off < ts.length) : Less e (e.j0g r (p ++ [off]) x) := by
 have := less_puts (off := off) (us := [x]) h (by simp only [List.length_cons, List.length_nil]; omega)
 exact this
theorem swp_fresh {D : Nat → Prop} {e e' : Env} {y : Nat} {av xv yv : V} (h : j2t D e) (hy : e y = some yv) (hs : e.swp y av xv yv = some e') : j2t D e' := by
 obtain ⟨r, i, j, lx, ly, ts, ui, uj, rfl, rfl, rfl, hry, ht, hi, hj, _, rfl⟩ := swp_spec hs
 split
 · exact h
 · have hil : i < ts.length := by
    rcases Nat.lt_or_ge i ts.length with h' | h'
    · exact h'
    · rw [List.getElem?_eq_none h'] at hi; cases hi
   have hjl : j < ts.length := by
    rcases Nat.lt_or_ge j ts.length with h' | h'
    · exact h'
    · rw [List.getElem?_eq_none h'] at hj; cases hj
   have er := tree_nil ht
   have l1 : Less e (e.j0g r [i] (.mem .own (some 1) uj)) := less_setTree (p := []) ht hil
   have ht1 : (e.j0g r [i] (.mem .own (some 1) uj)).tree r [] = some (.mem .own (some 1) (ts.set i (.mem .own (some 1) uj))) := by
    simp only [Env.tree, j1g er]
    simp [T.at, T.setAt, T.j1i, T.kids]
   have l2 : Less (e.j0g r [i] (.mem .own (some 1) uj)) ((e.j0g r [i] (.mem .own (some 1) uj)).j0g r [j] .gone) := less_setTree (p := []) ht1 (by simpa using hjl)
   have hf := h.less (l1.trans l2)
   refine hf.setD (d := some y) (fun x hx hD => ?_) (fun _ _ => rfl)
   cases hx
   obtain ⟨t, h1, _⟩ := (h y hD).1 _ hy
   cases h1
theorem fresh_stepQ {G : Rl} {m : K} (hm : m ≠ .own) {d : Option Nat} {q : Q} {Kt : Env → Prop} {e : Env} {D : Nat → Prop} (h : j2t D e) (hd : ∀ x, d = some x → ¬ D x) (hr : q.rOnly = true) (hs : j0m G m d q Kt e) : j0m G m d q (fun e' => Kt e' ∧ j2t D e') e := by
 by_cases hq : q.simple = true
 · rw [j3r hq] at hs ⊢
   obtain ⟨v, h1, h2⟩ := hs
   exact ⟨v, h1, h2, h.setD hd fun d hd => j4u h hd h1⟩
 · have hval : ∀ (e1 : Env) (t : T), Less e e1 → j2t D (e1.setD d (.val t)) := fun e1 t hl => (h.less hl).setD hd fun _ _ => rfl
   cases q <;> simp only [Q.simple, not_true] at hq <;> simp only [j0m, j0c] at hs ⊢
   case callm => simp [Q.rOnly] at hr
   case boxk => simp [Q.rOnly] at hr
   case settle => simp [Q.rOnly] at hr
   case cap0 => simp [Q.rOnly] at hr
   case bstr => simp [Q.rOnly] at hr
   case arr => simp [Q.rOnly] at hr
   case mkset => simp [Q.rOnly] at hr
   case apz => simp [Q.rOnly] at hr
   case calls f x n xs =>
    obtain ⟨fv, h1, id, h2, av, h3, j, h4, b, h5, ts, h6, us, h7, h8, ts', r, h11, hK⟩ := hs
    exact ⟨fv, h1, id, h2, av, h3, j, h4, b, h5, ts, h6, us, h7, h8, ts', r, h11, hK, (h.over (by rw [h5, boxT_some h6]) ts').setD hd fun _ _ => rfl⟩
   case tk1 sz n =>
    obtain ⟨v, h1, u, h2, h3, hK⟩ := hs
    exact ⟨v, h1, u, h2, h3, hK, hval _ _ (j7j e n)⟩
   case bsl1 n =>
    obtain ⟨v, h1, h2⟩ := hs
    refine ⟨v, h1, ?_⟩
    split at h2
    · exact ⟨h2.1, h2.2, hval _ _ (j7j e n)⟩
    · exact h2.elim
   case look => simp [Q.rOnly] at hr
   case upd => simp [Q.rOnly] at hr
   case bsls =>
    obtain ⟨v, h1, y, h2, h3, hK⟩ := hs
    exact ⟨v, h1, y, h2, h3, hK, hval _ _ (less_takeL _ e h2)⟩
   case asg =>
    obtain ⟨v, h1, hK⟩ := hs
    refine ⟨v, h1, ?_⟩
    split at hK
    · exact ⟨hK, hval e _ (Less.refl e)⟩
    · obtain ⟨y, h2, hK⟩ := hK
      exact ⟨y, h2, hK, hval _ _ (less_take _ e h2)⟩
   case st =>
    obtain ⟨a, h1, v, h2, y, h3, hK⟩ := hs
    refine ⟨a, h1, v, h2, y, h3, ?_⟩
    split at hK
    · split at hK
      · exact ⟨hK.1, hK.2, h.less ((less_take _ e h3).trans (less_puts (by assumption) hK.1.2.1))⟩
      · exact hK.elim
    · exact hK.elim
   case sts =>
    obtain ⟨a, h1, v, h2, hK⟩ := hs
    refine ⟨a, h1, v, h2, ?_⟩
    split at hK
    · rename_i off z
      split at hK
      · rename_i htr
        refine ⟨hK.1, hK.2, h.less ?_⟩
        have := less_puts (off := off) (us := [.sc z]) htr (by have := hK.1; simp only [List.length_cons, List.length_nil]; omega)
        exact this
      · exact hK.elim
    · exact hK.elim
   case stsw xa xx y =>
    obtain ⟨av, h1, xv, h2, yv, h3, h4, e', h5, hK⟩ := hs
    refine ⟨av, h1, xv, h2, yv, h3, h4, e', h5, hK, ?_⟩
    exact swp_fresh h h3 h5
   case box =>
    obtain ⟨v, h1, y, h2, h3, hK⟩ := hs
    exact ⟨v, h1, y, h2, h3, hK, hval _ _ (less_take _ e h2)⟩
   case bsl =>
    obtain ⟨v, h1, y, h2, h3, hK⟩ := hs
    exact ⟨v, h1, y, h2, h3, hK, hval _ _ (less_takeL _ e h2)⟩
   case app =>
    obtain ⟨a, h1, b, h2, z, h3, u, h4, h5, hK⟩ := hs
    refine ⟨a, h1, b, h2, z, h3, u, h4, h5, ?_⟩
    have hl : Less e u.2 := (less_base h3).trans (less_src h4)
    split at hK
    · exact ⟨fun hh => ⟨hK.1 hh, hval _ _ hl⟩, fun hh => ⟨hK.2 hh, hval _ _ hl⟩⟩
    · exact ⟨hK, hval _ _ hl⟩
   case fncl => simp [Q.rOnly] at hr
   case bslk => simp [Q.rOnly] at hr
   case appk => simp [Q.rOnly] at hr
   case fnc =>
    obtain ⟨y, h1, hK⟩ := hs
    exact ⟨y, h1, hK, hval _ _ (less_caps hm _ e h1)⟩
   case call => exact absurd hr hq
   case freeze =>
    obtain ⟨e', h1, hK⟩ := hs
    exact ⟨e', h1, hK, h.less (less_freeze hm h1)⟩

theorem fresh_stepO {G : Rl} {m : K} (hm : m ≠ .own) {o : O} {Kt : Env → Prop} {e : Env} {D : Nat → Prop} (h : j2t D e) (hd : ∀ x, o.d = some x → ¬ D x) (hr : o.q.rOnly = true) (hs : j1c G m o Kt e) : j1c G m o (fun e' => Kt e' ∧ j2t D e') e := by
 unfold j1c at hs ⊢
 cases ho : o.g with
 | none => rw [ho] at hs; exact fresh_stepQ hm h hd hr hs
 | some sb =>
  rw [ho] at hs
  simp only at hs ⊢
  split at hs
  · rename_i b' hes
    by_cases hb : b' = sb.2
    · rw [if_pos hb] at hs
      show (if b' = sb.2 then _ else _)
      rw [if_pos hb]; exact fresh_stepQ hm h hd hr hs
    · rw [if_neg hb] at hs
      show (if b' = sb.2 then _ else _)
      rw [if_neg hb]; exact ⟨hs, h.setD hd fun _ _ => rfl⟩
  · exact ⟨hs, h.setD hd fun _ _ => rfl⟩
  · exact hs.elim


def O.val (G : Rl) (o : O) (e : Env) (v : V) : Prop :=
 match o.g with
 | none => o.q.val G e v
 | some (s, b) =>
  match e s with
  | some (.val (.sc (.bool b'))) => if b' = b then o.q.val G e v else v = j03
  | some (.val .nul) => v = j03
  | _ => False

theorem stepO_val {G : Rl} {m : K} {o : O} {Kt : Env → Prop} {e : Env} (hq : o.q.simple = true) : j1c G m o Kt e ↔ ∃ v, o.val G e v ∧ Kt (e.setD o.d v) := by
 unfold j1c O.val
 cases ho : o.g with
 | none => exact j3r hq
 | some sb =>
  simp only
  constructor
  · intro hs
    split at hs
    · rename_i b' hes
      simp only [hes]
      by_cases hb : b' = sb.2
      · rw [if_pos hb] at hs
        obtain ⟨v, h1, h2⟩ := (j3r hq).1 hs
        exact ⟨v, by rw [if_pos hb]; exact h1, h2⟩
      · rw [if_neg hb] at hs
        exact ⟨j03, by rw [if_neg hb], hs⟩
    · rename_i hes
      simp only [hes]
      exact ⟨j03, rfl, hs⟩
    · exact hs.elim
  · rintro ⟨v, h1, h2⟩
    split at h1
    · rename_i b' hes
      simp only [hes]
      by_cases hb : b' = sb.2
      · rw [if_pos hb] at h1
        rw [if_pos hb]
        exact (j3r hq).2 ⟨v, h1, h2⟩
      · rw [if_neg hb] at h1
        rw [if_neg hb]
        subst h1; exact h2
    · rename_i hes
      simp only [hes]
      subst h1; exact h2
    · exact h1.elim

def O.reads (d : Nat) (o : O) : Bool := o.q.reads d || (match o.g with | some (s, _) => s == d | none => false)

theorem oval_off {G : Rl} {e e' : Env} {d : Nat} (h : Off e e' d) {o : O} (hq : o.q.simple = true) (hr : o.reads d = false) {v : V} (hv : o.val G e v) : o.val G e' v := by
 simp only [O.reads, Bool.or_eq_false_iff] at hr
 unfold O.val at hv ⊢
 cases ho : o.g with
 | none => rw [ho] at hv; exact val_off h hq hr.1 hv
 | some sb =>
  rw [ho] at hv hr
  simp only [beq_eq_false_iff_ne, ne_eq] at hv hr ⊢
  rw [h.1 sb.1 hr.2]
  split at hv
  · split at hv
    · rename_i hb; rw [if_pos hb]; exact val_off h hq hr.1 hv
    · rename_i hb; rw [if_neg hb]; exact hv
  · exact hv
  · exact hv.elim

theorem oval_hits {G : Rl} {e : Env} {D : Nat → Prop} (h : j2t D e) {d : Nat} (hd : D d) {o : O} {v : V} (hv : o.val G e v) : v.hits d [] = false := by
 unfold O.val at hv
 split at hv
 · exact j4u h hd hv
 · split at hv
   · split at hv
     · exact j4u h hd hv
     · subst hv; rfl
   · subst hv; rfl
   · exact hv.elim

theorem j3d {D : Nat → Prop} {e : Env} (h : j2t D e) {d : Nat} (hd : D d) (v : V) : Off e (e.setD (some d) v) d := by
 obtain ⟨h1, h2⟩ := h d hd
 refine ⟨fun s hs => ?_, fun s x _ hx => h2 s x hx⟩
 simp only [Env.setD, Env.put, if_neg hs, Env.kill]
 cases hes : e s with
 | none => rfl
 | some y => simp [h2 s y hes]

def commutesS (x y : O) : Bool :=
 (match x.q with | .mvw _ => true | .bin .. => true | _ => false) && (match y.q with | .sts .. => true | _ => false) && x.g.isNone && y.g.isNone && (match x.d with | some d => !y.reads d && y.d != some d | none => false)

def commutesP (x y : O) : Bool :=
 x.q.simple && y.q.simple &&
 (match x.d with | some d => !y.reads d && y.d != some d | none => true) &&
 (match y.d with | some d => !x.reads d | none => true)

def commutesB (x y : O) : Bool :=
 x.q.simple && x.g.isNone && y.g.isNone &&
 (match x.d, y.d, y.q with | some dx, some dy, .bsl1 n => dx != dy && dx != n && dy != n && !x.q.reads n && !x.q.reads dy | _, _, _ => false)

def commutesK (x y : O) : Bool :=
 x.q.simple && x.g.isNone && y.g.isNone &&
 (match x.d, y.d, y.q with | some dx, some dy, .tk1 _ n => dx != dy && dx != n && dy != n && !x.q.reads n && !x.q.reads dy | _, _, _ => false)

def commutesA (x y : O) : Bool :=
 x.g.isNone && y.g.isNone &&
 (match x.d, x.q, y.d, y.q with | some dx, .tk1 _ n, some dy, .alloc _ => dx != dy && dy != n | _, _, _, _ => false)

def commutesT (x y : O) : Bool :=
 (match x.q with | .exts .. => true | _ => false) && (match y.q with | .st .. => true | _ => false) && x.g.isNone && y.g.isNone && (match x.d with | some d => !y.reads d && y.d != some d | none => false)

def Q.lite : Q → Bool
 | .mv _ | .fld .. | .ld .. | .idx .. | .bin .. | .mvs _ | .bslw .. | .len _ | .alloc _ => true
 | _ => false
def Q.past (n : Nat) (q : Q) : Bool := q.lite && (match q with | .mvs _ => true | q => !q.reads n)
def commutesC (x y : O) : Bool :=
 x.g.isNone && y.g.isNone &&
 (match x.d, y.d with
  | some dx, some dy => dx != dy &&
   (match y.q with
    | .calls _ _ n _ => dx != n && dy != n && x.q.past n && !y.q.reads dx && !x.q.reads dy
    | _ => match x.q with
     | .calls _ _ n _ => dx != n && dy != n && y.q.past n && !x.q.reads dy && !y.q.reads dx
     | _ => false)
  | _, _ => false)

def commutesW (x y : O) : Bool :=
 (match x.q with | .mvw _ => true | .bin .. => true | _ => false) && (match y.q with | .stsw .. => true | _ => false) && x.g.isNone && y.g.isNone && (match x.d with | some d => !y.reads d && y.d != some d | none => false)

def commutes (x y : O) : Bool := commutesP x y || commutesS x y || commutesB x y || commutesW x y || commutesK x y || commutesT x y || commutesA x y || commutesC x y

mutual
theorem rootly_hits {r i : Nat} {p : List Nat} : ∀ v : V, v.j4f = true → v.hits r (p ++ [i]) = false
 | .val _, _ => rfl
 | .sref r' q _ _ _, h => by
  simp only [V.j4f, List.isEmpty_iff] at h
  subst h
  simp only [V.hits, Bool.and_eq_false_iff]
  right
  cases p <;> rfl
 | .pref r' q _, h => by
  simp only [V.j4f, List.isEmpty_iff] at h
  subst h
  simp only [V.hits, Bool.and_eq_false_iff]
  right
  cases p <;> rfl
 | .vagg vs, h => by simp only [V.j4f] at h; simp only [V.hits]; exact rootlyL_hits vs h
 | .vtup vs, h => by simp only [V.j4f] at h; simp only [V.hits]; exact rootlyL_hits vs h
theorem rootlyL_hits {r i : Nat} {p : List Nat} : ∀ vs : List V, V.rootlyL vs = true → V.j1m r (p ++ [i]) vs = false
 | [], _ => rfl
 | v :: vs, h => by
  simp only [V.rootlyL, Bool.and_eq_true] at h
  simp only [V.j1m, rootly_hits v h.1, rootlyL_hits vs h.2, Bool.or_self]
end

theorem peekL_set {r : Nat} {q : List Nat} : ∀ (ts : List T) (k i : Nat) (c c' : T), ts[i]? = some c → c'.peek r (q ++ [k + i]) = c.peek r (q ++ [k + i]) → T.j4h r q k (ts.set i c') = T.j4h r q k ts
 | [], _, _, _, _, h, _ => by simp at h
 | t :: ts, k, 0, c, c', h, h2 => by
  simp only [List.getElem?_cons_zero, Option.some.injEq] at h
  subst h
  simp only [Nat.add_zero] at h2
  simp only [List.set_cons_zero, T.j4h, h2]
 | t :: ts, k, i + 1, c, c', h, h2 => by
  simp only [List.set_cons_succ, T.j4h]
  rw [peekL_set ts (k + 1) i c c' (by simpa using h) (by rwa [show k + 1 + i = k + (i + 1) from by omega])]

theorem peek_setAt {r off : Nat} {x : T} {s : Option Nat} {ts : List T} : ∀ (p : List Nat) (t : T) (q : List Nat), t.at p = some (.mem .own s ts) → (t.setAt (p ++ [off]) x).peek r q = t.peek r q
 | [], t, q, h => by
  simp only [T.at, Option.some.injEq] at h
  subst h
  cases s <;> simp [T.setAt, T.peek]
 | i :: p, t, q, h => by
  simp only [T.at] at h
  cases hi : t.kids[i]? with
  | none => rw [hi] at h; cases h
  | some c =>
   rw [hi] at h
   simp only [Option.bind_some] at h
   have hgd : t.kids.getD i .gone = c := by rw [List.getD_eq_getElem?_getD, hi]; rfl
   cases t with
   | mem k s' us =>
    cases k
    · cases s' <;> simp [T.peek]
    · simp [T.kids] at hi
    · simp [T.kids] at hi
   | agg us =>
    simp only [T.kids] at hi hgd
    simp only [List.cons_append, T.setAt, T.j1i, T.kids, T.peek, hgd]
    rw [peekL_set us 0 i c _ hi (peek_setAt p c _ h)]
   | tup us =>
    simp only [T.kids] at hi hgd
    simp only [List.cons_append, T.setAt, T.j1i, T.kids, T.peek, hgd]
    rw [peekL_set us 0 i c _ hi (peek_setAt p c _ h)]
   | _ => simp [T.kids] at hi

theorem opd_store {e : Env} {r off : Nat} {p : List Nat} {s : Option Nat} {ts : List T} {z : T} (ht : e.tree r p = some (.mem .own s ts)) {x : Opd} {v : V} (hv : e.opd x = some v) (hr : v.j4f = true) : (e.j0g r (p ++ [off]) z).opd x = some v := by
 obtain ⟨t, h1, h2⟩ := j2o ht
 cases x with
 | t n =>
  simp only [Env.opd, Env.peek] at hv ⊢
  by_cases hn : n = r
  · subst hn
    rw [j1g h1]
    rw [h1] at hv
    simp only [Option.some.injEq] at hv ⊢
    rw [← hv]
    exact peek_setAt p t [] h2
  · split at hv
    · rename_i u hu
      rw [j60 hn hu rfl]
      exact hv
    · rename_i hne
      rw [j60 hn hv (rootly_hits v hr)]
      split
      · rename_i u hu; cases hu; exact (hne u hv).elim
      · rfl
 | c u => exact hv
 | f id => exact hv

theorem j7i {q : Q} (h : (match q with | .mvw _ => true | .bin .. => true | _ => false) = true) : q.simple = true := by
 cases q <;> first | rfl | cases h

theorem swapS {G : Rl} {m : K} {x y : O} {Kt : Env → Prop} {e : Env} {D : Nat → Prop} (h : j2t D e) (hx : ∀ d, x.d = some d → D d) (hc : commutesS x y = true) (hs : j1c G m x (j1c G m y Kt) e) : j1c G m y (j1c G m x Kt) e := by
 obtain ⟨xd, xg, xq⟩ := x
 obtain ⟨yd, yg, yq⟩ := y
 simp only [commutesS, Bool.and_eq_true, Option.isNone_iff_eq_none] at hc
 obtain ⟨⟨⟨⟨c1, c2⟩, rfl⟩, rfl⟩, c3⟩ := hc
 cases xd with
 | none => simp at c3
 | some d =>
  simp only [Bool.and_eq_true, Bool.not_eq_true', bne_iff_ne, ne_eq] at c3
  have hD : D d := hx d rfl
  have hsim : xq.simple = true := j7i c1
  simp only [j1c] at hs ⊢
  rw [j3r hsim] at hs
  obtain ⟨v, hv, hy⟩ := hs
  have hroot : v.j4f = true := by
   cases xq <;> simp only at c1 <;> try cases c1
   · rename_i op a b
     simp only [Q.val] at hv
     obtain ⟨a, _, b, _, h3⟩ := hv
     obtain ⟨⟨_, rfl⟩, _, _⟩ := binV_sc h3
     rfl
   · exact hv.2
  have hvd : v.hits d [] = false := j4u h hD hv
  cases yq <;> simp only at c2 <;> try cases c2
  rename_i a z
  have hre : (Q.sts a z).reads d = false := by
   have := c3.1
   simp only [O.reads, Bool.or_false] at this
   exact this
  simp only [Q.reads, Bool.or_eq_false_iff] at hre
  have hoff : Off (e.setD (some d) v) e d := (j3d h hD v).symm
  simp only [j0m, j0c] at hy ⊢
  obtain ⟨av, h1, zv, h2, h3⟩ := hy
  rw [← j0y hoff hre.1] at h1
  rw [← j0y hoff hre.2] at h2
  refine ⟨av, h1, zv, h2, ?_⟩
  split at h3
  · rename_i r p off z
    have hrd : r ≠ d := by
     have := opd_hits hoff.symm hre.1 h1
     exact j6q this
    rw [← tree_off hoff hrd] at h3
    split at h3
    · rename_i ts htr
      refine ⟨h3.1, ?_⟩
      simp only [j1c]
      rw [j3r hsim]
      refine ⟨v, ?_, ?_⟩
      · cases xq <;> simp only at c1 <;> try cases c1
        · rename_i op a b
          simp only [Q.val] at hv ⊢
          obtain ⟨a', k1, b', k2, k3⟩ := hv
          have ha : a'.j4f = true ∧ b'.j4f = true := by
           obtain ⟨_, ⟨_, rfl⟩, _, rfl⟩ := binV_sc k3
           exact ⟨rfl, rfl⟩
          exact ⟨a', opd_store htr k1 ha.1, b', opd_store htr k2 ha.2, k3⟩
        · exact ⟨opd_store htr hv.1 hroot, hroot⟩
      · have henv : (e.setD (some d) v).j0g r (p ++ [off]) (.sc z) = (e.j0g r (p ++ [off]) (.sc z)).setD (some d) v := by
         obtain ⟨t, q1, q2⟩ := j2o htr
         have hkr : (e.setD (some d) v) r = some (.val t) := by rw [hoff.symm.1 r hrd]; exact q1
         funext s
         by_cases hsr : s = r
         · subst hsr
           rw [j1g hkr]
           simp only [Env.setD, Env.put, if_neg hrd, Env.kill, j1g q1]
           simp [V.hits]
         · simp only [Env.j0g, if_neg hsr]
           by_cases hsd : s = d
           · subst hsd
             simp [Env.setD, Env.put, Env.kill, hvd, rootly_hits v hroot]
           · simp only [Env.setD, Env.put, if_neg hsd, Env.kill, if_neg hsr, Env.j0g]
             cases hes : e s with
             | none => rfl
             | some u =>
              simp only
              cases hu1 : u.hits d [] <;> cases hu2 : u.hits r (p ++ [off]) <;> simp [hu1, hu2]
        rw [← henv]
        exact h3.2
    · exact h3.elim
  · exact h3.elim

theorem j7s {D : Nat → Prop} {e : Env} (h : j2t D e) {d1 d2 : Nat} (hd1 : D d1) (hd2 : D d2) (hne : d1 ≠ d2) {v1 v2 : V} (h11 : v1.hits d1 [] = false) (h12 : v1.hits d2 [] = false) (h21 : v2.hits d1 [] = false) (h22 : v2.hits d2 [] = false) :
 (e.setD (some d1) v1).setD (some d2) v2 = (e.setD (some d2) v2).setD (some d1) v1 := by
 have o1 := (j3d h hd1 v1).1
 have o2 := (j3d h hd2 v2).1
 funext s
 have e1 : (e.put d1 v1) d1 = some v1 := by simp [Env.put, h11]
 have e2 : (e.put d2 v2) d2 = some v2 := by simp [Env.put, h22]
 by_cases hs1 : s = d1
 · subst hs1
   have r : ((e.setD (some d2) v2).setD (some s) v1) s = some v1 := by simp [Env.setD, Env.put, h11]
   rw [r]
   show (if s = d2 then _ else (e.put s v1).kill d2 [] s) = _
   rw [if_neg hne]
   simp only [Env.kill, e1, h12, Bool.false_eq_true, if_false]
 · by_cases hs2 : s = d2
   · subst hs2
     have r : ((e.setD (some d1) v1).setD (some s) v2) s = some v2 := by simp [Env.setD, Env.put, h22]
     rw [r]
     show _ = (if s = d1 then _ else (e.put s v2).kill d1 [] s)
     rw [if_neg (Ne.symm hne)]
     simp only [Env.kill, e2, h21, Bool.false_eq_true, if_false]
   · show (if s = d2 then _ else (e.setD (some d1) v1).kill d2 [] s) = (if s = d1 then _ else (e.setD (some d2) v2).kill d1 [] s)
     rw [if_neg hs2, if_neg hs1]
     simp only [Env.kill, o1 s hs1, o2 s hs2]
     cases hes : e s with
     | none => rfl
     | some y => simp [(h d1 hd1).2 s y hes, (h d2 hd2).2 s y hes]

theorem swapB {G : Rl} {m : K} {x y : O} {Kt : Env → Prop} {e : Env} {D : Nat → Prop} (h : j2t D e) (hx : ∀ d, x.d = some d → D d) (hy : ∀ d, y.d = some d → D d) (hc : commutesB x y = true) (hs : j1c G m x (j1c G m y Kt) e) : j1c G m y (j1c G m x Kt) e := by
 obtain ⟨xd, xg, xq⟩ := x
 obtain ⟨yd, yg, yq⟩ := y
 simp only [commutesB, Bool.and_eq_true, Option.isNone_iff_eq_none] at hc
 obtain ⟨⟨⟨c1, rfl⟩, rfl⟩, c3⟩ := hc
 split at c3
 · rename_i dx dy n
   simp only [Bool.and_eq_true, bne_iff_ne, ne_eq, Bool.not_eq_true'] at c3
   obtain ⟨⟨⟨⟨n1, n2⟩, n3⟩, r1⟩, r2⟩ := c3
   have hDx : D dx := hx dx rfl
   have hDy : D dy := hy dy rfl
   simp only [j1c] at hs ⊢
   rw [j3r c1] at hs
   obtain ⟨v, hv, hb⟩ := hs
   have hvx : v.hits dx [] = false := j4u h hDx hv
   have hvy : v.hits dy [] = false := j4u h hDy hv
   have hoff := j3d h hDx v
   simp only [j0m, j0c] at hb ⊢
   obtain ⟨u, g1, g2⟩ := hb
   rw [hoff.1 n (Ne.symm n2)] at g1
   refine ⟨u, g1, ?_⟩
   split at g2
   · rename_i k ts
     obtain ⟨⟨l1, l2⟩, hK⟩ := g2
     have hex : (e.setD (some dx) v) dx = some v := by simp [Env.setD, Env.put, hvx]
     have hvn : v.hits n [] = false := by
      have := congrFun l1 dx
      simp only [Env.kill, hex] at this
      cases hh : v.hits n [] with
      | false => rfl
      | true => rw [hh] at this; simp at this
     have lone : ∀ s z, e s = some z → z.hits n [] = false := fun s z hz => by
      by_cases hsx : s = dx
      · subst hsx
        obtain ⟨t, rfl, _⟩ := (h s hDx).1 z hz
        rfl
      · have := congrFun l1 s
        simp only [Env.kill, hoff.1 s hsx, hz] at this
        cases hh : z.hits n [] with
        | false => rfl
        | true => rw [hh] at this; simp at this
     have hkill : e.kill n [] = e := by
      funext s
      simp only [Env.kill]
      cases hes : e s with
      | none => rfl
      | some z => simp [lone s z hes]
     have hdel : ∀ s, s ≠ n → (e.del n) s = e s := fun s hs => by
      simp only [Env.del, if_neg hs, Env.kill]
      cases hes : e s with
      | none => rfl
      | some z => simp [lone s z hes]
     refine ⟨⟨hkill, l2⟩, ?_⟩
     have hfd : j2t D (e.del n) := h.less (j7j e n)
     have hv1 : xq.val G (e.del n) v := val_off (d := n) ⟨fun s hs => hdel s hs, fun s z _ hz => lone s z hz⟩ c1 r1 hv
     have hv2 := val_off (j3d hfd hDy (.val (.mem .own (some 1) [.mem .own (some k) ts]))) c1 r2 hv1
     show j0m G m (some dx) xq Kt _
     rw [j3r c1]
     refine ⟨v, hv2, ?_⟩
     have e1 : (e.del n).setD (some dx) v = (e.setD (some dx) v).del n := by
      funext s
      by_cases hsx : s = dx
      · subst hsx
        simp [Env.setD, Env.put, Env.del, n2, Env.kill, hvx, hvn]
      · by_cases hsn : s = n
        · subst hsn
          simp [Env.setD, Env.put, Env.del, hsx, Env.kill]
        · simp only [Env.setD, Env.put, if_neg hsx, Env.kill, Env.del, if_neg hsn]
          cases hes : e s with
          | none => rfl
          | some z => simp [lone s z hes, (h dx hDx).2 s z hes]
     rw [j7s hfd hDy hDx (Ne.symm n1) rfl rfl hvy hvx, e1]
     exact hK
   · exact g2.elim
 · cases c3

theorem swapK {G : Rl} {m : K} {x y : O} {Kt : Env → Prop} {e : Env} {D : Nat → Prop} (h : j2t D e) (hx : ∀ d, x.d = some d → D d) (hy : ∀ d, y.d = some d → D d) (hc : commutesK x y = true) (hs : j1c G m x (j1c G m y Kt) e) : j1c G m y (j1c G m x Kt) e := by
 obtain ⟨xd, xg, xq⟩ := x
 obtain ⟨yd, yg, yq⟩ := y
 simp only [commutesK, Bool.and_eq_true, Option.isNone_iff_eq_none] at hc
 obtain ⟨⟨⟨c1, rfl⟩, rfl⟩, c3⟩ := hc
 split at c3
 · rename_i dx dy sz n
   simp only [Bool.and_eq_true, bne_iff_ne, ne_eq, Bool.not_eq_true'] at c3
   obtain ⟨⟨⟨⟨n1, n2⟩, n3⟩, r1⟩, r2⟩ := c3
   have hDx : D dx := hx dx rfl
   have hDy : D dy := hy dy rfl
   simp only [j1c] at hs ⊢
   rw [j3r c1] at hs
   obtain ⟨v, hv, hb⟩ := hs
   have hvx : v.hits dx [] = false := j4u h hDx hv
   have hvy : v.hits dy [] = false := j4u h hDy hv
   have hoff := j3d h hDx v
   simp only [j0m, j0c] at hb ⊢
   obtain ⟨u, g1, c, g2, l1, hK⟩ := hb
   rw [hoff.1 n (Ne.symm n2)] at g1
   refine ⟨u, g1, c, g2, ?_⟩
   · skip
     have hex : (e.setD (some dx) v) dx = some v := by simp [Env.setD, Env.put, hvx]
     have hvn : v.hits n [] = false := by
      have := congrFun l1 dx
      simp only [Env.kill, hex] at this
      cases hh : v.hits n [] with
      | false => rfl
      | true => rw [hh] at this; simp at this
     have lone : ∀ s z, e s = some z → z.hits n [] = false := fun s z hz => by
      by_cases hsx : s = dx
      · subst hsx
        obtain ⟨t, rfl, _⟩ := (h s hDx).1 z hz
        rfl
      · have := congrFun l1 s
        simp only [Env.kill, hoff.1 s hsx, hz] at this
        cases hh : z.hits n [] with
        | false => rfl
        | true => rw [hh] at this; simp at this
     have hkill : e.kill n [] = e := by
      funext s
      simp only [Env.kill]
      cases hes : e s with
      | none => rfl
      | some z => simp [lone s z hes]
     have hdel : ∀ s, s ≠ n → (e.del n) s = e s := fun s hs => by
      simp only [Env.del, if_neg hs, Env.kill]
      cases hes : e s with
      | none => rfl
      | some z => simp [lone s z hes]
     refine ⟨hkill, ?_⟩
     have hfd : j2t D (e.del n) := h.less (j7j e n)
     have hv1 : xq.val G (e.del n) v := val_off (d := n) ⟨fun s hs => hdel s hs, fun s z _ hz => lone s z hz⟩ c1 r1 hv
     have hv2 := val_off (j3d hfd hDy (.val c)) c1 r2 hv1
     show j0m G m (some dx) xq Kt _
     rw [j3r c1]
     refine ⟨v, hv2, ?_⟩
     have e1 : (e.del n).setD (some dx) v = (e.setD (some dx) v).del n := by
      funext s
      by_cases hsx : s = dx
      · subst hsx
        simp [Env.setD, Env.put, Env.del, n2, Env.kill, hvx, hvn]
      · by_cases hsn : s = n
        · subst hsn
          simp [Env.setD, Env.put, Env.del, hsx, Env.kill]
        · simp only [Env.setD, Env.put, if_neg hsx, Env.kill, Env.del, if_neg hsn]
          cases hes : e s with
          | none => rfl
          | some z => simp [lone s z hes, (h dx hDx).2 s z hes]
     rw [j7s hfd hDy hDx (Ne.symm n1) rfl rfl hvy hvx, e1]
     exact hK
 · cases c3

theorem setD_tree {D : Nat → Prop} {e : Env} (h : j2t D e) {d r i : Nat} (hD : D d) (hrd : r ≠ d) {t x : T} (er : e r = some (.val t)) {v : V} (hvd : v.hits d [] = false) (hroot : v.j4f = true) :
 (e.setD (some d) v).j0g r [i] x = (e.j0g r [i] x).setD (some d) v := by
 have hoff : Off (e.setD (some d) v) e d := (j3d h hD v).symm
 have hkr : (e.setD (some d) v) r = some (.val t) := by rw [hoff.symm.1 r hrd]; exact er
 funext s
 by_cases hsr : s = r
 · subst hsr
   rw [j1g hkr]
   simp only [Env.setD, Env.put, if_neg hrd, Env.kill, j1g er]
   simp [V.hits]
 · simp only [Env.j0g, if_neg hsr]
   by_cases hsd : s = d
   · subst hsd
     have := rootly_hits (r := r) (i := i) (p := []) v hroot
     simp only [List.nil_append] at this
     simp [Env.setD, Env.put, Env.kill, hvd, this]
   · simp only [Env.setD, Env.put, if_neg hsd, Env.kill, if_neg hsr, Env.j0g]
     cases hes : e s with
     | none => rfl
     | some u =>
      simp only
      cases hu1 : u.hits d [] <;> cases hu2 : u.hits r [i] <;> simp [hu1, hu2]
theorem setD_put {e : Env} {d y : Nat} (hyd : y ≠ d) {c : T} {v : V} (hvd : v.hits d [] = false) (hvy : v.hits y [] = false) : (e.setD (some d) v).put y (.val c) = (e.put y (.val c)).setD (some d) v := by
 funext s
 by_cases hsy : s = y
 · subst hsy
   simp [Env.setD, Env.put, hyd, Env.kill, V.hits]
 · by_cases hsd : s = d
   · subst hsd
     simp [Env.setD, Env.put, hsy, Env.kill, hvd, hvy]
   · simp only [Env.setD, Env.put, if_neg hsd, if_neg hsy, Env.kill]
     cases hes : e s with
     | none => rfl
     | some u =>
      simp only
      cases hu1 : u.hits d [] <;> cases hu2 : u.hits y [] <;> simp [hu1, hu2]
theorem opd_put {e : Env} {y : Nat} {c : T} {x : Opd} {v : V} (hv : e.opd x = some v) (hx : x.is y = false) (hvy : v.hits y [] = false) : (e.put y (.val c)).opd x = some v := by
 cases x with
 | t n =>
  have hn : n ≠ y := by simpa [Opd.is] using hx
  simp only [Env.opd, Env.peek] at hv ⊢
  simp only [Env.put, if_neg hn, Env.kill]
  split at hv
  · rename_i u hu
    rw [hu]
    simpa [V.hits] using hv
  · rename_i hne
    rw [hv]
    simp only [hvy, Bool.false_eq_true, if_false]
    split
    · rename_i u hu; cases hu; exact (hne u hv).elim
    · rfl
 | c u => exact hv
 | f id => exact hv

theorem swapW {G : Rl} {m : K} {x y : O} {Kt : Env → Prop} {e : Env} {D : Nat → Prop} (h : j2t D e) (hx : ∀ d, x.d = some d → D d) (hc : commutesW x y = true) (hs : j1c G m x (j1c G m y Kt) e) : j1c G m y (j1c G m x Kt) e := by
 obtain ⟨xd, xg, xq⟩ := x
 obtain ⟨yd, yg, yq⟩ := y
 simp only [commutesW, Bool.and_eq_true, Option.isNone_iff_eq_none] at hc
 obtain ⟨⟨⟨⟨c1, c2⟩, rfl⟩, rfl⟩, c3⟩ := hc
 cases xd with
 | none => simp at c3
 | some d =>
  simp only [Bool.and_eq_true, Bool.not_eq_true', bne_iff_ne, ne_eq] at c3
  have hD : D d := hx d rfl
  have hsim : xq.simple = true := j7i c1
  simp only [j1c] at hs ⊢
  rw [j3r hsim] at hs
  obtain ⟨v, hv, hy⟩ := hs
  have hroot : v.j4f = true := by
   cases xq <;> simp only at c1 <;> try cases c1
   · rename_i op a b
     simp only [Q.val] at hv
     obtain ⟨a, _, b, _, h3⟩ := hv
     obtain ⟨⟨_, rfl⟩, _, _⟩ := binV_sc h3
     rfl
   · exact hv.2
  have hvd : v.hits d [] = false := j4u h hD hv
  cases yq <;> simp only at c2 <;> try cases c2
  rename_i ya yx ys
  have hre : (Q.stsw ya yx ys).reads d = false := by
   have := c3.1
   simp only [O.reads, Bool.or_false] at this
   exact this
  simp only [Q.reads, Bool.or_eq_false_iff, beq_eq_false_iff_ne, ne_eq] at hre
  have hoff : Off (e.setD (some d) v) e d := (j3d h hD v).symm
  simp only [j0m, j0c] at hy ⊢
  obtain ⟨av, h1, xv, h2, yv, h3, hk, e1, h4, hK⟩ := hy
  rw [← j0y hoff hre.1.1] at h1
  rw [← j0y hoff hre.1.2] at h2
  rw [← hoff.1 ys hre.2] at h3
  obtain ⟨r, i, j, lx, ly, ts, ui, uj, rfl, rfl, rfl, hry, ht, hi, hj, hl, rfl⟩ := swp_spec h4
  have hrd : r ≠ d := by
   intro hh
   have := (h d hD).2 _ _ h3
   subst hh
   simp [V.hits] at this
  rw [← tree_off hoff hrd] at ht
  have er := tree_nil ht
  have hvy : v.hits ys [] = false := by
   have hkd := congrFun hk d
   have hed : (e.setD (some d) v) d = some v := by simp [Env.setD, Env.put, hvd]
   simp only [Env.kill, hed] at hkd
   cases hh : v.hits ys [] with
   | false => rfl
   | true => rw [hh] at hkd; simp at hkd
  have hk' : e.kill ys [] = e := by
   funext s
   by_cases hsd : s = d
   · subst hsd
     simp only [Env.kill]
     cases hes : e s with
     | none => rfl
     | some z =>
      obtain ⟨t, rfl, _⟩ := (h s hD).1 z hes
      simp [V.hits]
   · have := congrFun hk s
     simp only [Env.kill] at this ⊢
     rw [← hoff.1 s hsd] at this
     exact this
  have hswp : e.swp ys (.pref r [] i) (.sref r [j] 1 0 lx) (.sref r [i] 1 0 ly) = some (if i = j then e else ((e.j0g r [i] (.mem .own (some 1) uj)).j0g r [j] .gone).put ys (.val (.mem .own (some 1) ui))) := by
   simp only [Env.swp, ht, hi, hj]
   simp [hry, hl]
  refine ⟨_, h1, _, h2, _, h3, hk', _, hswp, ?_⟩
  simp only [j1c]
  rw [j3r hsim]
  by_cases hij : i = j
  · rw [if_pos hij] at hK ⊢
    exact ⟨v, hv, hK⟩
  · rw [if_neg hij] at hK ⊢
    have ht1 : (e.j0g r [i] (.mem .own (some 1) uj)).tree r [] = some (.mem .own (some 1) (ts.set i (.mem .own (some 1) uj))) := by
     simp only [Env.tree, j1g er]
     simp [T.at, T.setAt, T.j1i, T.kids]
    have er1 := tree_nil ht1
    have hil : i < ts.length := by
     rcases Nat.lt_or_ge i ts.length with h' | h'
     · exact h'
     · rw [List.getElem?_eq_none h'] at hi; cases hi
    have hf1 : j2t D (e.j0g r [i] (.mem .own (some 1) uj)) := h.less (less_setTree (p := []) ht hil)
    have hopd : ∀ {z : Opd} {u : V}, e.opd z = some u → u.j4f = true → u.hits ys [] = false → ((((e.j0g r [i] (.mem .own (some 1) uj)).j0g r [j] .gone).put ys (.val (.mem .own (some 1) ui))).opd z = some u) := fun {z u} hz hu huy => by
     have o1 := opd_store (off := i) (z := .mem .own (some 1) uj) ht hz hu
     have o2 := opd_store (off := j) (z := .gone) ht1 o1 hu
     refine opd_put o2 ?_ huy
     cases z with
     | t n =>
      by_cases hn : n = ys
      · subst hn
        simp only [Env.opd, Env.peek, h3] at hz
        cases hz
        simp [V.j4f] at hu
      · simpa [Opd.is] using hn
     | c _ => rfl
     | f _ => rfl
    refine ⟨v, ?_, ?_⟩
    · cases xq <;> simp only at c1 <;> try cases c1
      · rename_i op a b
        simp only [Q.val] at hv ⊢
        obtain ⟨a', k1, b', k2, k3⟩ := hv
        have ha : (a'.j4f = true ∧ a'.hits ys [] = false) ∧ b'.j4f = true ∧ b'.hits ys [] = false := by
         obtain ⟨_, ⟨_, rfl⟩, _, rfl⟩ := binV_sc k3
         exact ⟨⟨rfl, rfl⟩, rfl, rfl⟩
        exact ⟨a', hopd k1 ha.1.1 ha.1.2, b', hopd k2 ha.2.1 ha.2.2, k3⟩
      · exact ⟨hopd hv.1 hroot hvy, hroot⟩
    · have q1 := setD_tree h hD hrd (x := .mem .own (some 1) uj) (i := i) er hvd hroot
      have q2 := setD_tree hf1 hD hrd (x := .gone) (i := j) er1 hvd hroot
      rw [q1, q2, setD_put hre.2 hvd hvy] at hK
      exact hK

theorem tree_put {e : Env} {d r : Nat} {z : Value} (hr : r ≠ d) (p : List Nat) : (e.put d (.val (.sc z))).tree r p = e.tree r p := by
 simp only [Env.tree, Env.put, if_neg hr, Env.kill]
 cases hes : e r with
 | none => rfl
 | some x =>
  cases x with
  | val t => simp [V.hits]
  | _ => simp only; split <;> rename_i h2 <;> revert h2 <;> split <;> simp
theorem setTree_put {e : Env} {d r : Nat} {z : Value} (hr : r ≠ d) (p : List Nat) (u : T) : (e.put d (.val (.sc z))).j0g r p u = (e.j0g r p u).put d (.val (.sc z)) := by
 funext s
 by_cases hsr : s = r
 · subst hsr
   simp only [Env.j0g, if_true, Env.put, if_neg hr, Env.kill]
   cases hes : e s with
   | none => rfl
   | some x =>
    cases x with
    | val t => simp [V.hits]
    | _ => simp only; split <;> rename_i h2 <;> revert h2 <;> split <;> simp
 · by_cases hsd : s = d
   · subst hsd
     simp [Env.j0g, Env.put, hsr, Env.kill, V.hits]
   · simp only [Env.j0g, if_neg hsr, Env.put, if_neg hsd, Env.kill]
     cases hes : e s with
     | none => rfl
     | some u =>
      simp only
      cases hu1 : u.hits d [] <;> cases hu2 : u.hits r p <;> simp [hu1, hu2]
theorem del_put {e : Env} {d r : Nat} {z : Value} (hr : r ≠ d) : (e.put d (.val (.sc z))).del r = (e.del r).put d (.val (.sc z)) := by
 funext s
 by_cases hsr : s = r
 · subst hsr
   simp [Env.del, Env.put, hr, Env.kill]
 · by_cases hsd : s = d
   · subst hsd
     simp [Env.del, Env.put, hsr, Env.kill, V.hits]
   · simp only [Env.del, if_neg hsr, Env.put, if_neg hsd, Env.kill]
     cases hes : e s with
     | none => rfl
     | some u =>
      simp only
      cases hu1 : u.hits d [] <;> cases hu2 : u.hits r [] <;> simp [hu1, hu2]
theorem clear_put {e : Env} {d r : Nat} {z : Value} (hr : r ≠ d) (p : List Nat) : (e.put d (.val (.sc z))).clear r p = (e.clear r p).put d (.val (.sc z)) := by
 cases p with
 | nil => exact del_put hr
 | cons i p => exact setTree_put hr _ _
theorem puts_put {d r : Nat} {z : Value} (hr : r ≠ d) (p : List Nat) : ∀ (us : List T) (off : Nat) (e : Env), (e.put d (.val (.sc z))).puts r p off us = (e.puts r p off us).put d (.val (.sc z))
 | [], _, _ => rfl
 | u :: us, off, e => by
  simp only [Env.puts]
  rw [setTree_put hr, puts_put hr p us]
mutual
theorem take_put {d : Nat} {z : Value} : ∀ (v : V) (e : Env) {t : T} {e1 : Env}, v.hits d [] = false → (e.put d (.val (.sc z))).take v = some (t, e1) → ∃ e2, e.take v = some (t, e2) ∧ e1 = e2.put d (.val (.sc z))
 | .val u, e, t, e1, _, h => by
  simp only [Env.take] at h ⊢
  split at h
  · rename_i hn; cases h; exact ⟨e, by rw [if_pos hn], rfl⟩
  · cases h
 | .sref r p sz off len, e, t, e1, hv, h => by
  have hr := (j6q hv)
  simp only [Env.take] at h ⊢
  rw [tree_put hr] at h
  split at h
  · split at h
    · rename_i hc; cases h; rw [if_pos hc]; exact ⟨_, rfl, clear_put hr p⟩
    · cases h
  · cases h
 | .pref r p off, e, t, e1, hv, h => by
  have hr := (j6q hv)
  simp only [Env.take] at h ⊢
  rw [tree_put hr] at h
  split at h
  · rename_i ts ht
    split at h
    · rename_i hc; cases h; rw [if_pos hc]; exact ⟨_, rfl, clear_put hr p⟩
    · cases h
  · cases h
 | .vagg vs, e, t, e1, hv, h => by
  simp only [Env.take, Option.map_eq_some_iff] at h ⊢
  obtain ⟨⟨us, e'⟩, h1, h2⟩ := h
  cases h2
  obtain ⟨e2, h3, h4⟩ := takeL_put vs e (by simpa only [V.hits] using hv) h1
  exact ⟨e2, ⟨_, h3, rfl⟩, h4⟩
 | .vtup vs, e, t, e1, hv, h => by
  simp only [Env.take, Option.map_eq_some_iff] at h ⊢
  obtain ⟨⟨us, e'⟩, h1, h2⟩ := h
  cases h2
  obtain ⟨e2, h3, h4⟩ := takeL_put vs e (by simpa only [V.hits] using hv) h1
  exact ⟨e2, ⟨_, h3, rfl⟩, h4⟩
 | .same r, e, t, e1, hv, h => by
  have hr := (j6q (p := []) (by simpa [V.hits] using hv) : _)
  simp only [Env.take] at h ⊢
  rw [tree_put hr] at h
  split at h
  · rename_i ks ht
    cases h
    exact ⟨_, rfl, del_put hr⟩
  · cases h
 | .vfn _ _, _, _, _, _, h => by simp [Env.take] at h
theorem takeL_put {d : Nat} {z : Value} : ∀ (vs : List V) (e : Env) {ts : List T} {e1 : Env}, V.j1m d [] vs = false → (e.put d (.val (.sc z))).j06 vs = some (ts, e1) → ∃ e2, e.j06 vs = some (ts, e2) ∧ e1 = e2.put d (.val (.sc z))
 | [], e, ts, e1, _, h => by simp only [Env.j06] at h ⊢; cases h; exact ⟨e, rfl, rfl⟩
 | v :: vs, e, ts, e1, hv, h => by
  simp only [V.j1m, Bool.or_eq_false_iff] at hv
  simp only [Env.j06, Option.bind_eq_some_iff, Option.map_eq_some_iff] at h ⊢
  obtain ⟨⟨t, e'⟩, h1, ⟨us, e''⟩, h2, h3⟩ := h
  cases h3
  obtain ⟨e2, g1, rfl⟩ := take_put v e hv.1 h1
  obtain ⟨e3, g2, g3⟩ := takeL_put vs e2 hv.2 h2
  exact ⟨e3, ⟨_, g1, _, g2, rfl⟩, g3⟩
end

def HasSc (e : Env) (n i : Nat) (z : Value) : Prop := ∃ ts, e n = some (.val (.tup ts)) ∧ ts[i]? = some (.sc z)
theorem hasSc_setTree {e : Env} {n i r : Nat} {z : Value} {p : List Nat} {u : T} (h : HasSc e n i z) (hp : r = n → ∃ j q, p = j :: q ∧ j ≠ i) : HasSc (e.j0g r p u) n i z := by
 obtain ⟨ts, h1, h2⟩ := h
 by_cases hr : n = r
 · subst hr
   obtain ⟨j, q, rfl, hj⟩ := hp rfl
   refine ⟨ts.set j (((ts.getD j .gone)).setAt q u), ?_, ?_⟩
   · rw [j1g h1]
     rfl
   · rw [List.getElem?_set_ne hj]; exact h2
 · refine ⟨ts, ?_, h2⟩
   simp only [Env.j0g, if_neg hr, Env.kill, h1]
   simp [V.hits]
theorem hasSc_path {e : Env} {n i : Nat} {z : Value} {p : List Nat} {s : Option Nat} {k : K} {ts : List T} (h : HasSc e n i z) (ht : e.tree n p = some (.mem k s ts)) : ∃ j q, p = j :: q ∧ j ≠ i := by
 obtain ⟨us, h1, h2⟩ := h
 simp only [Env.tree, h1] at ht
 cases p with
 | nil => simp [T.at] at ht
 | cons j q =>
  refine ⟨j, q, rfl, fun hj => ?_⟩
  subst hj
  simp only [T.at, T.kids, h2, Option.bind_some] at ht
  cases q with
  | nil => simp [T.at] at ht
  | cons a q => simp [T.at, T.kids] at ht
theorem hasSc_del {e : Env} {n i r : Nat} {z : Value} (h : HasSc e n i z) (hr : n ≠ r) : HasSc (e.del r) n i z := by
 obtain ⟨ts, h1, h2⟩ := h
 refine ⟨ts, ?_, h2⟩
 simp only [Env.del, if_neg hr, Env.kill, h1]
 simp [V.hits]
theorem hasSc_clear {e : Env} {n i r : Nat} {z : Value} {p : List Nat} {s : Option Nat} {k : K} {ts : List T} (h : HasSc e n i z) (ht : e.tree r p = some (.mem k s ts)) : HasSc (e.clear r p) n i z := by
 cases p with
 | nil =>
  refine hasSc_del h fun hr => ?_
  subst hr
  obtain ⟨j, q, hq, _⟩ := hasSc_path h ht
  cases hq
 | cons a p => exact hasSc_setTree h fun hr => by subst hr; exact hasSc_path h ht
mutual
theorem hasSc_take {n i : Nat} {z : Value} : ∀ (v : V) (e : Env) {t : T} {e1 : Env}, HasSc e n i z → e.take v = some (t, e1) → HasSc e1 n i z
 | .val u, e, t, e1, hh, h => by
  simp only [Env.take] at h
  split at h
  · cases h; exact hh
  · cases h
 | .sref r p sz off len, e, t, e1, hh, h => by
  simp only [Env.take] at h
  split at h
  · rename_i sz' ts ht
    split at h
    · cases h; exact hasSc_clear hh ht
    · cases h
  · cases h
 | .pref r p off, e, t, e1, hh, h => by
  simp only [Env.take] at h
  split at h
  · rename_i ts ht
    split at h
    · cases h; exact hasSc_clear hh ht
    · cases h
  · cases h
 | .vagg vs, e, t, e1, hh, h => by
  simp only [Env.take, Option.map_eq_some_iff] at h
  obtain ⟨⟨us, e'⟩, h1, h2⟩ := h
  cases h2
  exact hasSc_takeL vs e hh h1
 | .vtup vs, e, t, e1, hh, h => by
  simp only [Env.take, Option.map_eq_some_iff] at h
  obtain ⟨⟨us, e'⟩, h1, h2⟩ := h
  cases h2
  exact hasSc_takeL vs e hh h1
 | .same r, e, t, e1, hh, h => by
  simp only [Env.take] at h
  split at h
  · rename_i ks ht
    cases h
    refine hasSc_del hh fun hr => ?_
    subst hr
    obtain ⟨us, h1, _⟩ := hh
    simp [Env.tree, h1, T.at] at ht
  · cases h
 | .vfn _ _, _, _, _, _, h => by simp [Env.take] at h
theorem hasSc_takeL {n i : Nat} {z : Value} : ∀ (vs : List V) (e : Env) {ts : List T} {e1 : Env}, HasSc e n i z → e.j06 vs = some (ts, e1) → HasSc e1 n i z
 | [], e, ts, e1, hh, h => by simp only [Env.j06] at h; cases h; exact hh
 | v :: vs, e, ts, e1, hh, h => by
  simp only [Env.j06, Option.bind_eq_some_iff, Option.map_eq_some_iff] at h
  obtain ⟨⟨t, e'⟩, h1, ⟨us, e''⟩, h2, h3⟩ := h
  cases h3
  exact hasSc_takeL vs e' (hasSc_take v e hh h1) h2
end
theorem hasSc_puts {n i r : Nat} {z : Value} {p : List Nat} (hp : r = n → ∃ j q, p = j :: q ∧ j ≠ i) : ∀ (us : List T) (off : Nat) (e : Env), HasSc e n i z → HasSc (e.puts r p off us) n i z
 | [], _, _, h => h
 | u :: us, off, e, h => by
  simp only [Env.puts]
  refine hasSc_puts hp us _ _ (hasSc_setTree h fun hr => ?_)
  obtain ⟨j, q, rfl, hj⟩ := hp hr
  exact ⟨j, q ++ [off], rfl, hj⟩
theorem swapT {G : Rl} {m : K} {x y : O} {Kt : Env → Prop} {e : Env} {D : Nat → Prop} (h : j2t D e) (hx : ∀ d, x.d = some d → D d) (hc : commutesT x y = true) (hs : j1c G m x (j1c G m y Kt) e) : j1c G m y (j1c G m x Kt) e := by
 obtain ⟨xd, xg, xq⟩ := x
 obtain ⟨yd, yg, yq⟩ := y
 simp only [commutesT, Bool.and_eq_true, Option.isNone_iff_eq_none] at hc
 obtain ⟨⟨⟨⟨c1, c2⟩, rfl⟩, rfl⟩, c3⟩ := hc
 cases xd with
 | none => simp at c3
 | some d =>
  simp only [Bool.and_eq_true, Bool.not_eq_true', bne_iff_ne, ne_eq] at c3
  have hD : D d := hx d rfl
  cases xq <;> simp only at c1 <;> try cases c1
  rename_i n i
  cases yq <;> simp only at c2 <;> try cases c2
  rename_i k ya yx
  have hre : (Q.st k ya yx).reads d = false := by
   have := c3.1
   simp only [O.reads, Bool.or_false] at this
   exact this
  simp only [Q.reads, Bool.or_eq_false_iff] at hre
  simp only [j1c, j0m, j0c] at hs ⊢
  obtain ⟨xv, h1, z, h2, av, h3, v, h4, ⟨t, E1⟩, h5, hK⟩ := hs
  have hsc : HasSc e n i z := by
   cases xv with
   | val t =>
    cases t with
    | tup ts =>
     refine ⟨ts, h1, ?_⟩
     simp only [V.scAt] at h2
     cases hg : ts[i]? with
     | none => rw [hg] at h2; cases h2
     | some t =>
      rw [hg] at h2
      cases t with
      | sc y => simp only [Option.bind_some, scT, Option.some.injEq] at h2; subst h2; rfl
      | _ => cases h2
    | _ => cases h2
   | _ => cases h2
  have hoff := j3d h hD (.val (.sc z))
  rw [j0y hoff hre.1] at h3
  rw [j0y hoff hre.2] at h4
  obtain ⟨e2, g1, g2⟩ := take_put v e (opd_hits hoff hre.2 h4) h5
  subst g2
  refine ⟨av, h3, v, h4, _, g1, ?_⟩
  simp only at hK ⊢
  split at hK
  · rename_i r p off
    have hrd : r ≠ d := fun hh => by
     have := opd_hits hoff hre.1 h3
     subst hh
     simp [V.hits] at this
    rw [tree_put hrd] at hK
    split at hK
    · rename_i s ts ht
      refine ⟨hK.1, ?_⟩
      have hsc2 := hasSc_take v e hsc g1
      have hp : r = n → ∃ j q, p = j :: q ∧ j ≠ i := fun hr => by rw [hr] at ht; exact hasSc_path hsc2 ht
      obtain ⟨us, k1, k2⟩ := hasSc_puts hp t.cells off e2 hsc2
      refine ⟨_, k1, z, by simp [V.scAt, k2, scT], ?_⟩
      have := hK.2
      rw [puts_put hrd] at this
      exact this
    · exact hK.elim
  · exact hK.elim

theorem del_putT {e : Env} {d r : Nat} {t : T} (hr : r ≠ d) : (e.put d (.val t)).del r = (e.del r).put d (.val t) := by
 funext s
 by_cases hsr : s = r
 · subst hsr
   simp [Env.del, Env.put, hr, Env.kill]
 · by_cases hsd : s = d
   · subst hsd
     simp [Env.del, Env.put, hsr, Env.kill, V.hits]
   · simp only [Env.del, if_neg hsr, Env.put, if_neg hsd, Env.kill]
     cases hes : e s with
     | none => rfl
     | some u =>
      simp only
      cases hu1 : u.hits d [] <;> cases hu2 : u.hits r [] <;> simp [hu1, hu2]
theorem swapA {G : Rl} {m : K} {x y : O} {Kt : Env → Prop} {e : Env} {D : Nat → Prop} (h : j2t D e) (hx : ∀ d, x.d = some d → D d) (hy : ∀ d, y.d = some d → D d) (hc : commutesA x y = true) (hs : j1c G m x (j1c G m y Kt) e) : j1c G m y (j1c G m x Kt) e := by
 obtain ⟨xd, xg, xq⟩ := x
 obtain ⟨yd, yg, yq⟩ := y
 simp only [commutesA, Bool.and_eq_true, Option.isNone_iff_eq_none] at hc
 obtain ⟨⟨rfl, rfl⟩, c3⟩ := hc
 split at c3
 · rename_i dx sz n dy zs
   simp only [Bool.and_eq_true, bne_iff_ne, ne_eq] at c3
   have hDx : D dx := hx dx rfl
   have hDy : D dy := hy dy rfl
   simp only [j1c, j0m, j0c] at hs ⊢
   obtain ⟨v, h1, u, h2, h3, hK⟩ := hs
   have hn : n ≠ dy := fun hh => c3.2 hh.symm
   have hoff := j3d h hDy (.val (.mem .own none (zs.map .sc)))
   refine ⟨v, by rw [hoff.1 n hn]; exact h1, u, h2, ?_, ?_⟩
   · funext s
     by_cases hsy : s = dy
     · subst hsy
       simp [Env.kill, Env.setD, Env.put, V.hits]
     · have := congrFun h3 s
       simp only [Env.kill] at this ⊢
       rw [hoff.1 s hsy]
       exact this
   · have hfd : j2t D (e.del n) := h.less (j7j e n)
     have e1 : ((e.setD (some dy) (.val (.mem .own none (zs.map .sc)))).del n) = (e.del n).setD (some dy) (.val (.mem .own none (zs.map .sc))) := del_putT hn
     rw [e1, j7s hfd hDy hDx (fun hh => c3.1 hh.symm) rfl rfl rfl rfl]
     exact hK
 · cases c3


theorem nkill_iff {e : Env} {n : Nat} : e.nkill n = e ↔ ∀ s x, e s = some x → x.hits n [] = false ∨ x = .same n := by
 refine ⟨fun h s x hs => nkill_spec h hs, fun h => ?_⟩
 funext s
 simp only [Env.nkill]
 cases hes : e s with
 | none => rfl
 | some x =>
  rcases h s x hes with h1 | rfl
  · simp [h1]
  · simp [V.isSame]
theorem j6v {e : Env} {n : Nat} {t : T} {x : Opd} (hx : x.is n = false) : (e.over n t).opd x = e.opd x := by
 cases x with
 | t k =>
  simp only [Opd.is, beq_eq_false_iff_ne, ne_eq] at hx
  simp only [Env.opd, Env.peek, Env.over, if_neg hx]
 | _ => rfl
theorem opd_nh {e : Env} {n : Nat} (hk : e.nkill n = e) {x : Opd} (hx : x.is n = false) {v : V} (h : e.opd x = some v) : v.hits n [] = false ∨ v = .same n := by
 cases x with
 | t k =>
  simp only [Opd.is, beq_eq_false_iff_ne, ne_eq] at hx
  simp only [Env.opd, Env.peek] at h
  cases hek : e k with
  | none => rw [hek] at h; cases h
  | some y =>
   rw [hek] at h
   cases y with
   | val t =>
    simp only [Option.some.injEq] at h
    subst h
    exact .inl (j7x hx t [])
   | _ =>
    simp only [Option.some.injEq] at h
    subst h
    exact nkill_spec hk hek
 | c v => simp only [Env.opd, Option.some.injEq] at h; subst h; exact .inl rfl
 | f id => simp only [Env.opd, Option.some.injEq] at h; subst h; exact .inl rfl
theorem opds_past {e : Env} {n : Nat} {t : T} : ∀ xs : List Opd, xs.all (fun x => !x.is n) = true → (e.over n t).opds xs = e.opds xs
 | [], _ => rfl
 | x :: xs, h => by
  simp only [List.all_cons, Bool.and_eq_true, Bool.not_eq_true'] at h
  simp only [Env.opds, j6v h.1, opds_past xs h.2]
theorem tree_past {e : Env} {n r : Nat} {t : T} {p : List Nat} (hr : r ≠ n) : (e.over n t).tree r p = e.tree r p := by simp only [Env.tree, Env.over, if_neg hr]
theorem fld_past {e : Env} {n : Nat} {t : T} {off : Nat} {v : V} (hv : v.hits n [] = false ∨ v = .same n) : (e.over n t).fld off v = e.fld off v := by
 rcases hv with hv | rfl
 · cases v with
   | pref r p o => simp only [Env.fld, tree_past (j6q hv)]
   | val t => cases t <;> try rfl
              rename_i k s ts; cases s <;> rfl
   | _ => rfl
 · rfl
theorem ld_past {e : Env} {n : Nat} {t : T} {k : Option Nat} {v : V} (hv : v.hits n [] = false ∨ v = .same n) : (e.over n t).ld k v = e.ld k v := by
 rcases hv with hv | rfl
 · cases v with
   | pref r p o => simp only [Env.ld, tree_past (j6q hv)]
   | val t => cases t <;> try rfl
              rename_i k s ts; cases s <;> rfl
   | _ => rfl
 · rfl
theorem val_past {G : Rl} {e : Env} {n : Nat} {ts ts' : List T} (hk : e.nkill n = e) (hn : e n = some (.val (.mem .own none ts))) {q : Q} (hp : q.past n = true) {v : V} (hv : q.val G e v) : q.val G (e.over n (.mem .own none ts')) v := by
 cases q <;> simp only [Q.past, Q.lite, Bool.and_eq_true, Bool.false_eq_true, false_and] at hp
 case mv x =>
  simp only [Q.reads, Bool.not_eq_true'] at hp
  simp only [Q.val] at hv ⊢
  rw [j6v hp.2]; exact hv
 case bin op x y =>
  simp only [Q.reads, Bool.not_eq_true', Bool.or_eq_false_iff] at hp
  simp only [Q.val] at hv ⊢
  rw [j6v hp.2.1, j6v hp.2.2]; exact hv
 case len x =>
  simp only [Q.reads, Bool.not_eq_true'] at hp
  simp only [Q.val] at hv ⊢
  rw [j6v hp.2]; exact hv
 case idx sz x i =>
  simp only [Q.reads, Bool.not_eq_true', Bool.or_eq_false_iff] at hp
  simp only [Q.val] at hv ⊢
  rw [j6v hp.2.1, j6v hp.2.2]; exact hv
 case fld off x =>
  simp only [Q.reads, Bool.not_eq_true'] at hp
  simp only [Q.val] at hv ⊢
  obtain ⟨a, h1, h2⟩ := hv
  exact ⟨a, by rw [j6v hp.2]; exact h1, by rw [fld_past (opd_nh hk hp.2 h1)]; exact h2⟩
 case ld k x =>
  simp only [Q.reads, Bool.not_eq_true'] at hp
  simp only [Q.val] at hv ⊢
  obtain ⟨a, h1, h2⟩ := hv
  exact ⟨a, by rw [j6v hp.2]; exact h1, by rw [ld_past (opd_nh hk hp.2 h1)]; exact h2⟩
 case mvs j =>
  simp only [Q.val] at hv ⊢
  obtain ⟨x, h1, us, h2, h3⟩ := hv
  by_cases hj : j = n
  · subst hj
    exact ⟨.val (.mem .own none ts'), by simp [Env.over], ts', rfl, h3⟩
  · exact ⟨x, by simp only [Env.over, if_neg hj]; exact h1, us, h2, h3⟩
 case bslw sz ps =>
  simp only [Q.reads, Bool.not_not] at hp
  simp only [Q.val] at hv ⊢
  rw [opds_past ps hp.2]; exact hv
 case alloc => exact hv
theorem val_nh {G : Rl} {e : Env} {n : Nat} (hk : e.nkill n = e) {q : Q} (hp : q.past n = true) {v : V} (hv : q.val G e v) : v.hits n [] = false ∨ v = .same n := by
 cases q <;> simp only [Q.past, Q.lite, Bool.and_eq_true, Bool.false_eq_true, false_and] at hp
 case mv x =>
  simp only [Q.reads, Bool.not_eq_true'] at hp
  exact opd_nh hk hp.2 hv
 case bin op x y =>
  obtain ⟨a, _, b, _, h3⟩ := hv
  obtain ⟨⟨z, rfl⟩, _⟩ := binV_sc h3
  exact .inl rfl
 case len x => obtain ⟨_, _, rfl⟩ := hv; exact .inl rfl
 case idx sz x i =>
  simp only [Q.reads, Bool.not_eq_true', Bool.or_eq_false_iff] at hp
  obtain ⟨a, h1, k, _, h3⟩ := hv
  have h4 := opd_nh hk hp.2.1 h1
  unfold idxV at h3
  split at h3
  · split at h3
    · cases h3; exact .inl rfl
    · cases h3
  · split at h3
    · cases h3
      rcases h4 with h4 | h4
      · exact .inl h4
      · cases h4
    · cases h3
  · cases h3
 case fld off x =>
  simp only [Q.reads, Bool.not_eq_true'] at hp
  obtain ⟨a, h1, h3⟩ := hv
  have h4 := opd_nh hk hp.2 h1
  unfold Env.fld at h3
  split at h3
  · split at h3
    · cases h3; exact .inl rfl
    · cases h3
  · split at h3
    · split at h3
      · cases h3
        rcases h4 with h4 | h4
        · exact .inl h4
        · cases h4
      · cases h3
    · cases h3
  · cases h3
 case ld k x =>
  simp only [Q.reads, Bool.not_eq_true'] at hp
  obtain ⟨a, h1, h3⟩ := hv
  have h4 := opd_nh hk hp.2 h1
  unfold Env.ld at h3
  split at h3
  · split at h3
    · rw [Option.map_eq_some_iff] at h3; obtain ⟨_, _, rfl⟩ := h3; exact .inl rfl
    · split at h3
      · cases h3
        left
        simp only [V.hits]
        exact hitsL_of fun v hv => by obtain ⟨t, _, rfl⟩ := List.mem_map.1 hv; rfl
      · cases h3
  · rcases h4 with h4 | h4
    · have hr := j6q h4
      left
      split at h3
      · split at h3
        · rw [Option.map_eq_some_iff] at h3; obtain ⟨_, _, rfl⟩ := h3; exact j7x hr _ _
        · split at h3
          · cases h3; simp only [V.hits]; exact j7y hr _ _ _
          · cases h3
      · cases h3
    · cases h4
  · cases h3
 case mvs j =>
  obtain ⟨x, _, us, _, rfl⟩ := hv
  by_cases hj : n = j
  · subst hj; exact .inr rfl
  · left; simp [V.hits, hj]
 case bslw sz ps => obtain ⟨_, _, _, _, rfl⟩ := hv; exact .inl rfl
 case alloc => cases hv; exact .inl rfl
theorem past_rOnly {n : Nat} {q : Q} (hp : q.past n = true) : q.rOnly = true := by
 cases q <;> simp only [Q.past, Q.lite, Bool.and_eq_true, Bool.false_eq_true, false_and] at hp <;> rfl
theorem over_back {e : Env} {n : Nat} {t t' : T} (hn : e n = some (.val t)) : (e.over n t').over n t = e := by
 funext s
 simp only [Env.over]
 by_cases hs : s = n
 · subst hs; simp [hn]
 · simp [hs]
theorem nkill_over {e : Env} {n : Nat} (hk : e.nkill n = e) (t : T) : (e.over n t).nkill n = e.over n t := by
 rw [nkill_iff]
 intro s x hs
 simp only [Env.over] at hs
 split at hs
 · cases hs; exact .inl rfl
 · exact nkill_spec hk hs
theorem vals_off {e e' : Env} {d : Nat} (h : Off e e' d) : ∀ xs : List Opd, xs.all (fun x => !x.is d) = true → e'.vals xs = e.vals xs
 | [], _ => rfl
 | x :: xs, hx => by
  simp only [List.all_cons, Bool.and_eq_true, Bool.not_eq_true'] at hx
  simp only [Env.vals, j0y h hx.1, vals_off h xs hx.2]
theorem setD_over {e : Env} {n d : Nat} {v : V} {t : T} (hd : d ≠ n) : (e.setD (some d) v).over n t = (e.over n t).setD (some d) v := by
 funext s
 simp only [Env.over, Env.setD, Env.put, Env.kill]
 by_cases hs : s = n
 · subst hs
   simp [Ne.symm hd, V.hits]
 · simp [hs]
theorem swapC {G : Rl} {m : K} {x y : O} {Kt : Env → Prop} {e : Env} {D : Nat → Prop} (h : j2t D e) (hx : ∀ d, x.d = some d → D d) (hy : ∀ d, y.d = some d → D d) (hc : commutesC x y = true) (hs : j1c G m x (j1c G m y Kt) e) : j1c G m y (j1c G m x Kt) e := by
 obtain ⟨xd, xg, xq⟩ := x
 obtain ⟨yd, yg, yq⟩ := y
 simp only [commutesC, Bool.and_eq_true, Option.isNone_iff_eq_none] at hc
 obtain ⟨⟨rfl, rfl⟩, hc⟩ := hc
 cases xd with
 | none => cases hc
 | some dx =>
  cases yd with
  | none => cases hc
  | some dy =>
   simp only [Bool.and_eq_true, bne_iff_ne, ne_eq] at hc
   obtain ⟨hne, hc⟩ := hc
   have Dx := hx dx rfl
   have Dy := hy dy rfl
   simp only [j1c] at hs ⊢
   split at hc
   · rename_i f xo n xs
     simp only [Bool.and_eq_true, bne_iff_ne, ne_eq, Bool.not_eq_true', Q.reads, Bool.or_eq_false_iff, Bool.not_eq_false'] at hc
     obtain ⟨⟨⟨⟨hdx, hdy⟩, hp⟩, ⟨⟨⟨rf, rx⟩, _⟩, rxs⟩⟩, ry⟩ := hc
     have hsim : xq.simple = true := by
      cases xq <;> simp only [Q.past, Q.lite, Bool.and_eq_true, Bool.false_eq_true, false_and] at hp <;> rfl
     rw [j3r hsim] at hs
     obtain ⟨v, hv, hs⟩ := hs
     have o1 := j3d h Dx v
     simp only [j0m, j0c] at hs ⊢
     obtain ⟨fv, h1, id, h2, av, h3, j, h4, b, h5, ts, h6, us, h7, ⟨hj, h8, h9, h10⟩, ts', r, h11, hK⟩ := hs
     have hj := hj.symm
     subst hj
     rw [j0y o1 rf] at h1
     rw [j0y o1 rx] at h3
     rw [o1.1 n (Ne.symm hdx)] at h5
     rw [vals_off o1 xs rxs] at h7
     have hnk : e.nkill n = e := by
      rw [nkill_iff] at h10 ⊢
      intro s z hz
      by_cases hsd : s = dx
      · subst hsd
        obtain ⟨t, rfl, _⟩ := (h s Dx).1 z hz
        exact .inl rfl
      · exact h10 s z (by rw [o1.1 s hsd]; exact hz)
     have hn : e n = some (.val (.mem .own none ts)) := by rw [h5, boxT_some h6]
     refine ⟨fv, h1, id, h2, av, h3, n, h4, b, h5, ts, h6, us, h7, ⟨rfl, h8, h9, hnk⟩, ts', r, h11, ?_⟩
     simp only [j1c]
     rw [j3r hsim]
     have hF := h.over hn ts'
     refine ⟨v, val_off (j3d hF Dy (.val r)) hsim ry (val_past hnk hn hp hv), ?_⟩
     rw [setD_over hdx, j7s hF Dx Dy hne (j4u h Dx hv) (j4u h Dy hv) rfl rfl] at hK
     exact hK
   · split at hc
     · rename_i f xo n xs
       simp only [Bool.and_eq_true, bne_iff_ne, ne_eq, Bool.not_eq_true', Q.reads, Bool.or_eq_false_iff, Bool.not_eq_false'] at hc
       obtain ⟨⟨⟨⟨hdx, hdy⟩, hp⟩, ⟨⟨⟨rf, rx⟩, _⟩, rxs⟩⟩, ry⟩ := hc
       have hsim : yq.simple = true := by
        cases yq <;> simp only [Q.past, Q.lite, Bool.and_eq_true, Bool.false_eq_true, false_and] at hp <;> rfl
       rw [j3r hsim]
       simp only [j0m, j0c] at hs ⊢
       obtain ⟨fv, h1, id, h2, av, h3, j, h4, b, h5, ts, h6, us, h7, ⟨hj, h8, h9, h10⟩, ts', r, h11, hK⟩ := hs
       have hj := hj.symm
       subst hj
       simp only [j1c] at hK
       rw [j3r hsim] at hK
       obtain ⟨v, hv, hK⟩ := hK
       have hn : e n = some (.val (.mem .own none ts)) := by rw [h5, boxT_some h6]
       have hF := h.over hn ts'
       have hv1 := val_off (j3d hF Dx (.val r)).symm hsim ry hv
       have hv2 := val_past (ts' := ts) (nkill_over h10 _) (show (e.over n (.mem .own none ts')) n = some (.val (.mem .own none ts')) by simp [Env.over]) hp hv1
       rw [over_back hn] at hv2
       have o1 := j3d h Dy v
       refine ⟨v, hv2, ?_⟩
       have hnk : (e.setD (some dy) v).nkill n = e.setD (some dy) v := by
        rw [nkill_iff]
        intro s z hz
        by_cases hsd : s = dy
        · subst hsd
          simp only [Env.setD, Env.put, if_true] at hz
          split at hz
          · cases hz
          · cases hz; exact val_nh h10 hp hv2
        · rw [o1.1 s hsd] at hz
          exact nkill_spec h10 hz
       refine ⟨fv, by rw [j0y o1 rf]; exact h1, id, h2, av, by rw [j0y o1 rx]; exact h3, n, h4, b, by rw [o1.1 n (Ne.symm hdy)]; exact h5, ts, h6, us, by rw [vals_off o1 xs rxs]; exact h7, ⟨rfl, h8, h9, hnk⟩, ts', r, h11, ?_⟩
       rw [setD_over hdy, ← j7s hF Dx Dy hne rfl rfl (j4u h Dx hv2) (j4u h Dy hv2)]
       exact hK
     · cases hc

theorem swapO {G : Rl} {m : K} {x y : O} {Kt : Env → Prop} {e : Env} {D : Nat → Prop} (h : j2t D e) (hx : ∀ d, x.d = some d → D d) (hy : ∀ d, y.d = some d → D d) (hc : commutes x y = true) (hs : j1c G m x (j1c G m y Kt) e) : j1c G m y (j1c G m x Kt) e := by
 simp only [commutes, Bool.or_eq_true] at hc
 rcases hc with ((((((hc | hc) | hc) | hc) | hc) | hc) | hc) | hc
 case inr => exact swapC h hx hy hc hs
 case inl.inr => exact swapA h hx hy hc hs
 case inl.inl.inr => exact swapT h hx hc hs
 case inl.inl.inl.inr => exact swapK h hx hy hc hs
 case inl.inl.inl.inl.inr => exact swapW h hx hc hs
 case inl.inl.inl.inl.inl.inr => exact swapB h hx hy hc hs
 case inl.inl.inl.inl.inl.inl.inr => exact swapS h hx hc hs
 simp only [commutesP, Bool.and_eq_true] at hc
 obtain ⟨⟨⟨qx, qy⟩, c1⟩, c2⟩ := hc
 rw [stepO_val qx] at hs
 obtain ⟨vx, h1, h2⟩ := hs
 rw [stepO_val qy] at h2
 obtain ⟨vy, h3, h4⟩ := h2
 rw [stepO_val qy]
 have hvy : y.val G e vy := by
  cases hxd : x.d with
  | none => rw [hxd] at h3; exact h3
  | some d =>
   rw [hxd] at h3 c1
   simp only [Bool.and_eq_true, Bool.not_eq_true'] at c1
   exact oval_off (j3d h (hx d hxd) vx).symm qy c1.1 h3
 refine ⟨vy, hvy, ?_⟩
 rw [stepO_val qx]
 refine ⟨vx, ?_, ?_⟩
 · cases hyd : y.d with
   | none => exact h1
   | some d =>
    rw [hyd] at c2
    simp only [Bool.not_eq_true'] at c2
    exact oval_off (j3d h (hy d hyd) vy) qx c2 h1
 · cases hxd : x.d with
   | none => rw [hxd] at h4; exact h4
   | some d1 =>
    cases hyd : y.d with
    | none => rw [hxd, hyd] at h4; exact h4
    | some d2 =>
     rw [hxd, hyd] at h4
     rw [hxd, hyd] at c1
     simp only [Bool.and_eq_true, bne_iff_ne, ne_eq, Option.some.injEq] at c1
     rw [← j7s h (hx d1 hxd) (hy d2 hyd) (fun e' => c1.2 e'.symm) (oval_hits h (hx d1 hxd) h1) (oval_hits h (hy d2 hyd) h1) (oval_hits h (hx d1 hxd) hvy) (oval_hits h (hy d2 hyd) hvy)]
     exact h4

theorem bubble {G : Rl} {m : K} (hm : m ≠ .own) {o : O} {post : List O} {Kt : Env → Prop} : ∀ (pre : List O) {e : Env} {D : Nat → Prop}, j2t D e → (∀ p, p ∈ pre → commutes p o = true ∧ (∀ d, p.d = some d → D d) ∧ ∀ d, o.d = some d → D d) →
 (pre.map (·.d)).Pairwise (fun a b => ∀ d, a = some d → b ≠ some d) → wpL G m (pre ++ o :: post) Kt e → wpL G m (o :: (pre ++ post)) Kt e
 | [], e, D, _, _, _, hs => hs
 | p :: pre, e, D, h, hc, hpw, hs => by
  obtain ⟨hcp, hp, ho⟩ := hc p (by simp)
  have hsim : (p.q.simple = true ∨ p.g = none ∧ p.q.rOnly = true) ∧ (∀ d, p.d = some d → o.d ≠ some d) := by
   have h9 := hcp
   simp only [commutes, Bool.or_eq_true] at h9
   rcases h9 with ((((((h9 | h9) | h9) | h9) | h9) | h9) | h9) | h9
   · simp only [commutesP, Bool.and_eq_true] at h9
     obtain ⟨⟨⟨qp, qo⟩, c1⟩, _⟩ := h9
     refine ⟨.inl qp, fun d hd => ?_⟩
     rw [hd] at c1
     simp only [Bool.and_eq_true, bne_iff_ne, ne_eq] at c1
     exact c1.2
   · simp only [commutesS, Bool.and_eq_true] at h9
     obtain ⟨⟨⟨⟨c1, _⟩, _⟩, _⟩, c3⟩ := h9
     refine ⟨.inl (j7i c1), fun d hd => ?_⟩
     rw [hd] at c3
     simp only [Bool.and_eq_true, bne_iff_ne, ne_eq] at c3
     exact c3.2
   · simp only [commutesB, Bool.and_eq_true] at h9
     obtain ⟨⟨⟨c1, _⟩, _⟩, c3⟩ := h9
     refine ⟨.inl c1, fun d hd hod => ?_⟩
     rw [hd, hod] at c3
     split at c3
     · rename_i h1 h2 h3
       cases h1; cases h2
       simp at c3
     · cases c3
   · simp only [commutesW, Bool.and_eq_true] at h9
     obtain ⟨⟨⟨⟨c1, _⟩, _⟩, _⟩, c3⟩ := h9
     refine ⟨.inl (j7i c1), fun d hd => ?_⟩
     rw [hd] at c3
     simp only [Bool.and_eq_true, bne_iff_ne, ne_eq] at c3
     exact c3.2
   · simp only [commutesK, Bool.and_eq_true] at h9
     obtain ⟨⟨⟨c1, _⟩, _⟩, c3⟩ := h9
     refine ⟨.inl c1, fun d hd hod => ?_⟩
     rw [hd, hod] at c3
     split at c3
     · rename_i h1 h2 h3
       cases h1; cases h2
       simp at c3
     · cases c3
   · simp only [commutesT, Bool.and_eq_true] at h9
     obtain ⟨⟨⟨⟨c1, _⟩, _⟩, _⟩, c3⟩ := h9
     refine ⟨.inl (by revert c1; cases p.q <;> simp [Q.simple]), fun d hd => ?_⟩
     rw [hd] at c3
     simp only [Bool.and_eq_true, bne_iff_ne, ne_eq] at c3
     exact c3.2
   · simp only [commutesA, Bool.and_eq_true, Option.isNone_iff_eq_none] at h9
     obtain ⟨⟨c1, _⟩, c3⟩ := h9
     split at c3
     · rename_i h1 h2 h3 _
       simp only [Bool.and_eq_true, bne_iff_ne, ne_eq] at c3
       refine ⟨.inr ⟨c1, by rw [h2]; rfl⟩, fun d hd hod => ?_⟩
       rw [h1] at hd
       rw [h3] at hod
       cases hd; cases hod
       exact c3.1 rfl
     · cases c3
   · simp only [commutesC, Bool.and_eq_true, Option.isNone_iff_eq_none] at h9
     obtain ⟨⟨c1, _⟩, c3⟩ := h9
     split at c3
     · rename_i dx dy h1 h2
       simp only [Bool.and_eq_true, bne_iff_ne, ne_eq] at c3
       refine ⟨.inr ⟨c1, ?_⟩, fun d hd hod => ?_⟩
       · obtain ⟨_, c4⟩ := c3
         split at c4
         · simp only [Bool.and_eq_true] at c4
           exact past_rOnly c4.1.1.2
         · split at c4
           · rename_i h3; rw [h3]; rfl
           · cases c4
       · rw [h1] at hd
         rw [h2] at hod
         cases hd; cases hod
         exact c3.1 rfl
     · cases c3
  obtain ⟨qp, c1⟩ := hsim
  have h1 : j1c G m p (wpL G m (pre ++ o :: post) Kt) e := hs
  have hkey : j1c G m p (j1c G m o (wpL G m (pre ++ post) Kt)) e := by
   simp only [List.map_cons, List.pairwise_cons] at hpw
   have hsub : j2t (fun d => D d ∧ p.d ≠ some d) e := fun d hd => h d hd.1
   have hgo : ∀ e', j2t (fun d => D d ∧ p.d ≠ some d) e' → wpL G m (pre ++ o :: post) Kt e' → wpL G m (o :: (pre ++ post)) Kt e' := fun e' hF hK => by
    refine bubble hm pre (D := fun d => D d ∧ p.d ≠ some d) hF (fun q hq => ⟨(hc q (by simp [hq])).1, fun d hd => ⟨(hc q (by simp [hq])).2.1 d hd, fun hpd => hpw.1 q.d (List.mem_map.2 ⟨q, hq, rfl⟩) d hpd hd⟩, fun d hd => ⟨ho d hd, fun hpd => ?_⟩⟩) hpw.2 hK
    exact c1 d hpd hd
   rcases qp with qp | ⟨pg, qp⟩
   · rw [stepO_val qp] at h1 ⊢
     obtain ⟨v, hv, hK⟩ := h1
     refine ⟨v, hv, ?_⟩
     have hF : j2t (fun d => D d ∧ p.d ≠ some d) (e.setD p.d v) := hsub.setD (fun x hx hh => hh.2 hx) fun d hd => oval_hits h hd.1 hv
     exact hgo _ hF hK
   · obtain ⟨pd, pg', pq⟩ := p
     simp only at pg
     subst pg
     simp only [j1c] at h1 ⊢
     exact stepQ_mono (fun _ _ _ _ hg => hg) (fun e' hh => hgo e' hh.2 hh.1) (fresh_stepQ hm hsub (fun x hx hh => hh.2 hx) qp h1)
  exact swapO h hp ho hcp hkey

end Go.Mch
namespace Go.Mch

def okRow (P : Program) (fm : Nat → Nat) (nt : Nat) (ops : Array Oper) : List O → List Oper → Bool
 | [], [] => true
 | o :: l, x :: xs => okO P fm nt ops o x && okRow P fm nt ops l xs
 | _, _ => false

def maskOf (acc : List Nat) : List Edge → Nat
 | [] => 0
 | e :: es => if Region.binds .any e then (2 ^ e.on ||| acc.getD e.on 0) ||| maskOf acc es else maskOf acc es

def masks : List Oper → List Nat → List Nat
 | [], acc => acc
 | x :: xs, acc => masks xs (acc ++ [maskOf acc x.after.toList])

def okEdges : Nat → List Oper → Bool
 | _, [] => true
 | i, x :: xs => x.after.toList.all (fun e => !Region.binds .any e || decide (e.on < i)) && okEdges (i + 1) xs

def dstIn (ds : List Nat) (o : O) : Bool := o.d.all ds.contains

def okPairs (ms ds : List Nat) (os : List O) : Bool :=
 (List.range os.length).all fun i => (List.range i).all fun j => (ms.getD i 0).testBit j || (commutes (os.getD j default) (os.getD i default) && dstIn ds (os.getD j default) && dstIn ds (os.getD i default))

def okDsts : List O → Bool
 | [] => true
 | o :: l => (match o.d with | some d => l.all (fun p => p.d != some d) | none => true) && okDsts l

def okDraw (P : Program) (fm : Nat → Nat) (nt : Nat) (ops : Array Oper) (ds : List Nat) (os : List O) : Bool :=
 okRow P fm nt ops os ops.toList && okEdges 0 ops.toList && okDsts os && okPairs (masks ops.toList []) ds os && os.all (fun o => o.q.rOnly)

section
variable {P : Program} {cx : Cx} {nt : Nat} {Kt : Env → Prop} {G : Rl} {m : K} {ops : Array Oper} {os : List O}

def Closed (ops : Array Oper) (listed : Array Bool) : Prop := ∀ (i : Nat) (x : Oper), ops[i]? = some x → listed.getD i true = true → ∀ e, e ∈ x.after → Region.binds .any e = true → listed.getD e.on false = true

def Dn (ops : Array Oper) (i j : Nat) : Prop := ∀ (listed : Array Bool) (x : Oper), Closed ops listed → ops[i]? = some x → (∀ e, e ∈ x.after → Region.binds .any e = true → listed.getD e.on false = true) → listed.getD j false = true

theorem getD_tf {l : Array Bool} {j : Nat} (h : l.getD j false = true) : l.getD j true = true := by
 rw [Array.getD_eq_getD_getElem?] at h ⊢
 cases hj : l[j]? with
 | none => rw [hj] at h; simp at h
 | some b => rw [hj] at h; simpa using h

theorem mask_spec {acc : List Nat} (hacc : ∀ i j, (acc.getD i 0).testBit j = true → Dn ops i j) {listed : Array Bool} (hc : Closed ops listed) (hops : ∀ i, i < acc.length → ∃ x, ops[i]? = some x) {j : Nat} :
 ∀ es : List Edge, (∀ e, e ∈ es → Region.binds .any e = true → listed.getD e.on false = true) → (maskOf acc es).testBit j = true → listed.getD j false = true
 | [], _, h => by simp [maskOf] at h
 | e :: es, he, h => by
  simp only [maskOf] at h
  split at h
  · rename_i hb
    simp only [Nat.testBit_or, Bool.or_eq_true] at h
    rcases h with (h | h) | h
    · rw [Nat.testBit_two_pow] at h
      have hj : e.on = j := by simpa using h
      subst hj
      exact he e (by simp) hb
    · have hl := he e (by simp) hb
      have hlt : e.on < acc.length := by
       rcases Nat.lt_or_ge e.on acc.length with h' | h'
       · exact h'
       · rw [List.getD_eq_getElem?_getD, List.getElem?_eq_none h'] at h; simp at h
      obtain ⟨x, hx⟩ := hops e.on hlt
      exact hacc e.on j h listed x hc hx (hc e.on x hx (getD_tf hl))
    · exact mask_spec hacc hc hops es (fun e' h' => he e' (by simp [h'])) h
  · exact mask_spec hacc hc hops es (fun e' h' => he e' (by simp [h'])) h

theorem masks_spec : ∀ (xs : List Oper) (acc : List Nat), (∀ j, j < xs.length → ops[acc.length + j]? = xs[j]?) → (∀ i, i < acc.length → ∃ x, ops[i]? = some x) → (∀ i j, (acc.getD i 0).testBit j = true → Dn ops i j) →
 ∀ i j, ((masks xs acc).getD i 0).testBit j = true → Dn ops i j
 | [], _, _, _, hacc => hacc
 | x :: xs, acc, hx, hops, hacc => by
  have hx0 : ops[acc.length]? = some x := by have := hx 0 (by simp); simpa using this
  refine masks_spec xs (acc ++ [maskOf acc x.after.toList]) (fun j hj => ?_) (fun i hi => ?_) (fun i j hij => ?_)
  · have := hx (j + 1) (by simpa using hj)
    simp only [List.length_append, List.length_cons, List.length_nil, Nat.zero_add]
    rw [show acc.length + 1 + j = acc.length + (j + 1) from by omega, this]
    rfl
  · simp only [List.length_append, List.length_cons, List.length_nil, Nat.zero_add] at hi
    rcases Nat.lt_or_ge i acc.length with h' | h'
    · exact hops i h'
    · have : i = acc.length := by omega
      subst this
      exact ⟨x, hx0⟩
  · rw [List.getD_eq_getElem?_getD, List.getElem?_append] at hij
    split at hij
    · exact hacc i j (by rw [List.getD_eq_getElem?_getD]; exact hij)
    · by_cases hi : i = acc.length
      · subst hi
        simp at hij
        intro listed y hc hy he
        rw [hx0] at hy
        cases hy
        exact mask_spec hacc hc hops x.after.toList (fun e h1 h2 => he e (by simpa using h1) h2) hij
      · rw [List.getElem?_eq_none (by simp; omega)] at hij
        simp at hij

theorem okRow_get : ∀ {l : List O} {xs : List Oper}, okRow P cx.fm nt ops l xs = true → l.length = xs.length ∧ ∀ (i : Nat) (x : Oper), xs[i]? = some x → okO P cx.fm nt ops (l.getD i default) x = true
 | [], [], _ => ⟨rfl, fun i x h => by simp at h⟩
 | o :: l, x :: xs, h => by
  simp only [okRow, Bool.and_eq_true] at h
  obtain ⟨h1, h2⟩ := okRow_get h.2
  refine ⟨by simp [h1], fun i y hy => ?_⟩
  cases i with
  | zero => simp at hy; subst hy; exact h.1
  | succ i => exact h2 i y (by simpa using hy)
 | [], _ :: _, h => by simp [okRow] at h
 | _ :: _, [], h => by simp [okRow] at h

theorem okEdges_get : ∀ {xs : List Oper} {k : Nat}, okEdges k xs = true → ∀ (i : Nat) (x : Oper), xs[i]? = some x → ∀ e, e ∈ x.after → Region.binds .any e = true → e.on < k + i
 | [], _, _, i, x, h => by simp at h
 | y :: xs, k, h, i, x, hx => by
  simp only [okEdges, Bool.and_eq_true] at h
  intro e he hb
  cases i with
  | zero =>
   simp at hx; subst hx
   have := List.all_eq_true.1 h.1 e (by simpa using he)
   simp only [hb, Bool.not_true, Bool.false_or, decide_eq_true_eq] at this
   omega
  | succ i =>
   have := okEdges_get h.2 i x (by simpa using hx) e he hb
   omega

theorem okDsts_get : ∀ {l : List O}, okDsts l = true → ∀ (i j : Nat) (d : Nat), i < j → j < l.length → (l.getD i default).d = some d → (l.getD j default).d ≠ some d
 | [], _, _, _, _, _, h, _ => by simp at h
 | o :: l, h, i, j, d, hij, hj, hd => by
  simp only [okDsts, Bool.and_eq_true] at h
  cases j with
  | zero => omega
  | succ j =>
   simp only [List.length_cons, Nat.add_lt_add_iff_right] at hj
   cases i with
   | zero =>
    simp only [List.getD_cons_zero] at hd
    rw [hd] at h
    have := List.all_eq_true.1 h.1 (l.getD j default) (by
     rw [List.getD_eq_getElem?_getD, List.getElem?_eq_getElem hj]
     exact List.getElem_mem hj)
    simpa using this
   | succ i => exact okDsts_get h.2 i j d (by omega) hj (by simpa using hd)

theorem okPairs_get {ms ds : List Nat} (h : okPairs ms ds os = true) {i j : Nat} (hi : i < os.length) (hj : j < i) : (ms.getD i 0).testBit j = true ∨ (commutes (os.getD j default) (os.getD i default) = true ∧ dstIn ds (os.getD j default) = true ∧ dstIn ds (os.getD i default) = true) := by
 have h1 := List.all_eq_true.1 h i (by simpa using hi)
 have h2 := List.all_eq_true.1 h1 j (by simpa using hj)
 simpa [and_assoc] using h2

theorem dstIn_spec {ds : List Nat} {o : O} (h : dstIn ds o = true) {d : Nat} (hd : o.d = some d) : d ∈ ds := by
 unfold dstIn at h
 rw [hd] at h
 simpa using h

def pend (n : Nat) (listed : Array Bool) : List Nat := (List.range n).filter fun i => !listed.getD i true

theorem pend_sorted (n : Nat) (listed : Array Bool) : (pend n listed).Pairwise (· < ·) := List.Pairwise.filter _ List.pairwise_lt_range

theorem pend_set {n i : Nat} {listed : Array Bool} {pre post : List Nat} (hs : listed.size = n) (h : pend n listed = pre ++ i :: post) : pend n (listed.setIfInBounds i true) = pre ++ post := by
 have hsort := pend_sorted n listed
 rw [h] at hsort
 have hi : i ∈ pend n listed := by rw [h]; simp
 have hin : i < n := by unfold pend at hi; simp at hi; exact hi.1
 have h1 : pend n (listed.setIfInBounds i true) = (pend n listed).filter (fun j => j != i) := by
  unfold pend
  rw [List.filter_filter]
  apply List.filter_congr
  intro j hj
  simp only [Array.getD_eq_getD_getElem?]
  by_cases hji : j = i
  · subst hji
    rw [Array.getElem?_setIfInBounds_self_of_lt (by omega)]
    simp
  · rw [Array.getElem?_setIfInBounds_ne (Ne.symm hji)]
    have : (j != i) = true := by simpa using hji
    rw [this, Bool.true_and]
 rw [h1, h, List.filter_append, List.filter_cons]
 simp only [bne_self_eq_false, Bool.false_eq_true, if_false]
 rw [List.pairwise_append] at hsort
 obtain ⟨_, h2, h3⟩ := hsort
 rw [List.pairwise_cons] at h2
 rw [List.filter_eq_self.2 fun j hj => ?_, List.filter_eq_self.2 fun j hj => ?_]
 · have := h2.1 j hj
   simp; omega
 · have := h3 j hj i (by simp)
   simp; omega

theorem any_sound (hG : ∀ f args args' r, G f args args' r → Pact P cx.fm f args args' r) (hN : ∀ b, ¬ cx.N b) (hm : m ≠ .own) (hm2 : m = .fresh → ∀ b, ¬ cx.M b) {Q : Exit → Act → World → Prop}
 {fx : List Nat} {f0 : Vl} (hQ : ∀ e a w, Kt e → Rel cx nt e a w → Fx fx f0 a → Q .normal a w) {ds : List Nat} (hoff : os.all (offO fx) = true) (hok : okDraw P cx.fm nt ops ds os = true) : ∀ (fuel : Nat) (listed : Array Bool) (e : Env) (a : Act) (w : World), fuel = (pend ops.size listed).length → listed.size = ops.size → Closed ops listed →
  Rel cx nt e a w → Fx fx f0 a → j2t (fun d => d ∈ ds ∧ ∃ i, i ∈ pend ops.size listed ∧ (os.getD i default).d = some d) e → wpL G m ((pend ops.size listed).map fun i => os.getD i default) Kt e → wpAny P .any ops Q fuel listed a w := by
 simp only [okDraw, Bool.and_eq_true] at hok
 obtain ⟨⟨⟨⟨k1, k2⟩, k3⟩, k4⟩, k5⟩ := hok
 obtain ⟨hlen, hO⟩ := okRow_get k1
 have hE := okEdges_get k2
 have hD := okDsts_get k3
 have hM := masks_spec (ops := ops) ops.toList [] (fun j hj => by simp) (fun i hi => by simp at hi) (fun i j h => by simp at h)
 have hready : ∀ (listed : Array Bool) (i : Nat), i ∈ Region.ready .any ops listed ↔ i ∈ pend ops.size listed ∧ ∃ x, ops[i]? = some x ∧ ∀ e, e ∈ x.after → Region.binds .any e = true → listed.getD e.on false = true := by
  intro listed i
  unfold Region.ready pend
  simp only [List.mem_filter, List.mem_range, Bool.and_eq_true, and_assoc]
  refine and_congr_right fun hi => and_congr_right fun _ => ?_
  rw [Array.getElem?_eq_getElem hi]
  simp only [Option.map_some, Option.getD_some, Option.some.injEq, exists_eq_left', Array.all_eq_true', Bool.or_eq_true, Bool.not_eq_true']
  exact ⟨fun h e he hb => (h e he).resolve_left (by simp [hb]), fun h e he => by
   cases hb : Region.binds .any e with
   | false => exact .inl rfl
   | true => exact .inr (h e he hb)⟩
 intro fuel
 induction fuel with
 | zero =>
  intro listed e a w hf _ _ hr hfx _ hw
  have h0 : pend ops.size listed = [] := List.length_eq_zero_iff.1 hf.symm
  rw [h0] at hw
  refine ⟨List.eq_nil_iff_forall_not_mem.2 fun i hi => ?_, hQ e a w hw hr hfx⟩
  have := ((hready listed i).1 hi).1
  rw [h0] at this; simp at this
 | succ fuel ih =>
  intro listed e a w hf hsz hcl hr hfx hfr hw
  refine ⟨fun h0 => ?_, fun i hi => ?_⟩
  · exfalso
    cases hp : pend ops.size listed with
    | nil => rw [hp] at hf; simp at hf
    | cons i0 rest =>
     have hi0 : i0 ∈ pend ops.size listed := by rw [hp]; simp
     have hi0' := hi0
     unfold pend at hi0'
     simp only [List.mem_filter, List.mem_range] at hi0'
     have hs := pend_sorted ops.size listed
     rw [hp, List.pairwise_cons] at hs
     have : i0 ∈ Region.ready .any ops listed := by
      rw [hready]
      refine ⟨hi0, _, Array.getElem?_eq_getElem hi0'.1, fun ed he hb => ?_⟩
      have hlt := hE i0 ops[i0] (by simp [hi0'.1]) ed he hb
      rw [Nat.zero_add] at hlt
      cases hl : listed.getD ed.on false with
      | true => rfl
      | false =>
       exfalso
       have hmem : ed.on ∈ pend ops.size listed := by
        unfold pend
        simp only [List.mem_filter, List.mem_range]
        refine ⟨by omega, ?_⟩
        rw [Array.getD_eq_getD_getElem?] at hl ⊢
        rw [Array.getElem?_eq_getElem (by omega)] at hl ⊢
        simpa using hl
       rw [hp] at hmem
       rcases List.mem_cons.1 hmem with h1 | h1
       · omega
       · have := hs.1 _ h1; omega
     rw [h0] at this; simp at this
  · obtain ⟨hip, x, hx, hed⟩ := (hready listed i).1 hi
    obtain ⟨pre, post, hpp⟩ := List.append_of_mem hip
    have hsort := pend_sorted ops.size listed
    rw [hpp, List.pairwise_append] at hsort
    obtain ⟨s1, s2, s3⟩ := hsort
    rw [List.pairwise_cons] at s2
    have hin : i < ops.size := by unfold pend at hip; simp at hip; exact hip.1
    have hil : i < os.length := by rw [hlen]; simpa using hin
    have hmemlt : ∀ j, j ∈ pend ops.size listed → j < os.length := fun j hj => by
     unfold pend at hj; simp at hj; rw [hlen]; simpa using hj.1
    rw [hpp, List.map_append, List.map_cons] at hw
    have hb := bubble hm (D := fun d => d ∈ ds ∧ ∃ i, i ∈ pend ops.size listed ∧ (os.getD i default).d = some d) (pre.map fun i => os.getD i default) hfr (fun p hp => by
     obtain ⟨j, hj, rfl⟩ := List.mem_map.1 hp
     have hji : j < i := s3 j hj i (by simp)
     suffices hsuf : commutes (os.getD j default) (os.getD i default) = true ∧ dstIn ds (os.getD j default) = true ∧ dstIn ds (os.getD i default) = true from
      ⟨hsuf.1, fun d hd => ⟨dstIn_spec hsuf.2.1 hd, j, by rw [hpp]; simp [hj], hd⟩, fun d hd => ⟨dstIn_spec hsuf.2.2 hd, i, hip, hd⟩⟩
     refine (okPairs_get k4 hil hji).resolve_left fun ht => ?_
     have h1 := hM i j ht listed x hcl hx hed
     have hjp : j ∈ pend ops.size listed := by rw [hpp]; simp [hj]
     unfold pend at hjp
     simp only [List.mem_filter, Bool.not_eq_true'] at hjp
     rw [getD_tf h1] at hjp
     cases hjp.2) (by
     rw [List.map_map, List.pairwise_map]
     refine (List.Pairwise.and_mem.1 s1).imp fun {p q} ⟨hp, hq, hlt⟩ d hd => ?_
     exact hD p q d hlt (hmemlt q (by rw [hpp]; simp [hq])) hd) hw
    rw [← List.map_append] at hb
    have hset := pend_set hsz hpp
    have hox := hO i x (by simpa using hx)
    have hmem : os.getD i default ∈ os := by
     rw [List.getD_eq_getElem?_getD, List.getElem?_eq_getElem hil]
     exact List.getElem_mem hil
    have hrO : (os.getD i default).q.rOnly = true := List.all_eq_true.1 k5 _ hmem
    have hdx : x.dst.all (fun d => !fx.contains d) = true := by
     have h1 := hox
     simp only [okO, Bool.and_eq_true, beq_iff_eq] at h1
     rw [← h1.1.1.1]
     exact List.all_eq_true.1 hoff _ hmem
    have hfr' : j2t (fun d => d ∈ ds ∧ ∃ j, j ∈ pre ++ post ∧ (os.getD j default).d = some d) e := fun d ⟨hds, j, hj, hd⟩ => hfr d ⟨hds, j, by
     rw [hpp]
     simp only [List.mem_append, List.mem_cons] at hj ⊢
     rcases hj with h1 | h1
     · exact .inl h1
     · exact .inr (.inr h1), hd⟩
    have hstep := fresh_stepO hm hfr' (fun d hd ⟨_, j, hj, hjd⟩ => by
     rcases List.mem_append.1 hj with h1 | h1
     · exact hD j i d (s3 j h1 i (by simp)) hil hjd hd
     · exact hD i j d (s2.1 j h1) (hmemlt j (by rw [hpp]; simp [h1])) hd hjd) hrO hb
    have hdoes := stepO_sound hG hN hm hm2 hr hox hstep
    have hrec : ∀ e' a' w', (wpL G m ((pre ++ post).map fun i => os.getD i default) Kt e' ∧ j2t (fun d => d ∈ ds ∧ ∃ j, j ∈ pre ++ post ∧ (os.getD j default).d = some d) e') → Rel cx nt e' a' w' → Fx fx f0 a' → wpAny P .any ops Q fuel (listed.setIfInBounds i true) a' w' := by
     intro e' a' w' ⟨h1, h2⟩ h3 hfx'
     refine ih (listed.setIfInBounds i true) e' a' w' ?_ (by simpa using hsz) (fun i' x' hx' hl' ed he hbd => ?_) h3 hfx' (by rw [hset]; exact h2) (by rw [hset]; exact h1)
     · rw [hset]
       rw [hpp] at hf
       simp only [List.length_append, List.length_cons] at hf ⊢
       omega
     · have hold : listed.getD ed.on false = true := by
        by_cases hii : i' = i
        · subst hii
          rw [hx] at hx'
          cases hx'
          exact hed ed he hbd
        · refine hcl i' x' hx' ?_ ed he hbd
          rw [Array.getD_eq_getD_getElem?] at hl' ⊢
          rwa [Array.getElem?_setIfInBounds_ne (Ne.symm hii)] at hl'
       by_cases hei : ed.on = i
       · rw [hei, Array.getD_eq_getD_getElem?, Array.getElem?_setIfInBounds_self_of_lt (by omega)]; rfl
       · rw [Array.getD_eq_getD_getElem?] at hold ⊢
         rwa [Array.getElem?_setIfInBounds_ne (Ne.symm hei)]
    unfold wpOp
    rw [hx]
    simp only
    unfold Does at hdoes
    split
    · rename_i hwt
      rw [if_pos hwt] at hdoes
      exact .inl (Oper.wp_mono (fun a' w' ⟨⟨e', h1, h2⟩, v, ds, h3⟩ => hrec e' a' w' h1 h2 (h3 ▸ hfx.put hdx v ds)) (wp_put (hdoes Q)))
    · rename_i hwt
      rw [if_neg hwt] at hdoes
      obtain ⟨e', h1, h2⟩ := hdoes
      exact hrec e' _ w h1 h2 (hfx.put hdx undef a.defers)

end
end Go.Mch
namespace Go.Mch

def okC (P : Program) (fm : Nat → Nat) (nt : Nat) : C → Code → Bool
 | .skip, .skip => true
 | .region none os _, .region _ ops dr' => !dr' && okOps P fm nt ops os ops.toList
 | .region (some ds) os _, .region _ ops dr' => dr' && okDraw P fm nt ops ds os
 | .seq a b, .seq a' b' => okC P fm nt a a' && okC P fm nt b b'
 | .cond c a b, .cond c' a' b' => j0p fm c c' && (okC P fm nt a a' && okC P fm nt b b')
 | .block id b, .block id' b' => id == id' && okC P fm nt b b'
 | .loop b, .loop b' => okC P fm nt b b'
 | .exit id, .exit id' => id == id'
 | .ret, .ret => true
 | .stuck, _ => true
 | _, _ => false

def offC (fx : List Nat) : C → Bool
 | .region _ os _ => os.all (offO fx)
 | .seq a b => offC fx a && offC fx b
 | .cond _ a b => offC fx a && offC fx b
 | .block _ b => offC fx b
 | .loop b => offC fx b
 | _ => true

def Lift (cx : Cx) (nt : Nat) (fx : List Nat) (f0 : Vl) (R : X → Env → Prop) : Exit → Act → World → Prop
 | .normal, a, w => ∃ e, R .nrm e ∧ Rel cx nt e a w ∧ Fx fx f0 a
 | .exit id, a, w => ∃ e, R (.ext id) e ∧ Rel cx nt e a w ∧ Fx fx f0 a
 | .ret, a, w => ∃ e, R .ret e ∧ Rel cx nt e a w ∧ Fx fx f0 a
 | _, _, _ => False

section
variable {P : Program} {cx : Cx} {nt : Nat} {G : Rl} {m : K}

mutual
theorem inside_hits {ks : List Nat} {r : Nat} : ∀ x : V, x.inside ks = true → x.hits r [] = true → ks.contains r = true
 | .val _, _, h => by simp [V.hits] at h
 | .sref r' p sz off len, h1, h2 => by
  simp only [V.hits, Bool.and_eq_true, beq_iff_eq] at h2
  simp only [V.inside] at h1
  rw [h2.1]; exact h1
 | .pref r' p off, h1, h2 => by
  simp only [V.hits, Bool.and_eq_true, beq_iff_eq] at h2
  simp only [V.inside] at h1
  rw [h2.1]; exact h1
 | .vagg vs, h1, h2 => by
  simp only [V.hits, V.inside] at h1 h2
  exact insideL_hits vs h1 h2
 | .vtup vs, h1, h2 => by
  simp only [V.hits, V.inside] at h1 h2
  exact insideL_hits vs h1 h2
 | .same r', h1, h2 => by
  simp only [V.hits, Bool.and_eq_true, beq_iff_eq] at h2
  simp only [V.inside] at h1
  rw [h2.1]; exact h1
 | .vfn _ r', h1, h2 => by
  simp only [V.hits, Bool.and_eq_true, beq_iff_eq] at h2
  simp only [V.inside] at h1
  rw [h2.1]; exact h1
theorem insideL_hits {ks : List Nat} {r : Nat} : ∀ vs : List V, V.j55 ks vs = true → V.j1m r [] vs = true → ks.contains r = true
 | [], _, h => by simp [V.j1m] at h
 | v :: vs, h1, h2 => by
  simp only [V.j55, V.j1m, Bool.and_eq_true, Bool.or_eq_true] at h1 h2
  rcases h2 with h2 | h2
  · exact inside_hits v h1.1 h2
  · exact insideL_hits vs h1.2 h2
end

theorem keep_some {e : Env} {ks : List Nat} {s : Nat} {x : V} (h : e.keep ks s = some x) : ks.contains s = true ∧ e s = some x ∧ x.inside ks = true := by
 unfold Env.keep at h
 split at h
 · rename_i hs
   cases hes : e s with
   | none => rw [hes] at h; cases h
   | some y =>
    rw [hes] at h
    simp only at h
    split at h
    · rename_i hi; cases h; exact ⟨hs, rfl, hi⟩
    · cases h
 · cases h

theorem Rel.keep {e : Env} {a : Act} {w : World} (h : Rel cx nt e a w) (ks : List Nat) : Rel cx nt (e.keep ks) a w := by
 refine ⟨h.r.sub (fun s x hx => (keep_some hx).2.1) (fun s x r hx hr => ?_) (fun _ _ _ => rfl), fun j hj => ?_, h.size, h.defers⟩
 · obtain ⟨_, h1, h2⟩ := keep_some hx
   obtain ⟨t, ht⟩ := h.r.root h1 hr
   have := inside_hits x h2 hr
   rw [ht]
   have hc := this
   simp only [Env.keep, hc, if_true, ht, V.inside]
 · cases hx : e.keep ks j with
   | none => rfl
   | some x => have := (keep_some hx).2.1; rw [h.dom j hj] at this; cases this

theorem soft_some {e : Env} {d s : Nat} {x : V} (h : e.soft d s = some x) : e s = some x ∧ x.hits d [] = false := by
 unfold Env.soft at h
 split at h
 · rename_i hs
   subst hs
   unfold softV at h
   split at h
   · rename_i t ht
     split at h
     · cases h; exact ⟨ht, rfl⟩
     · cases h
   · cases h
 · simp only [Env.kill] at h
   cases hes : e s with
   | none => rw [hes] at h; cases h
   | some y =>
    rw [hes] at h
    simp only at h
    split at h
    · cases h
    · rename_i hh; cases h; exact ⟨rfl, by simpa using hh⟩

theorem R.softR {e : Env} {vl : Vl} {w : World} (h : R cx e vl w) (d : Nat) : R cx (e.soft d) vl w :=
 h.sub (fun s x hx => (soft_some hx).1) (fun s x r hx hr => by
  obtain ⟨h2, h3⟩ := soft_some hx
  obtain ⟨t, ht⟩ := h.root h2 hr
  have hne : r ≠ d := fun e' => by subst e'; rw [h3] at hr; cases hr
  rw [ht]
  simp [Env.soft, hne, Env.kill, ht, V.hits]) (fun _ _ _ => rfl)

theorem Rel.softs {a : Act} {w : World} : ∀ (ds : List Nat) {e : Env}, Rel cx nt e a w → Rel cx nt (e.softs ds) a w
 | [], _, h => h
 | d :: ds, e, h => by
  refine Rel.softs ds ⟨h.r.softR d, fun j hj => ?_, h.size, h.defers⟩
  cases hx : e.soft d j with
  | none => rfl
  | some x => have := (soft_some hx).1; rw [h.dom j hj] at this; cases this

theorem fresh_soft (e : Env) (d : Nat) : j2t (fun x => x = d) (e.soft d) := fun x hx => by
 subst hx
 refine ⟨fun t ht => ?_, fun s y hy => (soft_some hy).2⟩
 simp only [Env.soft, if_true] at ht
 unfold softV at ht
 split at ht
 · split at ht
   · rename_i hn; cases ht; exact ⟨_, rfl, hn⟩
   · cases ht
 · cases ht

theorem fresh_softs : ∀ (ds : List Nat) (e : Env) {D : Nat → Prop}, j2t D e → j2t (fun d => D d ∨ d ∈ ds) (e.softs ds)
 | [], e, D, h => fun d hd => h d (by simpa using hd)
 | d :: ds, e, D, h => by
  have h1 : j2t (fun x => D x ∨ x = d) (e.soft d) := fun x hx => by
   rcases hx with hx | hx
   · exact (h.less (fun s x hx => .inl (soft_some hx).1)) x hx
   · exact fresh_soft e d x hx
  have := fresh_softs ds (e.soft d) h1
  intro x hx
  refine this x ?_
  rcases hx with hx | hx
  · exact .inl (.inl hx)
  · rcases List.mem_cons.1 hx with hx | hx
    · exact .inl (.inr hx)
    · exact .inr hx

theorem Rel.drew {e : Env} {a : Act} {w : World} (h : Rel cx nt e a w) : Rel cx nt e a { w with drawn := w.drawn + 1 } := ⟨h.r.drew, h.dom, h.size, h.defers⟩

theorem pend_all (n : Nat) : pend n (Array.replicate n false) = List.range n := by
 unfold pend
 apply List.filter_eq_self.2
 intro i hi
 simp only [List.mem_range] at hi
 simp [Array.getD_eq_getD_getElem?, hi]

theorem code_sound (hP : P.follows .mixedOrders = true) (hG : ∀ f args args' r, G f args args' r → Pact P cx.fm f args args' r) (hN : ∀ b, ¬ cx.N b) (hm : m ≠ .own) (hm2 : m = .fresh → ∀ b, ¬ cx.M b) {fx : List Nat} {f0 : Vl} :
 ∀ (c : C) (c' : Code) {R : X → Env → Prop} {e : Env} {a : Act} {w : World}, okC P cx.fm nt c c' = true → offC fx c = true → wp G m c R e → Rel cx nt e a w → Fx fx f0 a → c'.wp P (Lift cx nt fx f0 R) a w := by
 intro c
 induction c with
 | skip =>
  intro c' R e a w ho hof hw h hfx
  cases c' <;> simp only [okC] at ho <;> try cases ho
  exact wp_skip ⟨e, hw, h, hfx⟩
 | region dr os ks =>
  intro c' R e a w ho hof hw h hfx
  have hQ : ∀ e a w, kReg R ks e → Rel cx nt e a w → Fx fx f0 a → Lift cx nt fx f0 R .normal a w := fun e a w h1 h2 h3 => ⟨_, h1, h2.keep ks, h3⟩
  simp only [offC] at hof
  cases dr with
  | none =>
   cases c' <;> simp only [okC] at ho <;> try cases ho
   rename_i id ops dr'
   simp only [Bool.and_eq_true, Bool.not_eq_true'] at ho
   obtain ⟨rfl, ho⟩ := ho
   simp only [wp] at hw
   refine wp_region ?_
   have := row_sound hG hN hm hm2 hQ os ops.toList 0 e a w ho hof hfx (fun j hj => by simp) h hw
   rwa [Array.length_toList, ← List.range_eq_range'] at this
  | some ds =>
   cases c' <;> simp only [okC] at ho <;> try cases ho
   rename_i id ops dr'
   simp only [Bool.and_eq_true] at ho
   obtain ⟨rfl, ho⟩ := ho
   simp only [wp] at hw
   refine wp_region_any hP ?_
   have hlen : os.length = ops.size := by
    have h1 := ho
    simp only [okDraw, Bool.and_eq_true] at h1
    have := (okRow_get (cx := cx) h1.1.1.1.1).1
    simpa using this
   have hmap : ((pend ops.size (Array.replicate ops.size false)).map fun i => os.getD i default) = os := by
    rw [pend_all, ← hlen]
    apply List.ext_getElem
    · simp
    · intro i h1 h2
      simp [List.getD_eq_getElem?_getD]
      rw [List.getElem?_eq_getElem h2]; rfl
   refine any_sound hG hN hm hm2 hQ hof ho ops.size _ (e.softs ds) a _ (by rw [pend_all]; simp) (by simp) (fun i x hx hl => ?_) ((h.softs _).drew) hfx (fun d hd => ?_) (by rw [hmap]; exact hw)
   · exfalso
     have hi : i < ops.size := by
      rcases Nat.lt_or_ge i ops.size with h' | h'
      · exact h'
      · rw [Array.getElem?_eq_none h'] at hx; cases hx
     simp [Array.getD_eq_getD_getElem?, hi] at hl
   · exact fresh_softs ds e (D := fun _ => False) (fun _ h => h.elim) d (.inr hd.1)
 | seq x y ihx ihy =>
  intro c' R e a w ho hof hw h hfx
  cases c' <;> simp only [okC] at ho <;> try cases ho
  rename_i x' y'
  simp only [Bool.and_eq_true] at ho
  simp only [offC, Bool.and_eq_true] at hof
  refine wp_seq (Go.wp_mono (ihx x' ho.1 hof.1 hw h hfx) fun en a' w' hl => ?_)
  cases en with
  | normal =>
   obtain ⟨e', h1, h2, h3⟩ := hl
   exact ihy y' ho.2 hof.2 h1 h2 h3
  | exit id => exact hl
  | ret => exact hl
  | goto l => exact hl.elim
  | panic c => exact hl.elim
  | outgrown => exact hl.elim
 | cond c x y ihx ihy =>
  intro c' R e a w ho hof hw h hfx
  cases c' <;> simp only [okC] at ho <;> try cases ho
  rename_i c' x' y'
  simp only [Bool.and_eq_true] at ho
  obtain ⟨t, h1, h2⟩ := hw
  simp only [offC, Bool.and_eq_true] at hof
  have hv := j4i (h.opd ho.1 (asB_spec h1))
  refine wp_cond hv ?_
  cases t
  · exact ihy y' ho.2.2 hof.2 h2 h hfx
  · exact ihx x' ho.2.1 hof.1 h2 h hfx
 | block id b ih =>
  intro c' R e a w ho hof hw h hfx
  cases c' <;> simp only [okC] at ho <;> try cases ho
  rename_i id' b'
  simp only [Bool.and_eq_true, beq_iff_eq] at ho
  obtain ⟨rfl, ho⟩ := ho
  simp only [offC] at hof
  refine wp_block (Go.wp_mono (ih b' ho hof hw h hfx) fun en a' w' hl => ?_)
  cases en with
  | normal => exact hl
  | exit i =>
   obtain ⟨e', h1, h2, h3⟩ := hl
   simp only [X.out] at h1
   simp only [Exit.inBlock]
   split
   · rename_i hi; rw [if_pos hi] at h1; exact ⟨e', h1, h2, h3⟩
   · rename_i hi; rw [if_neg hi] at h1; exact ⟨e', h1, h2, h3⟩
  | ret => exact hl
  | goto l => exact hl.elim
  | panic c => exact hl.elim
  | outgrown => exact hl.elim
 | loop b ih =>
  intro c' R e a w ho hof hw h hfx
  cases c' <;> simp only [okC] at ho <;> try cases ho
  rename_i b'
  simp only [offC] at hof
  have key := hw (fun e => ∀ a w, Rel cx nt e a w → Fx fx f0 a → ∀ (fr : Frame) (k : List Item) (cs : List Frame), ∃ en a' w', Lift cx nt fx f0 R en a' w' ∧ Arrives P (lone (fr.at a (.code b' :: .inLoop b' :: k)) cs w) fr k cs en a' w') (fun e1 he1 a1 w1 hr1 hfx1 fr k cs => by
   obtain ⟨en, a2, w2, hq, harr⟩ := ih b' ho hof he1 hr1 hfx1 fr (.inLoop b' :: k) cs
   cases en with
   | normal =>
    obtain ⟨e2, h1, h2, h3⟩ := hq
    obtain ⟨en, a3, w3, hq3, harr3⟩ := h1 a2 w2 h2 h3 fr k cs
    exact ⟨en, a3, w3, hq3, .of_steps (Steps.trans harr (.one step_inLoop)) harr3⟩
   | exit id => exact ⟨.exit id, a2, w2, hq, .pass (x := .inLoop b') rfl (fun _ _ => .inl (by simp)) harr⟩
   | ret => exact ⟨.ret, a2, w2, hq, .pass (x := .inLoop b') rfl (fun _ _ => .inl (by simp)) harr⟩
   | goto l => exact hq.elim
   | panic c => exact hq.elim
   | outgrown => exact hq.elim)
  intro fr k cs
  obtain ⟨en, a', w', hq, harr⟩ := key a w h hfx fr k cs
  exact ⟨en, a', w', hq, .of_steps (.one step_loop) harr⟩
 | exit id =>
  intro c' R e a w ho hof hw h hfx
  cases c' <;> simp only [okC] at ho <;> try cases ho
  rename_i id'
  simp only [beq_iff_eq] at ho
  subst ho
  exact wp_exit ⟨e, hw, h, hfx⟩
 | ret =>
  intro c' R e a w ho hof hw h hfx
  cases c' <;> simp only [okC] at ho <;> try cases ho
  exact wp_ret ⟨e, hw, h, hfx⟩
 | stuck =>
  intro c' R e a w ho hof hw h hfx
  exact hw.elim

end
end Go.Mch
namespace Go.Mch

def okRv (P : Program) : RV → ResultVar → Bool
 | .t s, .tmp s' => s == s'
 | .cell s n, .cell s' t => s == s' && okN P t n
 | _, _ => false

def okRs (P : Program) : List RV → List ResultVar → Bool
 | [], [] => true
 | r :: l, r' :: l' => okRv P r r' && okRs P l l'
 | _, _ => false

def okF (P : Program) (fm : Nat → Nat) (F : F) (fn : Func) : Bool :=
 (match fn.body with
  | some c => okC P fm fn.ntmps F.body c
  | none => false) && offC F.fix F.body && okRs P F.rs fn.results.toList && decide (F.np ≤ fn.ntmps) && !(fn.name == "runtime.NumGoroutine")

section
variable {P : Program} {cx : Cx} {nt : Nat} {G : Rl} {m : K} {a : Act} {w : World} {e : Env}

theorem rv_read (h : Rel cx nt e a w) {r : RV} {r' : ResultVar} (ho : okRv P r r' = true) {v : V} (he : e.rv r = some v) {f : ResultVar → Sem Value} (hf : ∀ t, f (.tmp t) = pure (a.tmps.getD t undef))
 (hf2 : ∀ s t, f (.cell s t) = do loadVar t (← asAddr (a.tmps.getD s undef))) : ∃ x, (f r').run P w = .ok x w ∧ AR cx e a w x v := by
 cases r with
 | t s =>
  cases r' <;> simp only [okRv] at ho <;> try cases ho
  simp only [beq_iff_eq] at ho
  subst ho
  exact ⟨_, by rw [hf]; simp, h.r.peek he⟩
 | cell s n =>
  cases r' <;> simp only [okRv] at ho <;> try cases ho
  simp only [Bool.and_eq_true, beq_iff_eq] at ho
  obtain ⟨rfl, hn⟩ := ho
  simp only [Env.rv] at he
  cases hp : e.peek s with
  | none => rw [hp] at he; cases he
  | some p =>
   rw [hp] at he
   obtain ⟨x, h1, h2⟩ := ld_read (P := P) h hn (h.r.peek hp) he
   refine ⟨x, ?_, h2⟩
   rw [hf2]
   have hv : vlA a s = a.tmps.getD s undef := rfl
   rw [hv] at h1
   simp only [Instr.loadAt, Sem.run_bind] at h1
   simp only [Sem.run_bind]
   have : (Instr.sureAddr (a.tmps.getD s undef)).run P w = (asAddr (a.tmps.getD s undef)).run P w ∨ ∃ y, (Instr.sureAddr (a.tmps.getD s undef)).run P w = .halt y w := by
    cases a.tmps.getD s undef <;> first | (left; rfl) | skip
    all_goals rename_i z; cases z <;> first | (left; rfl) | (right; exact ⟨_, rfl⟩)
   rcases this with h3 | ⟨y, h3⟩
   · rw [← h3]; exact h1
   · rw [h3] at h1; simp at h1

theorem rvs_read (h : Rel cx nt e a w) {f : ResultVar → Sem Value} (hf : ∀ t, f (.tmp t) = pure (a.tmps.getD t undef)) (hf2 : ∀ s t, f (.cell s t) = do loadVar t (← asAddr (a.tmps.getD s undef))) :
 ∀ (rs : List RV) (l : List ResultVar) {vs : List V}, okRs P rs l = true → e.rvs rs = some vs → ∃ xs : List Value, (l.mapM f).run P w = .ok xs w ∧ xs.length = vs.length ∧ ∀ g i, (∀ j, j < xs.length → g (i + j) = xs.getD j undef) → j2s cx.fm (okR cx (Own e (vlA a) w)) e (vlA a) w g i vs
 | [], [], vs, _, he => by
  simp only [Env.rvs, Option.some.injEq] at he
  subst he
  exact ⟨[], by simp, rfl, fun _ _ _ => trivial⟩
 | r :: rs, r' :: l, vs, ho, he => by
  simp only [okRs, Bool.and_eq_true] at ho
  simp only [Env.rvs] at he
  cases hx : e.rv r with
  | none => rw [hx] at he; cases he
  | some v =>
   rw [hx] at he
   simp only [Option.bind_some, Option.map_eq_some_iff] at he
   obtain ⟨vs', h1, rfl⟩ := he
   obtain ⟨x, g1, g2⟩ := rv_read h ho.1 hx hf hf2
   obtain ⟨xs, k1, k2, k3⟩ := rvs_read h hf hf2 rs l ho.2 h1
   refine ⟨x :: xs, by simp only [List.mapM_cons, Sem.run_bind, g1, Result.andThen_ok, k1, Sem.run_pure], by simp [k2], fun g i hg => ⟨?_, k3 g (i + 1) fun j hj => ?_⟩⟩
   · have := hg 0 (by simp)
     simp only [Nat.add_zero, List.getD_cons_zero] at this
     rw [this]; exact g2
   · have := hg (j + 1) (by simpa using hj)
     simp only [List.getD_cons_succ] at this
     rw [← this, show i + 1 + j = i + (j + 1) from by omega]
 | [], _ :: _, _, h, _ => by simp [okRs] at h
 | _ :: _, [], _, h, _ => by simp [okRs] at h

theorem result_sound (h : Rel cx nt e a w) {fn : Func} {rs : List RV} (hrs : okRs P rs fn.results.toList = true) {r : T} {e1 : Env} (he : e.result rs = some (r, e1)) :
 ∃ v vl, (results fn a.tmps).run P w = .ok v w ∧ vl nt = v ∧ R cx (e1.add nt (.val r)) vl w ∧ Clr e1 nt ∧ ∀ s, s < nt → vl s = vlA a s := by
 have run : ∀ vs, e.rvs rs = some vs → ∃ xs : List Value, (results fn a.tmps).run P w = .ok (if h : xs.toArray.size = 1 then xs.toArray[0] else .tuple xs.toArray) w ∧ xs.length = vs.length ∧ ∀ g i, (∀ j, j < xs.length → g (i + j) = xs.getD j undef) → j2s cx.fm (okR cx (Own e (vlA a) w)) e (vlA a) w g i vs := by
  intro vs hv
  have := rvs_read (P := P) h (f := fun | .tmp t => pure (a.tmps.getD t undef) | .cell s t => do loadVar t (← asAddr (a.tmps.getD s undef))) (fun _ => rfl) (fun _ _ => rfl) rs _ hrs hv
  obtain ⟨xs, k1, k2, k3⟩ := this
  refine ⟨xs, ?_, k2, k3⟩
  have hres : results fn a.tmps = (do
   let vs ← fn.results.mapM fun | .tmp t => pure (a.tmps.getD t undef) | .cell s t => do loadVar t (← asAddr (a.tmps.getD s undef))
   pure (if h : vs.size = 1 then vs[0] else .tuple vs)) := rfl
  rw [hres, Array.mapM_eq_mapM_toList]
  simp only [Sem.run_bind, Sem.run_map]
  rw [k1]
  simp only [Result.andThen_ok, Sem.run_pure]
 have many : rs.length ≠ 1 → (e.rvs rs).bind (fun vs => (e.j06 vs).map fun x => (T.tup x.1, x.2)) = some (r, e1) → ∃ v vl, (results fn a.tmps).run P w = .ok v w ∧ vl nt = v ∧ R cx (e1.add nt (.val r)) vl w ∧ Clr e1 nt ∧ ∀ s, s < nt → vl s = vlA a s := by
  intro hne he
  cases hv : e.rvs rs with
  | none => rw [hv] at he; cases he
  | some vs =>
   rw [hv] at he
   simp only [Option.bind_some, Option.map_eq_some_iff] at he
   obtain ⟨⟨ts, e2⟩, h1, h2⟩ := he
   cases h2
   obtain ⟨xs, g1, g2, g3⟩ := run vs hv
   have g4 := g3 (fun j => xs.getD j undef) 0 (fun j _ => by rw [Nat.zero_add])
   obtain ⟨vl, k1, ⟨us, k2, k3, k4⟩, k5, k6, _, _⟩ := j5k vs _ 0 nt e (vlA a) h.r h.clr (Nat.le_refl _) (arwL_of h.dom vs _ 0 g4) h1
   have hlen : ∀ (rs : List RV) {vs : List V}, e.rvs rs = some vs → vs.length = rs.length := by
    intro rs
    induction rs with
    | nil => intro vs h; simp only [Env.rvs, Option.some.injEq] at h; subst h; rfl
    | cons r rs ih =>
     intro vs h
     simp only [Env.rvs] at h
     cases hr : e.rv r with
     | none => rw [hr] at h; cases h
     | some v =>
      rw [hr] at h
      simp only [Option.bind_some, Option.map_eq_some_iff] at h
      obtain ⟨vs', h1, rfl⟩ := h
      simp [ih h1]
   have hl := hlen rs hv
   refine ⟨_, vl, g1, ?_, k5, k6, k1⟩
   rw [dif_neg (by simp; omega), k2]
   congr 1
   refine arr_eq (by simp [k3, g2]) fun j hj => ?_
   rw [k4 j (by omega), Nat.zero_add]
   simp [Array.getD_eq_getD_getElem?, List.getD_eq_getElem?_getD]
 match rs, many, run, he with
 | [], many, _, he => exact many (by simp) he
 | [r0], _, run, he =>
  simp only [Env.result] at he
  cases hx : e.rv r0 with
  | none => rw [hx] at he; cases he
  | some v =>
   rw [hx] at he
   simp only [Option.bind_some] at he
   obtain ⟨xs, g1, g2, g3⟩ := run [v] (by simp only [Env.rvs, hx, Option.bind_some, Option.map_some])
   have hx1 : ∃ x, xs = [x] := by
    match xs, g2 with
    | [x], _ => exact ⟨x, rfl⟩
   obtain ⟨x, rfl⟩ := hx1
   have g4 := g3 (fun _ => x) 0 (fun j hj => by simp at hj; subst hj; rfl)
   obtain ⟨vl, h1, h2, h3, h4⟩ := h.take g4.1 he
   exact ⟨_, vl, g1, by rw [h2]; rfl, h3, h4, h1⟩
 | _ :: _ :: _, many, _, he => exact many (by simp) he

end

theorem fn_sound {P : Program} {fm : Nat → Nat} {G : Rl} (hP : P.follows .mixedOrders = true) (hG : ∀ f args args' r, G f args args' r → Pact P fm f args args' r) {f : Nat} {F : F} {fn : Func} (hfn : P.funcs[fm f]? = some fn) (hok : okF P fm F fn = true)
 {args args' : List T} {r : T} (hnp : F.np = args.length) (hlet : F.lets args = true) (hw : wp G (kindOf args) F.body (post F.rs args args' r) (init args)) : Pact P fm f args args' r := by
 simp only [okF, Bool.and_eq_true, decide_eq_true_eq, Bool.not_eq_true'] at hok
 obtain ⟨⟨⟨⟨hc, hoff⟩, hrs⟩, hnt⟩, hname⟩ := hok
 split at hc
 · rename_i c hbody
   refine ⟨⟨fn, hfn, by rw [hbody]; rfl, hname⟩, fun w vs A M hA hsz hM hR => ?_⟩
   refine calls_of_wp hfn hbody ?_
   have hvs : ∀ s, s < vs.size → vlA { tmps := vs ++ Array.replicate (fn.ntmps - vs.size) undef, defers := [] } s = vs.getD s undef := fun s hs => by
    simp only [vlA, Array.getD_eq_getD_getElem?]
    rw [Array.getElem?_append_left hs]
   have hrel : Rel (cx0 fm w A M hA) fn.ntmps (init args) { tmps := vs ++ Array.replicate (fn.ntmps - vs.size) undef, defers := [] } w := by
    refine ⟨hR.congr fun s x hx => ?_, fun j hj => ?_, by simp; omega, rfl⟩
    · obtain ⟨t, ht, _⟩ := j5u hx
      have hs : s < vs.size := by
       rw [hsz]
       rcases Nat.lt_or_ge s args.length with h' | h'
       · exact h'
       · rw [List.getElem?_eq_none h'] at ht; cases ht
      exact hvs s hs
    · unfold init
      rw [List.getElem?_eq_none (by omega)]
      rfl
   have hkn : kindOf args ≠ .own := by unfold kindOf; split <;> decide
   have hcs := code_sound (cx := cx0 fm w A M hA) (fx := F.fix) (f0 := vlA { tmps := vs ++ Array.replicate (fn.ntmps - vs.size) undef, defers := [] }) hP hG (fun _ h => h) hkn hM F.body c hc hoff hw hrel (fun _ _ => rfl)
   have fin : ∀ (e : Env) (a : Act) (w' : World), j0c (e.result F.rs) (fun x => x.1 = r ∧ args' = j4y x.2 0 args) → Rel (cx0 fm w A M hA) fn.ntmps e a w' → Fx F.fix (vlA { tmps := vs ++ Array.replicate (fn.ntmps - vs.size) undef, defers := [] }) a → a.defers = [] ∧ ∃ v, (results fn a.tmps).run P w' = .ok v w' ∧ Back fm args args' r w vs A M hA (.returned v) w' := by
    rintro e a w' ⟨⟨r', e1⟩, h1, rfl, h2⟩ hr hfx
    obtain ⟨v, vl, g1, g2, g3, g4, g5⟩ := result_sound (P := P) hr hrs h1
    refine ⟨hr.defers, v, g1, fn.ntmps, e1, vl, by omega, g3, g4, g2, h2, fun s hs hh => ?_⟩
    have hin : s ∈ F.fix := by
     have := List.all_eq_true.1 hlet s (by simpa using hs)
     simp only [Bool.or_eq_true, hh, Bool.false_eq_true, false_or, List.contains_iff_mem] at this
     exact this
    rw [g5 s (by omega), hfx s hin]
    exact hvs s (by omega)
   refine Go.wp_mono hcs fun en a w' hl => ?_
   cases en with
   | normal => obtain ⟨e, h1, h2, h3⟩ := hl; exact fin e a w' h1 h2 h3
   | ret => obtain ⟨e, h1, h2, h3⟩ := hl; exact fin e a w' h1 h2 h3
   | exit id => obtain ⟨e, h1, _⟩ := hl; exact h1.elim
   | goto l => exact hl.elim
   | panic c => exact hl.elim
   | outgrown => exact hl.elim
 · cases hc

theorem sound {P : Program} {fm : Nat → Nat} {pg : Pg} (hP : P.follows .mixedOrders = true) (hprim : ∀ f args args' r, pg.prim f args args' r → Pact P fm f args args' r)
 (hprog : ∀ f F, pg.fn f = some F → ∃ fn, P.funcs[fm f]? = some fn ∧ okF P fm F fn = true)
 {f : Nat} {args args' : List T} {r : T} (h : Call pg f args args' r) : Pact P fm f args args' r :=
 h (fun f args args' r => Pact P fm f args args' r) hprim (fun f args args' r fn hf hnp hl hw => by
  obtain ⟨fn', h1, h2⟩ := hprog f fn hf
  exact fn_sound hP (fun f args args' r h => h) h1 h2 hnp hl hw)

end Go.Mch
