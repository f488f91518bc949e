/- The check of an operation; the operations that only read, one by one. -/
import Derived.Test.YtkdoegjnnfmpaaaYbG
namespace Go.Mch

def okOpds (fm : Nat → Nat) : List Opd → List Operand → Bool
  | [], [] => true
  | x :: xs, y :: ys => okOpd fm x y && okOpds fm xs ys
  | _, _ => false

def okOpt (fm : Nat → Nat) : Option Opd → Option Operand → Bool
  | none, none => true
  | some x, some y => okOpd fm x y
  | _, _ => false

/-- The parts of a struct, each with its field's place. -/
def okParts (P : Program) (fm : Nat → Nat) (t : TypeId) : List (Nat × Nat × Opd) → List (Nat × Operand) → Bool
  | [], [] => true
  | (i, n, x) :: xs, (j, y) :: ys => (fieldOf P t j).any (fun f => f.offset == i && szOf P f.type == some n) && okOpd fm x y && okParts P fm t xs ys
  | _, _ => false

/-- At most one argument is handed on to be written. -/
def fewModes : List (Opd × Mode) → Bool
  | [] => true
  | (_, .r) :: xs => fewModes xs
  | _ :: xs => xs.all (fun x => x.2 == .r)

def okModes (fm : Nat → Nat) : List (Opd × Mode) → List Operand → Bool
  | [], [] => true
  | x :: xs, y :: ys => okOpd fm x.1 y && okModes fm xs ys
  | _, _ => false

def isSlice (P : Program) (t : TypeId) : Bool := (elOf P t).isSome

def okQ (P : Program) (fm : Nat → Nat) : Q → Op → Bool
  | .mv x, .move y => okOpd fm x y
  | .asg x, .assign y => okOpd fm x y
  | .mvw x, .move y => okOpd fm x y
  | .sts a x, .store t a' x' => szOf P t == some 1 && okOpd fm a a' && okOpd fm x x'
  | .mv x, .assign y => okOpd fm x y
  | .pick c a b, .pick c' a' b' => okOpd fm c c' && okOpd fm a a' && okOpd fm b b'
  | .bin op x y, .binOp op' _ x' y' _ => op == op' && okOpd fm x x' && okOpd fm y y'
  | .beq neg x y, .binOp op t x' y' _ => op == (if neg then .neq else .eql) && (match P.underlying t with | some .bool => true | _ => false) && okOpd fm x x' && okOpd fm y y'
  | .isnil neg x, .binOp op t x' y' _ => op == (if neg then .neq else .eql) && isSlice P t && okOpd fm x x' && okOpd fm (.c (.slice none 0 0)) y'
  | .un op x, .unOp op' _ x' => op == op' && okOpd fm x x'
  | .conv k x, .convert s d x' => (match P.underlying s, P.underlying d with | some (.int _), some (.int k') => k == k' | _, _ => false) && okOpd fm x x'
  | .len x, .call ⟨.builtin .len, as, ts⟩ => (match as.toList, ts.toList with | [x'], [t] => isSlice P t && okOpd fm x x' | _, _ => false)
  | .slen x, .call ⟨.builtin .len, as, ts⟩ => (match as.toList, ts.toList with | [x'], [t] => (match P.underlying t with | some .string => true | _ => false) && okOpd fm x x' | _, _ => false)
  | .idx sz x i, .indexAddr t x' i' => (elOf P t).any (fun e => szOf P e == some sz) && okOpd fm x x' && okOpd fm i i'
  | .at x i, .index t x' i' => (match P.underlying t with | some .string => true | _ => false) && okOpd fm x x' && okOpd fm i i'
  | .fld off x, .fieldAddr t x' f => (fieldOf P t f).any (fun f => f.offset == off && (szOf P f.type).any (fun n => n != 0)) && okOpd fm x x'
  | .fldv off n x, .field t x' f => (fieldOf P t f).any (fun f => f.offset == off && okN P f.type n) && okOpd fm x x'
  | .ld n a, .load t a' => okN P t n && okOpd fm a a'
  | .st n a x, .store t a' x' => szOf P t == some (n.getD 1) && okOpd fm a a' && okOpd fm x x'
  | .nilck x, .nilCheck x' => okOpd fm x x'
  | .alloc zs, .alloc t => (zeroOf P t).any (eqCL zs ·)
  | .box x, .box _ x' => okOpd fm x x'
  | .build zs ps, .build t ps' => (zeroOf P t).any (eqCL zs ·) && (match P.underlying t with | some (.struct fs) => fs.all (fun f => (szOf P f.type).isSome) | _ => false) && okParts P fm t ps ps'.toList
  | .mks z n, .makeSlice t l c => (elOf P t).any (fun e => szOf P e == some 1 && (zeroOf P e).any (eqCL [z] ·) && (byOf P e).any (fun b => decide (b ≤ 65536))) && okOpd fm n l && okOpd fm n c
  | .bsl ps, .buildSlice t n ps' => (elOf P t).any (fun e => szOf P e == some 1 && (zeroOf P e).any (fun z => z.length == 1)) && decide (n ≤ 16777216) && ps'.toList.map (·.1) == List.range n && okOpds fm ps (ps'.toList.map (·.2))
  | .app _ sz x y, .call ⟨.builtin .append, as, ts⟩ => (match as.toList, ts.toList with | [x', y'], [t, u] => (elOf P t).any (fun e => szOf P e == some sz && (zeroOf P e).any (fun z => z.length == sz) && (byOf P e).any (fun b => decide (b ≤ 32768 * sz))) && decide (0 < sz) && isSlice P u && okOpd fm x x' && okOpd fm y y' | _, _ => false)
  | .sl sz x lo hi, .slice t x' lo' hi' none => (elOf P t).any (fun e => szOf P e == some sz) && decide (0 < sz) && okOpd fm x x' && okOpt fm lo lo' && okOpt fm hi hi'
  | .ext x i, .extract x' i' => i == i' && okOpd fm x x'
  | .fnc f caps, .makeFunc (.func g) first caps' => fm f == g && okOpds fm caps caps'.toList && first.toList.isEmpty
  | .call f args, .call ⟨.value f', args', _⟩ => okOpd fm f f' && okModes fm args args'.toList && args.all (fun x => x.2 == .r)
  | .callm f args _, .call ⟨.value f', args', _⟩ => okOpd fm f f' && okOpds fm (args.map (·.1)) args'.toList
  | .boxk s, .box _ x' => okOpd fm (.t s) x'
  | _, _ => false

section
variable {P : Program} {cx : Cx} {nt : Nat} {Kt : Env → Prop} {o : Oper} {a : Act} {w : World} {e : Env} {d : Nat}

theorem good_move {x : Opd} {y : Operand} {v : V} (h : Rel cx nt e a w) (hop : o.op = .move y ∨ o.op = .assign y) (ho : okOpd cx.fm x y = true) (hd : o.dst = some d) (hlt : d < nt) (he : e.opd x = some v) (hK : Kt (e.setD (some d) v)) : Good P cx nt Kt o a w := by
  refine good_read h hd hlt ?_ (h.opd ho he) hK
  rcases hop with hop | hop <;> simp [execOp, hop]

theorem good_pick {c x y : Opd} {c' x' y' : Operand} {t : Bool} {v : V} (h : Rel cx nt e a w) (hop : o.op = .pick c' x' y') (hc : okOpd cx.fm c c' = true) (hx : okOpd cx.fm x x' = true) (hy : okOpd cx.fm y y' = true)
    (hd : o.dst = some d) (hlt : d < nt) (ht : (e.opd c).bind asB = some t) (he : e.opd (if t then x else y) = some v) (hK : Kt (e.setD (some d) v)) : Good P cx nt Kt o a w := by
  have h1 := ar_sc (h.opd hc (asB_spec ht))
  cases t
  · refine good_read h hd hlt ?_ (h.opd hy he) hK
    simp [execOp, hop, h1, asBool]
  · refine good_read h hd hlt ?_ (h.opd hx he) hK
    simp [execOp, hop, h1, asBool]

theorem good_bin {op : BinOp} {x y : Opd} {x' y' : Operand} {t u : TypeId} {p q v : V} (h : Rel cx nt e a w) (hop : o.op = .binOp op t x' y' u) (hx : okOpd cx.fm x x' = true) (hy : okOpd cx.fm y y' = true)
    (hd : o.dst = some d) (hlt : d < nt) (h1 : e.opd x = some p) (h2 : e.opd y = some q) (h3 : binV op p q = some v) (hK : Kt (e.setD (some d) v)) : Good P cx nt Kt o a w := by
  unfold binV at h3
  split at h3
  · rename_i k m k' n
    split at h3
    · rename_i hk
      subst hk
      cases hb : binSc op k m n with
      | none => rw [hb] at h3; cases h3
      | some r =>
        rw [hb] at h3
        cases h3
        have e1 := ar_sc (h.opd hx h1)
        have e2 := ar_sc (h.opd hy h2)
        obtain ⟨hr, hs⟩ := binSc_spec hb P w t
        refine good_read h hd hlt ?_ (ar_mk hs) hK
        simp [execOp, hop, e1, e2, eqGuard_int, hr]
    · cases h3
  · cases h3

theorem guard_no {op : BinOp} {t : TypeId} {x y : Operand} {p q : Value} (h : (∀ cs, p ≠ .agg cs) ∧ p ≠ .nilIface) : (eqGuard op t x y p q).run P w = .ok () w := by
  unfold eqGuard
  cases op <;> first | rfl | skip
  all_goals
    simp only [Bool.not_true, Bool.false_eq_true, if_false]
    split
    · exact (h.2 rfl).elim
    · exact (h.1 _ rfl).elim
    · rfl

theorem eqIn_bool {t : TypeId} (ht : P.underlying t = some .bool) (n : Nat) (p q : Bool) : (Op.equalIn (n + 1) t (.bool p) (.bool q)).run P w = .ok (p == q) w := by
  simp only [Op.equalIn, Sem.run_bind, run_und ht, Result.andThen_ok, Sem.run_pure]

theorem eqIn_slice {t el : TypeId} (ht : P.underlying t = some (.slice el)) (n : Nat) (ad : Option Addr) (l c : Nat) : (Op.equalIn (n + 1) t (.slice ad l c) (.slice none 0 0)).run P w = .ok ad.isNone w := by
  cases ad <;> simp only [Op.equalIn, Sem.run_bind, run_und ht, Result.andThen_ok, Sem.run_pure] <;> rfl

theorem good_beq {neg : Bool} {op : BinOp} {x y : Opd} {x' y' : Operand} {t u : TypeId} {p q : Bool} (h : Rel cx nt e a w) (hop : o.op = .binOp op t x' y' u) (hn : op = if neg then .neq else .eql) (ht : P.underlying t = some .bool)
    (hx : okOpd cx.fm x x' = true) (hy : okOpd cx.fm y y' = true) (hd : o.dst = some d) (hlt : d < nt) (h1 : (e.opd x).bind asB = some p) (h2 : (e.opd y).bind asB = some q) (hK : Kt (e.setD (some d) (.val (.sc (.bool ((p == q) != neg)))))) : Good P cx nt Kt o a w := by
  have e1 := ar_sc (h.opd hx (asB_spec h1))
  have e2 := ar_sc (h.opd hy (asB_spec h2))
  refine good_read h hd hlt ?_ (ar_mk rfl) hK
  subst hn
  have h9 := eqIn_bool (w := w) ht 9999 p q
  cases neg
  · have hb : binOp .eql t (.bool p) (.bool q) = (do pure (.bool (← Op.equalIn (9999 + 1) t (.bool p) (.bool q)))) := rfl
    simp only [execOp, hop, e1, e2, if_false, Bool.false_eq_true, hb, Sem.run_bind, guard_no (P := P) (w := w) (p := .bool p) ⟨fun _ => by simp, by simp⟩, h9, Result.andThen_ok, Sem.run_pure]
    cases (p == q) <;> rfl
  · have hb : binOp .neq t (.bool p) (.bool q) = (do pure (.bool (!(← Op.equalIn (9999 + 1) t (.bool p) (.bool q))))) := rfl
    simp only [execOp, hop, e1, e2, if_true, hb, Sem.run_bind, guard_no (P := P) (w := w) (p := .bool p) ⟨fun _ => by simp, by simp⟩, h9, Result.andThen_ok, Sem.run_pure]
    cases (p == q) <;> rfl

theorem slice_of_nil {cx : Cx} {e : Env} {a : Act} {w : World} {v : Value} {x : V} {b : Bool} (h : AR cx e a w v x) (hx : x.isNil = some b) : ∃ ad n c, v = .slice ad n c ∧ ad.isNone = b := by
  unfold V.isNil at hx
  split at hx
  · cases hx; exact ⟨none, 0, 0, ar_sc h, rfl⟩
  · cases hx; exact ⟨_, 0, 0, ar_sc h, rfl⟩
  · rename_i k sz ts
    cases hx
    have h2 := h.2
    rw [rep_mem] at h2
    obtain ⟨⟨⟨len, h3, _⟩, _⟩, _⟩ := h2
    exact ⟨_, _, _, h3, rfl⟩
  · cases hx
    simp only [AR, arep] at h
    obtain ⟨_, t, ts, _, _, _, o', h3, _⟩ := h
    exact ⟨_, _, _, h3, rfl⟩
  · cases hx

theorem good_isnil {neg : Bool} {op : BinOp} {x : Opd} {x' y' : Operand} {t u : TypeId} {b : Bool} (h : Rel cx nt e a w) (hop : o.op = .binOp op t x' y' u) (hn : op = if neg then .neq else .eql) (ht : isSlice P t = true)
    (hx : okOpd cx.fm x x' = true) (hy : okOpd cx.fm (.c (.slice none 0 0)) y' = true) (hd : o.dst = some d) (hlt : d < nt) (h1 : (e.opd x).bind V.isNil = some b) (hK : Kt (e.setD (some d) (.val (.sc (.bool (b != neg)))))) : Good P cx nt Kt o a w := by
  obtain ⟨el, hel⟩ := Option.isSome_iff_exists.1 ht
  have hu := elOf_spec hel
  cases hxo : e.opd x with
  | none => rw [hxo] at h1; cases h1
  | some vx =>
    rw [hxo] at h1
    obtain ⟨ad, n, c, e1, e2⟩ := slice_of_nil (h.opd hx hxo) h1
    have e3 := ar_sc (h.opd hy (by rfl))
    refine good_read h hd hlt ?_ (ar_mk rfl) hK
    subst hn
    have h9 := eqIn_slice (w := w) hu 9999 ad n c
    subst e2
    cases neg
    · have hb : binOp .eql t (.slice ad n c) (.slice none 0 0) = (do pure (.bool (← Op.equalIn (9999 + 1) t (.slice ad n c) (.slice none 0 0)))) := rfl
      simp only [execOp, hop, e1, e3, if_false, Bool.false_eq_true, hb, Sem.run_bind, guard_no (P := P) (w := w) (p := .slice ad n c) ⟨fun _ => by simp, by simp⟩, h9, Result.andThen_ok, Sem.run_pure]
      cases ad.isNone <;> rfl
    · have hb : binOp .neq t (.slice ad n c) (.slice none 0 0) = (do pure (.bool (!(← Op.equalIn (9999 + 1) t (.slice ad n c) (.slice none 0 0))))) := rfl
      simp only [execOp, hop, e1, e3, if_true, hb, Sem.run_bind, guard_no (P := P) (w := w) (p := .slice ad n c) ⟨fun _ => by simp, by simp⟩, h9, Result.andThen_ok, Sem.run_pure]
      cases ad.isNone <;> rfl

theorem good_un {op : UnOp} {x : Opd} {x' : Operand} {t : TypeId} {p v : V} (h : Rel cx nt e a w) (hop : o.op = .unOp op t x') (hx : okOpd cx.fm x x' = true) (hd : o.dst = some d) (hlt : d < nt)
    (h1 : e.opd x = some p) (h3 : unV op p = some v) (hK : Kt (e.setD (some d) v)) : Good P cx nt Kt o a w := by
  unfold unV at h3
  split at h3
  · split at h3
    · rename_i hh
      subst hh
      cases h3
      have e1 := ar_sc (h.opd hx h1)
      exact good_read h hd hlt (by simp [execOp, hop, e1, Op.unary]) (ar_mk rfl) hK
    · cases h3
  · split at h3
    · rename_i k n hh
      subst hh
      cases hb : arith k (0 - n) with
      | none => rw [hb] at h3; cases h3
      | some r =>
        rw [hb] at h3
        cases h3
        have e1 := ar_sc (h.opd hx h1)
        have e2 := arith_spec hb
        subst e2
        exact good_read h hd hlt (by simp [execOp, hop, e1, Op.unary, Op.intArith]) (ar_mk rfl) hK
    · cases h3
  · cases h3

theorem good_conv {k k0 : IntKind} {x : Opd} {x' : Operand} {s t : TypeId} {n : Int} (h : Rel cx nt e a w) (hop : o.op = .convert s t x') (hs : P.underlying s = some (.int k0)) (ht : P.underlying t = some (.int k)) (hx : okOpd cx.fm x x' = true)
    (hd : o.dst = some d) (hlt : d < nt) (h1 : (e.opd x).bind asI = some n) (hK : Kt (e.setD (some d) (.val (.sc (.int k (k.wrap n)))))) : Good P cx nt Kt o a w := by
  obtain ⟨kx, h2⟩ := asI_spec h1
  have e1 := ar_sc (h.opd hx h2)
  refine good_read h hd hlt ?_ (ar_mk rfl) hK
  simp [execOp, hop, e1, convert, run_und hs, run_und ht, Conv.intToInt]

theorem len_spec {cx : Cx} {e : Env} {a : Act} {w : World} {v : Value} {x : V} {n : Nat} (h : AR cx e a w v x) (hx : lenV x = some n) : ∃ ad c, v = .slice ad n c := by
  unfold lenV at hx
  split at hx
  · cases hx; exact ⟨none, 0, ar_sc h⟩
  · cases hx; exact ⟨_, 0, ar_sc h⟩
  · rename_i k sz ts
    cases hx
    have h2 := h.2
    rw [rep_mem] at h2
    obtain ⟨⟨⟨len, h3, h4, h5, _⟩, _⟩, _⟩ := h2
    rw [h4, Nat.mul_div_cancel _ h5]
    exact ⟨_, _, h3⟩
  · cases hx
    simp only [AR, arep] at h
    obtain ⟨_, t, ts, _, _, _, o', h3, _⟩ := h
    exact ⟨_, _, h3⟩
  · cases hx

theorem good_len {x : Opd} {x' : Operand} {t : TypeId} {n : Nat} (h : Rel cx nt e a w) (hop : o.op = .call ⟨.builtin .len, #[x'], #[t]⟩) (ht : isSlice P t = true) (hx : okOpd cx.fm x x' = true)
    (hd : o.dst = some d) (hlt : d < nt) (h1 : (e.opd x).bind lenV = some n) (hK : Kt (e.setD (some d) (.val (.sc (.int .i64 n))))) : Good P cx nt Kt o a w := by
  obtain ⟨el, hel⟩ := Option.isSome_iff_exists.1 ht
  have hu := elOf_spec hel
  cases hxo : e.opd x with
  | none => rw [hxo] at h1; cases h1
  | some vx =>
    rw [hxo] at h1
    obtain ⟨ad, c, e1⟩ := len_spec (h.opd hx hxo) h1
    refine good_read h hd hlt ?_ (ar_mk rfl) hK
    simp [execOp, hop, resolve, invoke, builtin, Builtin.len_, e1, run_und hu, goInt]

theorem good_slen {x : Opd} {x' : Operand} {t : TypeId} {n : Nat} (h : Rel cx nt e a w) (hop : o.op = .call ⟨.builtin .len, #[x'], #[t]⟩) (ht : P.underlying t = some .string) (hx : okOpd cx.fm x x' = true)
    (hd : o.dst = some d) (hlt : d < nt) (h1 : (e.opd x).bind slenV = some n) (hK : Kt (e.setD (some d) (.val (.sc (.int .i64 n))))) : Good P cx nt Kt o a w := by
  cases hxo : e.opd x with
  | none => rw [hxo] at h1; cases h1
  | some vx =>
    rw [hxo] at h1
    simp only [Option.bind_some] at h1
    unfold slenV at h1
    split at h1
    · cases h1
      have e1 := ar_sc (h.opd hx hxo)
      refine good_read h hd hlt ?_ (ar_mk rfl) hK
      simp [execOp, hop, resolve, invoke, builtin, Builtin.len_, e1, run_und ht, goInt]
    · cases h1

theorem addr_add (b o n : Nat) : (⟨b, o, none⟩ : Addr).add n = ⟨b, o + n, none⟩ := by
  unfold Addr.add
  split
  · rename_i h; rw [h]; rfl
  · rfl

theorem imm_rep {cx : Cx} {e : Env} {a : Act} {w : World} {v : Value} {k : K} {s : Option Nat} {ts : List T} (h : AR cx e a w v (.val (.mem k s ts))) :
    k ≠ .own ∧ T.noOwnL ts = true ∧ shp w v s ts.length ∧ (ts ≠ [] → okR cx (Own e (vlA a) w) k (blk v)) ∧ repL cx.fm (okR cx (Own e (vlA a) w)) w (kid w v) 0 ts := by
  obtain ⟨h1, h2⟩ := h
  simp only [T.noOwn, Bool.and_eq_true, bne_iff_ne, ne_eq] at h1
  rw [rep_mem] at h2
  exact ⟨h1.1, h1.2, h2.1, fun h => h2.2.1 (.inr h), h2.2.2.2.2⟩

theorem noOwnL_win {ts : List T} {i n : Nat} (h : T.noOwnL ts = true) : T.noOwnL (win ts i n) = true := by
  rw [win_split ts i n] at h
  simp only [noOwnL_append, Bool.and_eq_true] at h
  exact h.2.1

/-- A pointer into memory that is not written: the cells from there on. -/
theorem imm_sub {cx : Cx} {e : Env} {a : Act} {w : World} {v v' : Value} {k : K} {s : Option Nat} {ts : List T} {i n : Nat} (h : AR cx e a w v (.val (.mem k s ts))) (hin : i + n ≤ ts.length)
    (hv : v' = .pointer (some ⟨blk v, ofs v + i, none⟩)) : AR cx e a w v' (.val (.mem k none (win ts i n))) := by
  obtain ⟨h1, h2, h3, h4, h5⟩ := imm_rep h
  refine ⟨by simp [T.noOwn, h1, noOwnL_win h2], ?_⟩
  have hl := win_length (ts := ts) (a := i) (n := n) hin
  have hk : ∀ j, j < ts.length → kid w v j = (w.cell? ⟨blk v, ofs v + j, none⟩).getD undef := by
    intro j _
    have := h3.1
    cases s with
    | none => simp only at this; rw [this]; simp [kid, blk, ofs]
    | some sz => simp only at this; obtain ⟨len, h6, _⟩ := this; rw [h6]; simp [kid, blk, ofs]
  rw [rep_mem]
  subst hv
  refine ⟨⟨rfl, fun j hj => ?_⟩, fun hh => ?_, fun hh => (h1 hh).elim, fun _ => noOwnL_win h2, ?_⟩
  · rw [hl] at hj
    have := h3.2 (i + j) (by omega)
    simpa [blk, ofs, Nat.add_assoc] using this
  · rcases hh with hh | hh
    · exact (h1 hh).elim
    · exact h4 fun e' => hh (by rw [e']; simp [win])
  · refine repL_congr _ 0 (fun j _ hj => ?_) (repL_win n (by omega) h5)
    rw [hl] at hj
    rw [hk (j + i) (by omega)]
    simp [kid, Nat.add_assoc, Nat.add_comm j i]

theorem good_idx {sz : Nat} {x i : Opd} {x' i' : Operand} {t el : TypeId} {p v : V} {n : Int} (h : Rel cx nt e a w) (hop : o.op = .indexAddr t x' i') (hel : elOf P t = some el) (hsz : szOf P el = some sz) (hx : okOpd cx.fm x x' = true) (hi : okOpd cx.fm i i' = true)
    (hd : o.dst = some d) (hlt : d < nt) (h1 : e.opd x = some p) (h2 : (e.opd i).bind asI = some n) (h3 : idxV sz p n = some v) (hK : Kt (e.setD (some d) v)) : Good P cx nt Kt o a w := by
  have hu := elOf_spec hel
  obtain ⟨ki, h4⟩ := asI_spec h2
  have e2 := ar_sc (h.opd hi h4)
  have e1 := h.opd hx h1
  unfold idxV at h3
  split at h3
  · rename_i k sz' ts
    split at h3
    · rename_i hc
      obtain ⟨rfl, hn0, hn1⟩ := hc
      cases h3
      obtain ⟨_, _, ⟨⟨len, g1, g2, g3, g4⟩, _⟩, _⟩ := imm_rep e1
      have hlen : ts.length / sz' = len := by rw [g2]; exact Nat.mul_div_cancel _ g3
      rw [hlen] at hn1
      have hlt' : n.toNat < len := by omega
      have hmul : (n.toNat + 1) * sz' ≤ len * sz' := Nat.mul_le_mul_right _ hlt'
      rw [Nat.add_mul, Nat.one_mul] at hmul
      refine good_read (v := .pointer (some ⟨blk (a.eval x'), ofs (a.eval x') + n.toNat * sz', none⟩)) h hd hlt ?_ (imm_sub e1 (by omega) rfl) hK
      simp only [execOp, hop, Instr.indexAt]
      rw [e2, g1]
      simp [asIntOf, run_und hu, run_szOf hsz, hn0, hn1, addr_add]
      simp [blk, ofs]
    · cases h3
  · rename_i r p sz' off len
    split at h3
    · rename_i hc
      obtain ⟨rfl, hn0, hn1⟩ := hc
      cases h3
      simp only [AR, arep] at e1
      obtain ⟨g0, t0, ts, g1, g2, g3, o', g4, g5, g6, g7⟩ := e1
      have hlt' : n.toNat < len := by omega
      have ho : o' = ofs (nodeV w (vlA a r) p) + off * sz' := g7 (by omega)
      have hmul : (off + n.toNat) * sz' ≤ (off + len) * sz' := Nat.mul_le_mul_right _ (by omega)
      refine good_read (v := .pointer (some ⟨blk (nodeV w (vlA a r) p), ofs (nodeV w (vlA a r) p) + (off + n.toNat) * sz', none⟩)) h hd hlt ?_ ?_ hK
      · simp only [execOp, hop, Instr.indexAt]
        rw [e2, g4, ho]
        simp [asIntOf, run_und hu, run_szOf hsz, hn0, hn1, addr_add, Nat.add_mul, Nat.add_assoc]
      · exact ⟨t0, _, ts, g1, g2, by omega, rfl⟩
    · cases h3
  · cases h3

theorem good_at {x i : Opd} {x' i' : Operand} {t : TypeId} {s : ByteArray} {n : Int} {b : UInt8} (h : Rel cx nt e a w) (hop : o.op = .index t x' i') (ht : P.underlying t = some .string) (hx : okOpd cx.fm x x' = true) (hi : okOpd cx.fm i i' = true)
    (hd : o.dst = some d) (hlt : d < nt) (h1 : e.opd x = some (.val (.sc (.string s)))) (h2 : (e.opd i).bind asI = some n) (h3 : (if 0 ≤ n then s[n.toNat]? else none) = some b) (hK : Kt (e.setD (some d) (.val (.sc (.int .u8 b.toNat))))) : Good P cx nt Kt o a w := by
  obtain ⟨ki, h4⟩ := asI_spec h2
  have e2 := ar_sc (h.opd hi h4)
  have e1 := ar_sc (h.opd hx h1)
  refine good_read h hd hlt ?_ (ar_mk rfl) hK
  simp only [execOp, hop, Instr.index]
  rw [e2, e1]
  simp only [asIntOf, Sem.run_bind, Sem.run_pure, Result.andThen_ok, run_und ht, h3]

theorem fieldOf_spec {t : TypeId} {i : Nat} {f : Field} (h : fieldOf P t i = some f) : ∃ fs, P.underlying t = some (.struct fs) ∧ fs[i]? = some f := by
  unfold fieldOf at h; split at h
  · exact ⟨_, by assumption, h⟩
  · cases h

theorem good_fld {x : Opd} {x' : Operand} {t : TypeId} {i n : Nat} {f : Field} {p v : V} (h : Rel cx nt e a w) (hop : o.op = .fieldAddr t x' i) (hf : fieldOf P t i = some f) (hn : szOf P f.type = some n) (hn0 : n ≠ 0) (hx : okOpd cx.fm x x' = true)
    (hd : o.dst = some d) (hlt : d < nt) (h1 : e.opd x = some p) (h3 : e.fld f.offset p = some v) (hK : Kt (e.setD (some d) v)) : Good P cx nt Kt o a w := by
  obtain ⟨fs, hu, hfi⟩ := fieldOf_spec hf
  have e1 := h.opd hx h1
  have hrun : ∀ b o', a.eval x' = .pointer (some ⟨b, o', none⟩) → (execOp a.eval o).run P w = .ok (.value (.pointer (some ⟨b, o' + f.offset, none⟩))) w := by
    intro b o' hv
    simp only [execOp, hop, Instr.fieldAt, hv]
    simp [run_und hu, hfi, Instr.sureAddr, fieldPlace, run_szOf hn, hn0, addr_add]
  unfold Env.fld at h3
  split at h3
  · rename_i k ts
    split at h3
    · rename_i hle
      cases h3
      obtain ⟨_, _, ⟨g1, _⟩, _⟩ := imm_rep e1
      have hw : win ts f.offset (ts.length - f.offset) = ts.drop f.offset := by
        unfold win
        exact List.take_of_length_le (by simp)
      refine good_read h hd hlt (hrun _ _ g1) ?_ hK
      have := imm_sub (i := f.offset) (n := ts.length - f.offset) e1 (by omega) rfl
      rwa [hw] at this
    · cases h3
  · rename_i r q off
    split at h3
    · rename_i s ts htr
      split at h3
      · rename_i hle
        cases h3
        simp only [AR, arep] at e1
        obtain ⟨t0, s', ts', g1, g2, g3, g4⟩ := e1
        have : e.tree r q = some (.mem .own s' ts') := by simp [Env.tree, g1, g2]
        rw [this] at htr
        cases htr
        exact good_read (x := .pref r q (off + f.offset)) h hd hlt (hrun _ _ g4) ⟨t0, s, ts, g1, g2, hle, by rw [Nat.add_assoc]⟩ hK
      · cases h3
    · cases h3
  · cases h3

theorem arepL_get {fm : Nat → Nat} {ok : K → Nat → Prop} {e : Env} {vl : Vl} {g : Nat → Value} : ∀ (vs : List V) (i j : Nat) {x : V}, arepL fm ok e vl w g i vs → vs[j]? = some x → arep fm ok e vl w (g (i + j)) x
  | [], _, _, _, _, h => by simp at h
  | u :: vs, i, 0, x, hr, h => by simp at h; subst h; exact hr.1
  | u :: vs, i, j + 1, x, hr, h => by
    have := arepL_get vs (i + 1) j hr.2 (by simpa using h)
    rwa [show i + 1 + j = i + (j + 1) from by omega] at this

theorem arepL_shift {fm : Nat → Nat} {ok : K → Nat → Prop} {e : Env} {vl : Vl} {g : Nat → Value} : ∀ (vs : List V) (i k : Nat), arepL fm ok e vl w g (i + k) vs ↔ arepL fm ok e vl w (fun j => g (j + k)) i vs
  | [], _, _ => Iff.rfl
  | t :: vs, i, k => by
    simp only [arepL]
    rw [show i + k + 1 = (i + 1) + k from by omega, arepL_shift vs (i + 1) k]

theorem arepL_congr {fm : Nat → Nat} {ok : K → Nat → Prop} {e : Env} {vl : Vl} {g g' : Nat → Value} : ∀ (vs : List V) (i : Nat), (∀ j, i ≤ j → j < i + vs.length → g j = g' j) → arepL fm ok e vl w g i vs → arepL fm ok e vl w g' i vs
  | [], _, _, _ => trivial
  | t :: vs, i, h, hr => by
    simp only [arepL] at hr ⊢
    refine ⟨?_, arepL_congr vs (i + 1) (fun j h1 h2 => h j (by omega) (by simp only [List.length_cons]; omega)) hr.2⟩
    rw [← h i (Nat.le_refl _) (by simp)]; exact hr.1

theorem arepL_append {fm : Nat → Nat} {ok : K → Nat → Prop} {e : Env} {vl : Vl} {g : Nat → Value} : ∀ (vs us : List V) (i : Nat), arepL fm ok e vl w g i (vs ++ us) ↔ arepL fm ok e vl w g i vs ∧ arepL fm ok e vl w g (i + vs.length) us
  | [], us, i => by simp [arepL]
  | t :: vs, us, i => by
    simp only [List.cons_append, arepL, arepL_append vs us (i + 1), List.length_cons, and_assoc]
    rw [show i + 1 + vs.length = i + (vs.length + 1) from by omega]

theorem arepL_win {fm : Nat → Nat} {ok : K → Nat → Prop} {e : Env} {vl : Vl} {g : Nat → Value} {vs : List V} {i n : Nat} (hi : i ≤ vs.length) (h : arepL fm ok e vl w g 0 vs) : arepL fm ok e vl w (fun j => g (j + i)) 0 ((vs.drop i).take n) := by
  have hs : vs = vs.take i ++ ((vs.drop i).take n ++ (vs.drop i).drop n) := by rw [List.take_append_drop, List.take_append_drop]
  rw [hs, arepL_append, arepL_append] at h
  have h2 := h.2.1
  rw [List.length_take, Nat.min_eq_left hi] at h2
  exact (arepL_shift _ 0 i).1 (by rwa [Nat.zero_add] at h2 ⊢)

theorem okN_none {t : TypeId} (h : okN P t none = true) : aggOf P t = some false ∧ szOf P t = some 1 := by
  simpa [okN] using h
theorem okN_some {t : TypeId} {n : Nat} (h : okN P t (some n) = true) : aggOf P t = some true ∧ szOf P t = some n := by
  simpa [okN] using h

theorem good_fldv {x : Opd} {x' : Operand} {t : TypeId} {i : Nat} {n : Option Nat} {f : Field} {p v : V} (h : Rel cx nt e a w) (hop : o.op = .field t x' i) (hf : fieldOf P t i = some f) (hn : okN P f.type n = true) (hx : okOpd cx.fm x x' = true)
    (hd : o.dst = some d) (hlt : d < nt) (h1 : e.opd x = some p) (h3 : fldvV f.offset n p = some v) (hK : Kt (e.setD (some d) v)) : Good P cx nt Kt o a w := by
  obtain ⟨fs, hu, hfi⟩ := fieldOf_spec hf
  have e1 := h.opd hx h1
  unfold fldvV at h3
  split at h3
  · rename_i vs
    simp only [AR, arep] at e1
    obtain ⟨⟨cs, g1, g2⟩, g3⟩ := e1
    rw [g1] at g3
    cases n with
    | none =>
      simp only at h3
      obtain ⟨hag, _⟩ := okN_none hn
      have hlt' : f.offset < vs.length := by
        rcases Nat.lt_or_ge f.offset vs.length with h' | h'
        · exact h'
        · rw [List.getElem?_eq_none h'] at h3; cases h3
      have hv := arepL_get vs 0 f.offset g3 h3
      have hl2 : f.offset < cs.size := by omega
      have hkd : kid w (.agg cs) (0 + f.offset) = cs[f.offset] := by simp [kid, hl2]
      rw [hkd] at hv
      refine good_read (v := cs[f.offset]) h hd hlt ?_ hv hK
      have hc : cs[f.offset]? = some cs[f.offset] := Array.getElem?_eq_getElem hl2
      simp only [execOp, hop, Instr.field, g1]
      simp [run_und hu, hfi, asAgg, part, run_aggOf hag, hc]
    | some n =>
      simp only at h3
      obtain ⟨hag, hsz⟩ := okN_some hn
      split at h3
      · rename_i hle
        cases h3
        refine good_read (v := .agg (cs.extract f.offset (f.offset + n))) h hd hlt ?_ ?_ hK
        · simp only [execOp, hop, Instr.field, g1]
          simp [run_und hu, hfi, asAgg, part, run_aggOf hag, run_szOf hsz]
        · simp only [AR, arep]
          refine ⟨⟨_, rfl, by simp; omega⟩, arepL_congr _ 0 (fun j _ hj => ?_) (arepL_win (n := n) (by omega) g3)⟩
          simp only [List.length_take, List.length_drop] at hj
          simp only [kid, Array.getD_eq_getD_getElem?]
          rw [Array.getElem?_extract]
          rw [if_pos (by omega), Nat.add_comm]
      · cases h3
  · cases h3

theorem good_ext {x : Opd} {x' : Operand} {i : Nat} {p v : V} (h : Rel cx nt e a w) (hop : o.op = .extract x' i) (hx : okOpd cx.fm x x' = true)
    (hd : o.dst = some d) (hlt : d < nt) (h1 : e.opd x = some p) (h3 : extV i p = some v) (hK : Kt (e.setD (some d) v)) : Good P cx nt Kt o a w := by
  have e1 := h.opd hx h1
  unfold extV at h3
  split at h3
  · rename_i vs
    simp only [AR, arep] at e1
    obtain ⟨⟨cs, g1, g2⟩, g3⟩ := e1
    rw [g1] at g3
    have hlt' : i < vs.length := by
      rcases Nat.lt_or_ge i vs.length with h' | h'
      · exact h'
      · rw [List.getElem?_eq_none h'] at h3; cases h3
    have hv := arepL_get vs 0 i g3 h3
    have hl2 : i < cs.size := by omega
    have hkd : kid w (.tuple cs) (0 + i) = cs[i] := by simp [kid, hl2]
    rw [hkd] at hv
    refine good_read (v := cs[i]) h hd hlt ?_ hv hK
    have hc : cs[i]? = some cs[i] := Array.getElem?_eq_getElem hl2
    simp only [execOp, hop, Instr.extract, g1]
    simp [hc]
  · cases h3

theorem good_nilck {x : Opd} {x' : Operand} {p : V} (h : Rel cx nt e a w) (hop : o.op = .nilCheck x') (hx : okOpd cx.fm x x' = true)
    (hd : o.dst = some d) (hlt : d < nt) (h1 : e.opd x = some p) (h3 : (∃ r q off, p = .pref r q off) ∨ ∃ k ts, p = .val (.mem k none ts)) (hK : Kt (e.setD (some d) p)) : Good P cx nt Kt o a w := by
  have e1 := h.opd hx h1
  have hv : ∃ ad, a.eval x' = .pointer (some ad) := by
    rcases h3 with ⟨r, q, off, rfl⟩ | ⟨k, ts, rfl⟩
    · simp only [AR, arep] at e1
      obtain ⟨_, _, _, _, _, _, g⟩ := e1
      exact ⟨_, g⟩
    · obtain ⟨_, _, ⟨g, _⟩, _⟩ := imm_rep e1
      exact ⟨_, g⟩
  obtain ⟨ad, hv⟩ := hv
  refine good_read h hd hlt ?_ e1 hK
  simp [execOp, hop, hv]

theorem node_rep {cx : Cx} {e : Env} {a : Act} {w : World} (h : R cx e (vlA a) w) {r : Nat} {p : List Nat} {u : T} (ht : e.tree r p = some u) : Mch.rep cx.fm (okR cx (Own e (vlA a) w)) w (nodeV w (vlA a r) p) u := by
  obtain ⟨t, h1, h2⟩ := tree_some ht
  exact (focus p t _ (srep_val h h1) h2).1

theorem kid_mem {w : World} {nv : Value} {s : Option Nat} {n i : Nat} (h : shp w nv s n) : kid w nv i = (w.cell? ⟨blk nv, ofs nv + i, none⟩).getD undef := by
  obtain ⟨h, _⟩ := h
  cases s with
  | none => simp only at h; rw [h]; simp [kid, blk, ofs]
  | some sz => simp only at h; obtain ⟨len, h6, _⟩ := h; rw [h6]; simp [kid, blk, ofs]

theorem cell_kid {w : World} {nv : Value} {s : Option Nat} {n i : Nat} (h : shp w nv s n) (hi : i < n) : w.cell? ⟨blk nv, ofs nv + i, none⟩ = some (kid w nv i) := by
  rw [kid_mem h]
  obtain ⟨u, hu⟩ := Option.isSome_iff_exists.1 (h.2 i hi)
  rw [hu]; rfl

theorem run_load_at {t : TypeId} {n : Option Nat} (hn : okN P t n = true) {b o' : Nat} {f : Nat → Value} (hc : ∀ i, i < n.getD 1 → w.cell? ⟨b, o' + i, none⟩ = some (f i)) :
    (Instr.loadAt t (.pointer (some ⟨b, o', none⟩))).run P w = .ok (match n with | none => f 0 | some n => .agg ((List.range n).map f).toArray) w := by
  cases n with
  | none =>
    obtain ⟨hag, _⟩ := okN_none hn
    have := hc 0 (by simp)
    simp only [Nat.add_zero] at this
    simp [Instr.loadAt, Instr.sureAddr, loadVar, run_aggOf hag, run_load, this]
  | some n =>
    obtain ⟨hag, hsz⟩ := okN_some hn
    have := run_loadCells (P := P) w ⟨b, o', none⟩ n f (fun j hj => by rw [addr_add]; exact hc j (by simpa using hj))
    simp [Instr.loadAt, Instr.sureAddr, loadVar, run_aggOf hag, run_szOf hsz, this]

theorem ld_read {pv : Value} {t : TypeId} {n : Option Nat} {p v : V} (h : Rel cx nt e a w) (hn : okN P t n = true) (e1 : AR cx e a w pv p) (h3 : e.ld n p = some v) : ∃ x, (Instr.loadAt t pv).run P w = .ok x w ∧ AR cx e a w x v := by
  unfold Env.ld at h3
  split at h3
  · rename_i k ts
    obtain ⟨g1, g2, g3, g4, g5⟩ := imm_rep e1
    have hcell : ∀ i, i < ts.length → w.cell? ⟨blk pv, ofs pv + i, none⟩ = some (kid w pv i) := fun i hi => cell_kid g3 hi
    have hno : ∀ (i : Nat) (u : T), ts[i]? = some u → u.noOwn = true := fun i u hi => by
      have := g2
      rw [← List.take_append_drop i ts] at this
      simp only [noOwnL_append, Bool.and_eq_true] at this
      have hd' : ts.drop i = u :: ts.drop (i + 1) := by
        have hl : i < ts.length := by
          rcases Nat.lt_or_ge i ts.length with h' | h'
          · exact h'
          · rw [List.getElem?_eq_none h'] at hi; cases hi
        rw [List.drop_eq_getElem_cons hl]
        congr 1
        rw [List.getElem?_eq_getElem hl] at hi
        exact Option.some.inj hi
      rw [hd'] at this
      simp only [T.noOwnL, Bool.and_eq_true] at this
      exact this.2.1
    have hp : pv = .pointer (some ⟨blk pv, ofs pv, none⟩) := g3.1
    cases n with
    | none =>
      simp only [Option.map_eq_some_iff] at h3
      obtain ⟨u, hu, rfl⟩ := h3
      have hl : 0 < ts.length := by
        rcases Nat.lt_or_ge 0 ts.length with h' | h'
        · exact h'
        · rw [List.getElem?_eq_none h'] at hu; cases hu
      have hr := run_load_at (P := P) (w := w) (n := none) hn (b := blk pv) (o' := ofs pv) (f := kid w pv) (fun i hi => hcell i (by simp at hi; omega))
      refine ⟨kid w pv 0, ?_, hno 0 u hu, ?_⟩
      · rw [← hp] at hr
        exact hr
      · have := repL_get ts 0 0 g5 hu
        simpa using this
    | some n =>
      simp only at h3
      split at h3
      · rename_i hle
        cases h3
        have hr := run_load_at (P := P) (w := w) (n := some n) hn (b := blk pv) (o' := ofs pv) (f := kid w pv) (fun i hi => hcell i (by simp at hi; omega))
        refine ⟨.agg ((List.range n).map (kid w pv)).toArray, ?_, ?_⟩
        · rw [← hp] at hr
          exact hr
        · simp only [AR, arep]
          refine ⟨⟨_, rfl, by simp; omega⟩, ?_⟩
          refine arepL_congr (g := kid w pv) _ 0 (fun j _ hj => ?_) ?_
          · simp only [List.length_map, List.length_take] at hj
            have hjn : j < n := by omega
            simp [kid, Array.getD_eq_getD_getElem?, hjn]
          · have g6 : repL cx.fm (okR cx (Own e (vlA a) w)) w (kid w pv) 0 (ts.take n) := by
              rw [← List.take_append_drop n ts, repL_append] at g5; exact g5.1
            have g7 : T.noOwnL (ts.take n) = true := by
              rw [← List.take_append_drop n ts, noOwnL_append, Bool.and_eq_true] at g2; exact g2.1
            exact vals_arep (ts.take n) 0 g7 g6
      · cases h3
  · rename_i r q off
    split at h3
    · rename_i s ts htr
      have hnode := node_rep h.r htr
      simp only [AR, arep] at e1
      obtain ⟨t0, s', ts', g1, g2, g3, g4⟩ := e1
      have htr' : e.tree r q = some (.mem .own s' ts') := by simp [Env.tree, g1, g2]
      rw [htr'] at htr
      cases htr
      rw [rep_mem] at hnode
      obtain ⟨k1, _, _, _, k5⟩ := hnode
      have hcell : ∀ i, off + i < ts.length → w.cell? ⟨blk (nodeV w (vlA a r) q), ofs (nodeV w (vlA a r) q) + off + i, none⟩ = some (kid w (nodeV w (vlA a r) q) (off + i)) := fun i hi => by
        rw [Nat.add_assoc]; exact cell_kid k1 hi
      cases n with
      | none =>
        simp only [Option.map_eq_some_iff] at h3
        obtain ⟨u, hu, rfl⟩ := h3
        have hl : off < ts.length := by
          rcases Nat.lt_or_ge off ts.length with h' | h'
          · exact h'
          · rw [List.getElem?_eq_none h'] at hu; cases hu
        have hr := run_load_at (P := P) (w := w) (n := none) hn (b := blk (nodeV w (vlA a r) q)) (o' := ofs (nodeV w (vlA a r) q) + off) (f := fun i => kid w (nodeV w (vlA a r) q) (off + i)) (fun i hi => hcell i (by simp at hi; omega))
        have hat : t0.at (q ++ [off]) = some u := by
          rw [R.replaceAt.at_append q [off] t0 g2]
          simp only [T.at, T.kids, hu, Option.bind_some]
        have hnd : nodeV w (vlA a r) (q ++ [off]) = kid w (nodeV w (vlA a r) q) off := by rw [R.replaceAt.nodeV_append]; rfl
        refine ⟨kid w (nodeV w (vlA a r) q) off, ?_, ?_⟩
        · rw [g4]; simpa using hr
        · rw [← hnd]
          refine peek_arep (vl := vlA a) g1 u (q ++ [off]) hat ?_
          rw [hnd]
          have := repL_get ts 0 off k5 hu
          rwa [Nat.zero_add] at this
      | some n =>
        simp only at h3
        split at h3
        · rename_i hle
          cases h3
          have hr := run_load_at (P := P) (w := w) (n := some n) hn (b := blk (nodeV w (vlA a r) q)) (o' := ofs (nodeV w (vlA a r) q) + off) (f := fun i => kid w (nodeV w (vlA a r) q) (off + i)) (fun i hi => hcell i (by simp at hi; omega))
          refine ⟨.agg ((List.range n).map fun i => kid w (nodeV w (vlA a r) q) (off + i)).toArray, ?_, ?_⟩
          · rw [g4]; exact hr
          · have hwl : (win ts off n).length = n := win_length hle
            simp only [AR, arep]
            refine ⟨⟨_, rfl, by rw [peekL_length, hwl]; simp⟩, ?_⟩
            have k6 : repL cx.fm (okR cx (Own e (vlA a) w)) w (kid w (nodeV w (vlA a r) q)) off (win ts off n) := by
              have := (repL_shift (fm := cx.fm) (ok := okR cx (Own e (vlA a) w)) (w := w) (g := kid w (nodeV w (vlA a r) q)) (win ts off n) 0 off).2 (repL_win n (by omega) k5)
              rwa [Nat.zero_add] at this
            have k7 := peekL_arep (vl := vlA a) g1 (win ts off n) q (.mem .own s ts) g2 off (fun j u hj => by
              simp only [win_getElem?] at hj
              split at hj
              · simpa [T.kids] using hj
              · cases hj) k6
            have k8 := (arepL_shift (w := w) (T.peekL r q off (win ts off n)) 0 off).1 (by rwa [Nat.zero_add])
            refine arepL_congr _ 0 (fun j _ hj => ?_) k8
            rw [peekL_length, hwl] at hj
            have hjn : j < n := by omega
            simp [kid, Array.getD_eq_getD_getElem?, hjn, Nat.add_comm]
        · cases h3
    · cases h3
  · cases h3
where
  vals_arep {cx : Cx} {e : Env} {a : Act} {w : World} {g : Nat → Value} : ∀ (ts : List T) (i : Nat), T.noOwnL ts = true → repL cx.fm (okR cx (Own e (vlA a) w)) w g i ts → arepL cx.fm (okR cx (Own e (vlA a) w)) e (vlA a) w g i (ts.map .val)
    | [], _, _, _ => trivial
    | t :: ts, i, h1, h2 => by
      simp only [T.noOwnL, Bool.and_eq_true] at h1
      exact ⟨⟨h1.1, h2.1⟩, vals_arep ts (i + 1) h1.2 h2.2⟩

theorem good_ld {x : Opd} {x' : Operand} {t : TypeId} {n : Option Nat} {p v : V} (h : Rel cx nt e a w) (hop : o.op = .load t x') (hn : okN P t n = true) (hx : okOpd cx.fm x x' = true)
    (hd : o.dst = some d) (hlt : d < nt) (h1 : e.opd x = some p) (h3 : e.ld n p = some v) (hK : Kt (e.setD (some d) v)) : Good P cx nt Kt o a w := by
  obtain ⟨u, hr, hu⟩ := ld_read (P := P) h hn (h.opd hx h1) h3
  exact good_read h hd hlt (by simp only [execOp, hop, Sem.run_bind, hr, Result.andThen_ok, Sem.run_pure]) hu hK

end
end Go.Mch
