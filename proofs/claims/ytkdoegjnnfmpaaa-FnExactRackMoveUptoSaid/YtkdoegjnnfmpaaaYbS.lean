/- Calls, against the model's. -/
import Derived.Test.YtkdoegjnnfmpaaaYbR
namespace Go.Mch

/-- A world, and no memory that is held back or reserved. -/
abbrev cx0 (fm : Nat → Nat) (w : World) (A M : Nat → Prop) (hA : ∀ b, A b → b < w.heap.size) : Cx := ⟨fm, w, A, M, hA, fun _ => False⟩

/-- What is behind a call. -/
def Back (fm : Nat → Nat) (args args' : List T) (r : T) (w : World) (vs : Array Value) (A M : Nat → Prop) (hA : ∀ b, A b → b < w.heap.size) : Ending → World → Prop
  | .returned v, w' => ∃ q e' vl', args.length ≤ q ∧ R (cx0 fm w A M hA) (e'.add q (.val r)) vl' w' ∧ Clr e' q ∧ vl' q = v ∧ args' = backArgs e' 0 args ∧ ∀ s, s < args.length → (args.getD s .gone).noOwn = false → vl' s = vs.getD s undef
  | _, _ => False

/-- What a function of the model's program does with trees. -/
def Pact (P : Program) (fm : Nat → Nat) (f : Nat) (args args' : List T) (r : T) : Prop :=
  (∃ fn, P.funcs[fm f]? = some fn ∧ fn.body.isNone = false ∧ (fn.name == "runtime.NumGoroutine") = false) ∧
  ∀ (w : World) (vs : Array Value) (A M : Nat → Prop) (hA : ∀ b, A b → b < w.heap.size), vs.size = args.length → (kindOf args = .fresh → ∀ b, ¬ M b) →
    R (cx0 fm w A M hA) (init args) (fun s => vs.getD s undef) w → Calls P (fm f) vs w (Back fm args args' r w vs A M hA)

mutual
theorem rep_noOld {fm : Nat → Nat} {ok : K → Nat → Prop} {w : World} : ∀ (t : T) (v : Value), t.noOld = true → rep fm ok w v t → rep fm (fun k b => ok k b ∧ k ≠ .old) w v t
  | .sc _, _, _, h => h
  | .gone, _, _, _ => trivial
  | .nul, _, _, h => h
  | .fn f caps, v, ho, h => by
    simp only [rep, T.noOld] at h ho ⊢
    exact ⟨h.1, h.2.1, repL_noOld caps _ 0 ho h.2.2⟩
  | .agg ts, v, ho, h => by
    simp only [rep, T.noOld] at h ho ⊢
    exact ⟨h.1, repL_noOld ts _ 0 ho h.2⟩
  | .tup ts, v, ho, h => by
    simp only [rep, T.noOld] at h ho ⊢
    exact ⟨h.1, repL_noOld ts _ 0 ho h.2⟩
  | .mem k s ts, v, ho, h => by
    simp only [T.noOld, Bool.and_eq_true, bne_iff_ne, ne_eq] at ho
    rw [rep_mem] at h ⊢
    exact ⟨h.1, fun hh => ⟨h.2.1 hh, ho.1⟩, h.2.2.1, h.2.2.2.1, repL_noOld ts _ 0 ho.2 h.2.2.2.2⟩
theorem repL_noOld {fm : Nat → Nat} {ok : K → Nat → Prop} {w : World} : ∀ (ts : List T) (g : Nat → Value) (i : Nat), T.noOldL ts = true → repL fm ok w g i ts → repL fm (fun k b => ok k b ∧ k ≠ .old) w g i ts
  | [], _, _, _, _ => trivial
  | t :: ts, g, i, ho, h => by
    simp only [repL, T.noOldL, Bool.and_eq_true] at h ho ⊢
    exact ⟨rep_noOld t _ ho.1 h.1, repL_noOld ts g (i + 1) ho.2 h.2⟩
end

theorem init_some {args : List T} {s : Nat} {x : V} (h : init args s = some x) : ∃ t, args[s]? = some t ∧ x = .val t := by
  unfold init at h
  rw [Option.map_eq_some_iff] at h
  obtain ⟨t, h1, h2⟩ := h
  exact ⟨t, h1, h2.symm⟩

theorem noOwnL_get : ∀ {ts : List T}, T.noOwnL ts = true → ∀ {i : Nat} {t : T}, ts[i]? = some t → t.noOwn = true
  | [], _, _, _, h => by simp at h
  | u :: ts, h, 0, t, hi => by
    simp only [T.noOwnL, Bool.and_eq_true] at h
    simp at hi; subst hi; exact h.1
  | u :: ts, h, i + 1, t, hi => by
    simp only [T.noOwnL, Bool.and_eq_true] at h
    exact noOwnL_get h.2 (by simpa using hi)

theorem noOwnL_app : ∀ {ts us : List T}, T.noOwnL ts = true → T.noOwnL us = true → T.noOwnL (ts ++ us) = true
  | [], _, _, h => h
  | t :: ts, us, h1, h2 => by
    simp only [T.noOwnL, Bool.and_eq_true, List.cons_append] at h1 ⊢
    exact ⟨h1.1, noOwnL_app h1.2 h2⟩

section
variable {P : Program} {cx : Cx} {nt : Nat} {Kt : Env → Prop} {o : Oper} {a : Act} {w : World} {e : Env} {d : Nat}

theorem args_rep {ok' : K → Nat → Prop} (h : Rel cx nt e a w) (hok : ∀ k b, k ≠ .own → okR cx (Own e (vlA a) w) k b → ok' .old b) : ∀ (xs : List (Opd × Mode)) (ys : List Operand) {ts : List T}, okModes cx.fm xs ys = true → xs.all (fun x => x.2 == .r) = true →
    e.args xs = some ts → (e.lends xs = true → ∀ b, ok' .old b) → T.noOwnL ts = true ∧ ts.length = ys.length ∧ ∀ g i, (∀ j, j < ys.length → g (i + j) = a.eval (ys.getD j (.const undef))) → repL cx.fm ok' w g i ts
  | [], [], ts, _, _, ha, _ => by
    simp only [Env.args, Option.some.injEq] at ha
    subst ha
    exact ⟨rfl, rfl, fun _ _ _ => trivial⟩
  | (x, md) :: xs, y :: ys, ts, ho, hm, ha, hl => by
    simp only [okModes, Bool.and_eq_true] at ho
    simp only [List.all_cons, Bool.and_eq_true, beq_iff_eq] at hm
    obtain ⟨rfl, hm⟩ := hm
    simp only [Env.args] at ha
    simp only [Env.lends, Bool.or_eq_true] at hl
    cases hx : e.opd x with
    | none => rw [hx] at ha; cases ha
    | some v =>
      rw [hx] at ha hl
      simp only [Option.bind_some] at ha
      cases hv : e.res v with
      | none => rw [hv] at ha; cases ha
      | some t =>
        rw [hv] at ha
        simp only [Option.bind_some, Option.map_eq_some_iff] at ha
        obtain ⟨ts', h1, rfl⟩ := ha
        obtain ⟨q1, q2, q3⟩ := args_rep h hok xs ys ho.2 (by simpa using hm) h1 (fun hh => hl (.inr hh))
        have hr := res_rep h.r hok v _ (fun hh => hl (.inl hh)) (h.opd ho.1 hx) hv
        refine ⟨by simp [T.noOwnL, res_noOwn v hv, q1], by simp [q2], fun g i hg => ⟨?_, q3 g (i + 1) fun j hj => ?_⟩⟩
        · have := hg 0 (by simp)
          simp only [Nat.add_zero, List.getD_cons_zero] at this
          rw [this]; exact hr
        · have := hg (j + 1) (by simpa using hj)
          simp only [List.getD_cons_succ] at this
          rw [← this, show i + 1 + j = i + (j + 1) from by omega]
  | [], _ :: _, _, h, _, _, _ => by simp [okModes] at h
  | _ :: _, [], _, h, _, _, _ => by simp [okModes] at h

theorem back_r : ∀ (xs : List (Opd × Mode)) (ts : List T) {e e' : Env}, xs.all (fun x => x.2 == .r) = true → e.back xs ts = some e' → e' = e
  | [], [], e, e', _, h => by simp only [Env.back, Option.some.injEq] at h; exact h.symm
  | (x, md) :: xs, t :: ts, e, e', hm, h => by
    simp only [List.all_cons, Bool.and_eq_true, beq_iff_eq] at hm
    obtain ⟨rfl, hm⟩ := hm
    simp only [Env.back] at h
    exact back_r xs ts (by simpa using hm) h
  | [], _ :: _, _, _, _, h => by simp [Env.back] at h
  | (_, .r) :: _, [], _, _, _, h => by simp [Env.back] at h
  | (_, .w) :: _, [], _, _, _, h => by simp [Env.back] at h
  | (_, .m) :: _, [], _, _, _, h => by simp [Env.back] at h

theorem Keeps.trans {M : Nat → Prop} {w0 w w' : World} (h : Keeps M w0 w) (h' : Keeps (fun _ => False) w w') : Keeps M w0 w' :=
  ⟨h'.os.trans h.os, h'.tape.trans h.tape, h'.output.trans h.output, Nat.le_trans h.size h'.size, fun b hb hm => (h'.block b (Nat.lt_of_lt_of_le hb h.size) (fun h => h)).trans (h.block b hb hm)⟩

/-- A callee that was handed nothing to write came back: its result is a float. -/
theorem call_back {w' : World} {lends : Bool} {L L' : List T} {r : T} {vs : Array Value} {v : Value} {hA' : ∀ b, (lends = false ∧ (cx.A b ∨ Own e (vlA a) w b)) → b < w.heap.size} (hN : ∀ b, ¬ cx.N b) (h : Rel cx nt e a w) (hlr : lends = true → r.noOld = true)
    (hb : Back cx.fm L L' r w vs (fun b => lends = false ∧ (cx.A b ∨ Own e (vlA a) w b)) (fun _ => False) hA' (.returned v) w') :
    ∃ vl, (∀ s, s < nt → vl s = vlA a s) ∧ vl nt = v ∧ R cx (e.add nt (.val r)) vl w' := by
  obtain ⟨q, e1, vl1, _, hR1, hc1, rfl, _, _⟩ := hb
  have hkeep := hR1.keeps
  have hr1 := srep_val hR1 (add_self ..)
  obtain ⟨who1, hw1⟩ := hR1.who
  have hnew : ∀ b, 1 ≤ cnt w' (vl1 q) b r → w.heap.size ≤ b := fun b hb => by
    have := (rep_owned r _ hr1 b hb).1
    rcases this.2.1 rfl with h1 | h1
    · exact h1
    · exact h1.elim
  have hsame : ∀ b, b < w.heap.size → ¬ False → w'.heap[b]? = w.heap[b]? := fun b hb _ => hkeep.block b hb (fun h => h)
  have hkeep2 : Keeps cx.M cx.w0 w' := h.r.keeps.trans hkeep
  have h2 := h.r.world (w' := w') (touch := fun _ => False) (N := fun b => 1 ≤ cnt w' (vl1 q) b r) hsame (fun _ _ _ _ h => h) (fun _ _ _ _ h => h.elim) hkeep2 (fun b hb => .inr (hnew b hb))
  have hlt : ∀ b, Own e (vlA a) w b → b < w.heap.size := by
    rintro b ⟨s, t, ht, hc⟩
    exact (rep_owned t _ (srep_val h.r ht) b hc).2
  have hown : ∀ b, Own e (vlA a) w' b → Own e (vlA a) w b := by
    rintro b ⟨s, t, ht, hc⟩
    refine ⟨s, t, ht, ?_⟩
    have := (frame (w' := w') (touch := fun _ => False) hsame (fun _ _ _ _ h => h) t _ (srep_val h.r ht) (fun _ h => h.elim)).2 b
    omega
  have h3 := h2.addA (d := nt) (h.dom nt (Nat.le_refl _)) (v := .tuple #[]) (x := .val (.tup [])) ⟨rfl, ⟨⟨#[], rfl, rfl⟩, trivial⟩⟩
  have hown3 : ∀ b, Own (e.add nt (.val (.tup []))) (vadd (vlA a) nt (.tuple #[])) w' b → Own e (vlA a) w b := fun b hb => hown b (own_addA rfl b hb)
  have hrep : Mch.rep cx.fm (okR { cx with N := fun b => 1 ≤ cnt w' (vl1 q) b r } (fun b => (∃ s u, s ≠ nt ∧ e.add nt (.val (.tup [])) s = some (.val u) ∧ 1 ≤ cnt w' (vadd (vlA a) nt (.tuple #[]) s) b u) ∨ 1 ≤ cnt w' (vl1 q) b r)) w' (vl1 q) r := by
    have hoth : ∀ b, (∃ s u, s ≠ nt ∧ e.add nt (.val (.tup [])) s = some (.val u) ∧ 1 ≤ cnt w' (vadd (vlA a) nt (.tuple #[]) s) b u) → Own e (vlA a) w b := by
      rintro b ⟨s, u, hs, hu, hc⟩
      rw [add_ne hs] at hu; rw [vadd_ne hs] at hc
      exact hown b ⟨s, u, hu, hc⟩
    have hnotown : ∀ k b, k ≠ .own → okR (cx0 cx.fm w (fun b => lends = false ∧ (cx.A b ∨ Own e (vlA a) w b)) (fun _ => False) hA') (Own (e1.add q (.val r)) vl1 w') k b → ¬ 1 ≤ cnt w' (vl1 q) b r := fun k b hk ho hc =>
      (ho.2.2.2 hk).1 ⟨q, r, add_self .., hc⟩
    have hcown : ∀ b, 1 ≤ cnt w' (vl1 q) b r → okR { cx with N := fun b => 1 ≤ cnt w' (vl1 q) b r } (fun b => (∃ s u, s ≠ nt ∧ e.add nt (.val (.tup [])) s = some (.val u) ∧ 1 ≤ cnt w' (vadd (vlA a) nt (.tuple #[]) s) b u) ∨ 1 ≤ cnt w' (vl1 q) b r) .own b := fun b hb => by
      have h1 := hnew b hb
      have h2 := h.r.keeps.size
      exact ⟨fun hA => by have := cx.hA b hA; omega, fun _ => .inl (by simp only; omega), fun hh => (by cases hh), fun hh => (hh rfl).elim⟩
    cases hl : lends with
    | false =>
      refine rep_ok (fun k b hk _ ho => ?_) r _ (fun b hb _ _ => hcown b hb) hr1
      have hnA : ¬ (cx.A b ∨ Own e (vlA a) w b) := fun hh => ho.1 ⟨hl, hh⟩
      have h2 := h.r.keeps.size
      exact ⟨fun hA => hnA (.inl hA), fun hh => (hk hh).elim, fun hh => by have := ho.2.2.1 hh; simp only at this ⊢; omega, fun _ => ⟨fun hh => hh.elim (fun hh => hnA (.inr (hoth b hh))) (hnotown k b hk ho), hnotown k b hk ho⟩⟩
    | true =>
      refine rep_ok (fun k b hk _ ho => ?_) r _ (fun b hb _ _ => hcown b hb) (rep_noOld r _ (hlr hl) hr1)
      have hkf : k = .fresh := by cases k <;> simp_all
      have h1 := ho.1.2.2.1 hkf
      have h2 := h.r.keeps.size
      simp only at h1
      exact ⟨fun hA => by have := cx.hA b hA; omega, fun hh => (hk hh).elim, fun _ => by simp only; omega, fun _ => ⟨fun hh => hh.elim (fun hh => by have := hlt b (hoth b hh); omega) (hnotown k b hk ho.1), hnotown k b hk ho.1⟩⟩
  have h4 := h3.retag (w' := w') (touch := fun _ => False) (q := nt) (d := nt) (t' := r) (v' := vl1 q) (e' := e.add nt (.val r)) (add_self ..) (fun _ _ _ => rfl) (fun _ h => h.elim) h3.keeps hrep (fun b => (hw1 q r (add_self ..) b).1)
    (fun b hb => .inr ⟨hb, fun hh => by have := hlt b (hown3 b hh); have := hnew b hb; omega⟩) (add_self ..) (fun s x hs hx => by
      rw [add_ne hs] at hx
      refine ⟨hs, by rw [add_ne hs]; exact hx, fun r hr => ?_⟩
      have hne : r ≠ nt := fun e' => by subst e'; rw [(h.clr r (Nat.le_refl _)).2 s x hx] at hr; cases hr
      exact ⟨hne, hne, by rw [add_ne hne, add_ne hne]⟩)
  have h5 := h4.unN (N := cx.N) (fun b hb => (hN b hb).elim)
  exact ⟨_, fun s hs => by rw [vadd_ne (by omega), vadd_ne (by omega)], vadd_self .., h5⟩

theorem good_call {G : Rl} (hG : ∀ f args args' r, T.noOwnL args = true → G f args args' r → Pact P cx.fm f args args' r) (hN : ∀ b, ¬ cx.N b) (h : Rel cx nt e a w) {f : Opd} {f' : Operand} {xs : List (Opd × Mode)} {ys : Array Operand} {ats : Array TypeId}
    (hop : o.op = .call ⟨.value f', ys, ats⟩) (hf : okOpd cx.fm f f' = true) (hxs : okModes cx.fm xs ys.toList = true) (hmo : xs.all (fun x => x.2 == .r) = true) (hd : ∀ d, o.dst = some d → d < nt)
    {id : Nat} {caps ts ts' : List T} {r : T} {e' : Env} (he : e.opd f = some (.val (.fn id caps))) (ha : e.args xs = some ts) (hcall : G id (ts ++ T.eryL .old caps) (ts' ++ T.eryL .old caps) r)
    (hlr : e.lends xs = true → r.noOld = true) (hb : e.back xs ts' = some e') (hK : Kt (e'.setD o.dst (.val r))) : Good P cx nt Kt o a w := by
  have := back_r xs ts' hmo hb
  subst this
  obtain ⟨hfn, hfr⟩ := h.opd hf he
  simp only [Mch.rep] at hfr
  obtain ⟨⟨cs, hfv, hcs⟩, hno, hcaps⟩ := hfr
  have hlt : ∀ b, Own e' (vlA a) w b → b < w.heap.size := by
    rintro b ⟨s, t, ht, hc⟩
    exact (rep_owned t _ (srep_val h.r ht) b hc).2
  have hA' : ∀ b, (e'.lends xs = false ∧ (cx.A b ∨ Own e' (vlA a) w b)) → b < w.heap.size := fun b hb => by
    rcases hb.2 with h1 | h1
    · have := cx.hA b h1; have := h.r.keeps.size; omega
    · exact hlt b h1
  have hlen : (ys.map a.eval ++ cs).size = (ts ++ T.eryL .old caps).length := by
    have := (args_rep (ok' := fun _ _ => True) h (fun _ _ _ _ => trivial) xs ys.toList hxs hmo ha (fun _ _ => trivial)).2.1
    simp only [Array.length_toList] at this
    simp [this, hcs, eryL_length]
  have hnoL : T.noOwnL (ts ++ T.eryL .old caps) = true := noOwnL_app (args_rep (ok' := fun _ _ => True) h (fun _ _ _ _ => trivial) xs ys.toList hxs hmo ha (fun _ _ => trivial)).1 (eryL_noOwn (by decide) caps)
  obtain ⟨⟨fn, p1, p2, p3⟩, hpact⟩ := hG _ _ _ _ hnoL hcall
  have hown0 : ∀ b, ¬ Own (init (ts ++ T.eryL .old caps)) (fun s => (ys.map a.eval ++ cs).getD s undef) w b := by
    rintro b ⟨s, t, ht, hc⟩
    obtain ⟨t', h1, h2⟩ := init_some ht
    cases h2
    rw [cnt_noOwn _ _ _ _ (noOwnL_get hnoL h1)] at hc
    omega
  generalize hcx : cx0 cx.fm w (fun b => e'.lends xs = false ∧ (cx.A b ∨ Own e' (vlA a) w b)) (fun _ => False) hA' = cx'
  have hok0 : ∀ b, (e'.lends xs = false → ¬ (cx.A b ∨ Own e' (vlA a) w b)) → okR cx' (Own (init (ts ++ T.eryL .old caps)) (fun s => (ys.map a.eval ++ cs).getD s undef) w) .old b := fun b hb => by
    subst hcx
    exact ⟨fun hh => hb hh.1 hh.2, fun hh => (by cases hh), fun hh => (by cases hh), fun _ => ⟨hown0 b, fun h => h⟩⟩
  have hok : ∀ k b, k ≠ .own → okR cx (Own e' (vlA a) w) k b → okR cx' (Own (init (ts ++ T.eryL .old caps)) (fun s => (ys.map a.eval ++ cs).getD s undef) w) .old b := fun k b hk ho =>
    hok0 b fun _ hh => hh.elim ho.1 (ho.2.2.2 hk).1
  obtain ⟨g1, g2, g3⟩ := args_rep h hok xs ys.toList hxs hmo ha (fun hh b => hok0 b fun h0 => by rw [hh] at h0; cases h0)
  simp only [Array.length_toList] at g2
  have hL : repL cx.fm (okR cx' (Own (init (ts ++ T.eryL .old caps)) (fun s => (ys.map a.eval ++ cs).getD s undef) w)) w (fun s => (ys.map a.eval ++ cs).getD s undef) 0 (ts ++ T.eryL .old caps) := by
    rw [repL_append]
    refine ⟨g3 _ 0 fun j hj => ?_, ?_⟩
    · simp only [Array.length_toList] at hj
      simp only [Nat.zero_add, Array.getD_eq_getD_getElem?]
      rw [Array.getElem?_append_left (by simpa using hj)]
      simp [hj, List.getD_eq_getElem?_getD]
    · have h9 := repL_ery hok caps (kid w (a.eval f')) 0 (.inl hno) hcaps
      rw [Nat.zero_add]
      have h10 := (repL_shift (fm := cx.fm) (ok := okR cx' (Own (init (ts ++ T.eryL .old caps)) (fun s => (ys.map a.eval ++ cs).getD s undef) w)) (w := w) (g := fun s => (ys.map a.eval ++ cs).getD s undef) (T.eryL .old caps) 0 ts.length).2
      rw [Nat.zero_add] at h10
      refine h10 (repL_congr _ 0 (fun j _ hj => ?_) h9)
      rw [hfv]
      simp only [kid, Array.getD_eq_getD_getElem?]
      rw [Array.getElem?_append_right (by simp [g2])]
      simp [g2]
  have hR : R cx' (init (ts ++ T.eryL .old caps)) (fun s => (ys.map a.eval ++ cs).getD s undef) w := by
    refine ⟨by subst hcx; exact Keeps.refl _ _, ⟨fun _ => 0, fun s t ht b => ?_⟩, fun s x hx => ?_⟩
    · obtain ⟨t', h1, h2⟩ := init_some ht
      cases h2
      rw [cnt_noOwn _ _ _ _ (noOwnL_get hnoL h1)]
      exact ⟨by omega, fun h => by omega⟩
    · obtain ⟨t, h1, rfl⟩ := init_some hx
      have := repL_get _ 0 s hL h1
      rw [Nat.zero_add] at this
      refine .inl ⟨t, rfl, ?_⟩
      have hfm : cx'.fm = cx.fm := by subst hcx; rfl
      rw [hfm]
      exact this
  subst hcx
  have hcalls := hpact w (ys.map a.eval ++ cs) _ (fun _ => False) hA' hlen (fun _ _ h => h) hR
  have hrun : (execOp a.eval o).run P w = .ok (.enter (cx.fm id) (ys.map a.eval ++ cs)) w := by
    have p2' : fn.body ≠ none := fun h0 => by rw [h0] at p2; cases p2
    have p3' : fn.name ≠ "runtime.NumGoroutine" := fun h0 => by rw [h0] at p3; simp at p3
    simp [execOp, hop, resolve, Deferred.ofValue, hfv, invoke, callFunc, p1, p2', p3']
  intro Qx
  unfold Oper.wp
  rw [hrun, Oper.upon_enter]
  refine Calls.mono hcalls fun en w' hbk => ?_
  cases en with
  | panicked c => exact hbk.elim
  | outgrown => exact hbk.elim
  | returned v =>
    obtain ⟨vl, k1, k2, k3⟩ := call_back hN h hlr hbk
    refine ⟨_, hK, ?_⟩
    cases hdst : o.dst with
    | some d =>
      rw [← k2]
      exact Rel.land h.size h.defers k3 h.clr k1 (hd d hdst)
    | none =>
      refine ⟨?_, h.dom, h.size, h.defers⟩
      have hE : e'.setD none (.val r) = e' := rfl
      rw [hE]
      have hne : ∀ s x, e' s = some x → s < nt := fun s x hx => by
        rcases Nat.lt_or_ge s nt with h' | h'
        · exact h'
        · rw [h.dom s h'] at hx; cases hx
      refine k3.sub (fun s x hx => ?_) (fun s x r hx hr => ?_) (fun s x hx => (k1 s (hne s x hx)).symm)
      · have := hne s x hx
        rw [add_ne (by omega)]; exact hx
      · have : r ≠ nt := fun e1 => by subst e1; rw [(h.clr r (Nat.le_refl _)).2 s x hx] at hr; cases hr
        rw [add_ne this]

end
end Go.Mch
