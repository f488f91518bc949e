/- Our texts YgA YhA YhD YhH YfU YiA, end to end. -/
import Derived.Test.YtliigdlobcjhpaaM3
import Derived.Test.YtliigdlobcjhpaaP1
import Derived.ProofKit
import Derived.OpenShut
import Derived.JoinedCond
import Derived.WideKeyArgs
/- From a statement's arguments to trees, and from a call that the machine makes good to what a statement asks. -/
namespace Go.Mch

/-- What is let of the caller's memory: all of it is the caller's. -/
abbrev okCl : K → Nat → Prop := fun k _ => k = .old

theorem repL_of {fm : Nat → Nat} {ok : K → Nat → Prop} {w : World} {g : Nat → Value} : ∀ (ts : List T) (i : Nat), (∀ j (h : j < ts.length), rep fm ok w (g (i + j)) ts[j]) → repL fm ok w g i ts
  | [], _, _ => trivial
  | t :: ts, i, h => ⟨h 0 (by simp), repL_of ts (i + 1) fun j hj => by
      have := h (j + 1) (by simpa using hj)
      simpa [show i + 1 + j = i + (j + 1) from by omega] using this⟩

theorem mem_noOwn : ∀ {ts : List T}, T.noOwnL ts = true → ∀ {t : T}, t ∈ ts → t.noOwn = true := by
  intro ts h t ht
  obtain ⟨i, hi⟩ := List.getElem?_of_mem ht
  exact noOwnL_get h hi

/-- A call with the caller's arguments. -/
theorem run_true {P : Program} {fm : Nat → Nat} {f : Nat} {args args' : List T} (h : Pact P fm f args args' (B true)) (hno : T.noOwnL args = true) {w : World} {vs : Array Value} (hs : vs.size = args.length)
    (hrep : ∀ s t, args[s]? = some t → rep fm okCl w (vs.getD s undef) t) :
    Calls P (fm f) vs w fun e w' => e = .returned (.bool true) ∧ Keeps (fun _ => False) w w' := by
  have hA : ∀ b, (fun _ => False : Nat → Prop) b → b < w.heap.size := fun _ h => h.elim
  have hc : ∀ s t, init args s = some (.val t) → ∀ b, cnt w (vs.getD s undef) b t = 0 := by
    intro s t ht b
    obtain ⟨u, h1, h2⟩ := init_some ht
    cases h2
    exact cnt_noOwn _ _ _ _ (noOwnL_get hno h1)
  have hR : R (cx0 fm w (fun _ => False) (fun _ => False) hA) (init args) (fun s => vs.getD s undef) w := by
    refine ⟨Keeps.refl _ _, ⟨fun _ => 0, fun s t ht b => ?_⟩, fun s x hx => ?_⟩
    · rw [hc s t ht b]; simp
    · obtain ⟨t, h1, rfl⟩ := init_some hx
      refine .inl ⟨t, rfl, rep_ok (fun k b _ _ hk => ?_) t _ (fun b hb _ _ => ?_) (hrep s t h1)⟩
      · cases hk
        refine ⟨id, by simp, by simp, fun _ => ⟨?_, id⟩⟩
        rintro ⟨s', t', h3, h4⟩
        rw [hc s' t' h3 b] at h4
        omega
      · have h5 := hc s t hx b
        omega
  refine (h.2 w vs _ _ hA hs (fun _ _ hm => hm) hR).mono fun e w' hb => ?_
  cases e with
  | returned v =>
    obtain ⟨q, e', vl', _, h2, _, h4, _⟩ := hb
    refine ⟨?_, h2.keeps⟩
    have h5 := h2.rep q (.val (B true)) (by simp [Env.add])
    rcases h5 with ⟨t, h6, h7⟩ | h7
    · cases h6
      simp only [rep] at h7
      rw [← h4, h7.1]
    · simp only [arep, rep] at h7
      rw [← h4, h7.2.1]
  | _ => exact hb.elim

theorem Keeps.but {w w' : World} (h : Keeps (fun _ => False) w w') (may : MemPlace → Prop) : w.keptBut w' may := by
  refine ⟨h.os, h.output, fun i hi => ?_⟩
  rw [h.block i hi id]
  exact (World.keptBut_refl w may).2.2 i hi

theorem Keeps.at {w w' : World} (h : Keeps (fun _ => False) w w') {p : MemPlace} (hp : p.block < w.heap.size) : w.sameAt w' p := by
  cases p with
  | cell b off => exact World.cell?_of_block (a := ⟨b, off, none⟩) (h.block b hp id)
  | map b => exact h.block b hp id

/-! ### What is read is a tree -/

section
variable {H : Type} {enc : TypeId × Value → H} {P : Program} {w : World} {base : Nat} {sp : Nat → Bool} {held : Bool} {fm : Nat → Nat}

theorem each {α : Type} {Q : Nat → α → Prop} : ∀ (n : Nat), (∀ i, i < n → ∃ z, Q i z) → ∃ zs : List α, zs.length = n ∧ ∀ i (h : i < zs.length), Q i zs[i]
  | 0, _ => ⟨[], rfl, fun i h => by simp at h⟩
  | n + 1, h => by
    obtain ⟨zs, h1, h2⟩ := each n fun i hi => h i (by omega)
    obtain ⟨z, hz⟩ := h n (by omega)
    refine ⟨zs ++ [z], by simp [h1], fun i hi => ?_⟩
    rcases Nat.lt_or_ge i zs.length with hl | hl
    · rw [List.getElem_append_left hl]; exact h2 i hl
    · have : i = n := by simp at hi; omega
      subst this
      rw [List.getElem_append_right hl]
      simp [h1, hz]

/-- A slice, as it is read. -/
theorem open_raw {t e : TypeId} {fuel : Nat} {cs : List Value} {x : DataW H × List MemPlace} (ht : P.underlying t = some (.slice e)) (hc : P.cellsOf e = 1)
    (h : DataW.trod enc P w base (fun _ => true) held fuel t cs = some x) :
    (cs = [.slice none 0 0] ∧ x.1 = .nil) ∨ (∃ a, cs = [.slice (some a) 0 0] ∧ x.1 = .slice [] []) ∨
    ∃ b off len cap ds rest n, cs = [.slice (some ⟨b, off, none⟩) len cap] ∧ len ≤ cap ∧ x.1 = .slice ds rest ∧ ds.length = len ∧
      ∀ i, i < len → ∃ c y, w.cell? ⟨b, off + i, none⟩ = some c ∧ DataW.trod enc P w base (fun _ => true) held n e [c] = some y ∧ ds[i]? = some y.1 := by
  rcases DataW.trod_slice ht h with ⟨h1, rfl⟩ | ⟨a, len, cap, elems, rest, n, _, rfl, rfl, hb, hl, _, hlen, hel, hsp, _⟩
  · exact .inl ⟨h1, rfl⟩
  right
  obtain ⟨hr1, hr2⟩ := hsp rfl
  have cell : ∀ a' y, (w.cells? base a' (P.cellsOf e)).bind (DataW.trod enc P w base (fun _ => true) held n e) = some y → ∃ c, w.cell? a' = some c ∧ DataW.trod enc P w base (fun _ => true) held n e [c] = some y := by
    intro a' y hy
    rw [hc, Option.bind_eq_some_iff] at hy
    obtain ⟨c1, h1, h2⟩ := hy
    have h3 := (World.cells?_some h1).2.1
    match c1, h3 with
    | [c], _ => exact ⟨c, Go.ChangeShapes.cell_of_cells?_one h1, h2⟩
  by_cases hz : cap = 0
  · subst hz
    have h0 : len = 0 := by omega
    subst h0
    have h1 : elems = [] := List.eq_nil_of_length_eq_zero hlen
    have h2 : rest = [] := List.eq_nil_of_length_eq_zero (by simpa using hr1)
    subst h1 h2
    exact .inl ⟨a, rfl, rfl⟩
  right
  have hspot : a.spot = none := by
    by_cases h0 : 0 < len
    · have h1 : 0 < elems.length := by omega
      have := hel 0 h0
      rw [List.getElem?_eq_getElem h1] at this
      obtain ⟨c, hc1, _⟩ := cell _ _ this
      simp only [Nat.zero_mul] at hc1
      have := World.cell?_spot hc1
      simpa [Addr.add] using this
    · have h1 : 0 < rest.length := by omega
      have := hr2 0 (by omega)
      rw [List.getElem?_eq_getElem h1] at this
      obtain ⟨c, hc1, _⟩ := cell _ _ this
      have h2 := World.cell?_spot hc1
      simpa [Addr.add, show len = 0 from by omega] using h2
  obtain ⟨b, off, spot⟩ := a
  simp only at hspot
  subst hspot
  refine ⟨b, off, len, cap, elems.map (·.1), rest.map (·.1), n, rfl, hl, rfl, by simpa using hlen, fun i hi => ?_⟩
  have h1 : i < elems.length := by omega
  have h2 := hel i hi
  rw [List.getElem?_eq_getElem h1] at h2
  obtain ⟨c, h3, h4⟩ := cell _ _ h2
  refine ⟨c, elems[i], ?_, h4, by simp [h1]⟩
  rw [hc, Nat.mul_one] at h3
  rw [← Go.WideShapes.add_plain]; exact h3

theorem rep_slice {b off len cap : Nat} {us : List T} (hlen : us.length = len) (hl : len ≤ cap) (hno : T.noOwnL us = true) (h : ∀ i (hi : i < us.length), ∃ c, w.cell? ⟨b, off + i, none⟩ = some c ∧ rep fm okCl w c us[i]) :
    rep fm okCl w (.slice (some ⟨b, off, none⟩) len cap) (.mem .old (some 1) us) := by
  rw [rep_mem]
  refine ⟨⟨⟨len, rfl, by simp [hlen], by simp, hl⟩, fun i hi => ?_⟩, fun _ => rfl, by simp, fun _ => hno, ?_⟩
  · obtain ⟨c, hc, _⟩ := h i hi
    simp only [blk, ofs]
    rw [hc]; rfl
  · refine repL_of us 0 fun j hj => ?_
    obtain ⟨c, hc, hr⟩ := h j hj
    simp only [kid, Nat.zero_add]
    rw [hc]
    exact hr

/-- How much a datum holds. -/
structure Bulk (m : DataW H → Nat) : Prop where
  slice : ∀ es rest, es.length ≤ m (.slice es rest)
  elem : ∀ es rest d, d ∈ es → m d ≤ m (.slice es rest)
  part : ∀ ps d, d ∈ ps → m d ≤ m (.agg ps)

theorem open_rawI {m : DataW H → Nat} (hm : Bulk m) {t e : TypeId} {fuel : Nat} {cs : List Value} {x : DataW H × List MemPlace} (ht : P.underlying t = some (.slice e)) (he : P.underlying e = some (.int .i64)) (hc : P.cellsOf e = 1)
    (h : DataW.trod enc P w base (fun _ => true) held fuel t cs = some x) : ∃ v o, cs = [v] ∧ rep fm okCl w v (rawI o) ∧ (lst o).length ≤ m x.1 ∧ ∀ n ∈ lst o, (Lit.int .i64 n).wf = true := by
  rcases open_raw ht hc h with ⟨rfl, hx⟩ | ⟨a, rfl, hx⟩ | ⟨b, off, len, cap, ds, rest, n, rfl, hl, hx, hlen, hel⟩
  · exact ⟨_, .no, rfl, ⟨rfl, rfl⟩, by simp, by simp⟩
  · exact ⟨_, .odd a, rfl, ⟨rfl, rfl⟩, by simp, by simp⟩
  · obtain ⟨zs, h1, h2⟩ := each (Q := fun i (z : Int) => w.cell? ⟨b, off + i, none⟩ = some (.int .i64 z) ∧ (Lit.int .i64 z).wf = true) len (fun i hi => by
      obtain ⟨c, y, h3, h4, _⟩ := hel i hi
      obtain ⟨z, h5, _, h6⟩ := DataW.trod_int he h4
      simp only [List.cons.injEq, and_true] at h5
      exact ⟨z, by rw [h3, h5], h6⟩)
    refine ⟨_, .of zs, rfl, rep_slice (by simp [h1]) hl (by simp) (fun i hi => ?_), ?_, fun n hn => ?_⟩
    · have hi' : i < zs.length := by simpa using hi
      exact ⟨_, (h2 i hi').1, by simp [rep, scal]⟩
    · rw [hx]
      exact Nat.le_trans (by simp [h1, hlen]) (hm.slice ds rest)
    · obtain ⟨i, hi, rfl⟩ := List.getElem_of_mem hn
      exact (h2 i hi).2

theorem open_rawT {m : DataW H → Nat} (hm : Bulk m) {t r e : TypeId} {fuel : Nat} {cs : List Value} {x : DataW H × List MemPlace} (ht : P.underlying t = some (.slice r)) (hr : P.underlying r = some (.slice e)) (he : P.underlying e = some (.int .i64)) (hcr : P.cellsOf r = 1) (hc : P.cellsOf e = 1)
    (h : DataW.trod enc P w base (fun _ => true) held fuel t cs = some x) : ∃ v o, cs = [v] ∧ rep fm okCl w v (rawT o) ∧ (lst o).length ≤ m x.1 ∧ ∀ q ∈ lst o, (lst q).length ≤ m x.1 ∧ ∀ n ∈ lst q, (Lit.int .i64 n).wf = true := by
  rcases open_raw ht hcr h with ⟨rfl, hx⟩ | ⟨a, rfl, hx⟩ | ⟨b, off, len, cap, ds, rest, n, rfl, hl, hx, hlen, hel⟩
  · exact ⟨_, .no, rfl, ⟨rfl, rfl⟩, by simp, by simp⟩
  · exact ⟨_, .odd a, rfl, ⟨rfl, rfl⟩, by simp, by simp⟩
  · obtain ⟨zs, h1, h2⟩ := each (Q := fun i (z : Rw Int) => ∃ c, w.cell? ⟨b, off + i, none⟩ = some c ∧ rep fm okCl w c (rawI z) ∧ (lst z).length ≤ m x.1 ∧ ∀ n ∈ lst z, (Lit.int .i64 n).wf = true) len (fun i hi => by
      obtain ⟨c, y, h3, h4, h5⟩ := hel i hi
      obtain ⟨v, o, h6, h7, h8, h9⟩ := open_rawI (fm := fm) hm hr he hc h4
      simp only [List.cons.injEq, and_true] at h6
      refine ⟨o, c, h3, h6 ▸ h7, Nat.le_trans h8 ?_, h9⟩
      rw [hx]
      exact hm.elem ds rest _ (List.mem_of_getElem? h5))
    refine ⟨_, .of zs, rfl, rep_slice (by simp [h1]) hl (by simp) (fun i hi => ?_), ?_, fun n hn => ?_⟩
    · have hi' : i < zs.length := by simpa using hi
      obtain ⟨c, h3, h4, _⟩ := h2 i hi'
      exact ⟨c, h3, by simpa using h4⟩
    · rw [hx]
      exact Nat.le_trans (by simp [h1, hlen]) (hm.slice ds rest)
    · obtain ⟨i, hi, rfl⟩ := List.getElem_of_mem hn
      obtain ⟨c, _, _, h3⟩ := h2 i hi
      exact h3

/-- An argument that is a slice of numbers. -/
theorem open_argI {m : DataW H → Nat} (hm : Bulk m) {rc : Reach} {b0 : Nat} {t e : TypeId} {v : Value} {d : DataW H} {ps : List MemPlace} (ht : P.underlying t = some (.slice e)) (he : P.underlying e = some (.int .i64)) (hc : P.cellsOf e = 1)
    (hval : Value.okWide P w rc b0 t v) (h : DataW.Trod enc P w base (fun _ => true) held t v d ps) : ∃ a, rep fm okCl w v (rawI a) ∧ (lst a).length ≤ m d := by
  obtain ⟨ad, len, cap, rfl⟩ := Go.WideShapes.okWide_slice ht hval
  obtain ⟨fuel, h⟩ := h
  obtain ⟨v0, a, e1, e2, e3, _⟩ := open_rawI (fm := fm) hm ht he hc h
  simp only [Value.cells, List.cons.injEq, and_true] at e1
  subst e1
  exact ⟨a, e2, e3⟩
/-- An argument that is a number. -/
theorem open_argN {rc : Reach} {b0 : Nat} {t : TypeId} {v : Value} {d : DataW H} {ps : List MemPlace} (ht : P.underlying t = some (.int .i64)) (hval : Value.okWide P w rc b0 t v)
    (h : DataW.Trod enc P w base (fun _ => true) held t v d ps) : ∃ n, rep fm okCl w v (I n) ∧ (Lit.int .i64 n).wf = true := by
  obtain ⟨n, rfl, _, _, hw⟩ := Go.ChangeShapes.open_int ht hval h
  exact ⟨n, ⟨rfl, rfl⟩, hw⟩

/-- A structure of one table. -/
theorem open_rack {m : DataW H → Nat} (hm : Bulk m) {rc : Reach} {b0 : Nat} {t r e : TypeId} {f0 : Field} {v : Value} {d : DataW H} {ps : List MemPlace} (ht : P.underlying t = some (.struct #[f0])) (h0 : P.underlying f0.type = some (.slice r)) (hr : P.underlying r = some (.slice e)) (he : P.underlying e = some (.int .i64))
    (hn : P.cellsOf t = 1) (hn0 : P.cellsOf f0.type = 1) (hcr : P.cellsOf r = 1) (hc : P.cellsOf e = 1) (hof : f0.offset = 0)
    (hval : Value.okWide P w rc b0 t v) (h : DataW.Trod enc P w base (fun _ => true) held t v d ps) : ∃ a, rep fm okCl w v (.agg [rawT a]) ∧ (lst a).length ≤ m d ∧ ∀ q ∈ lst a, (lst q).length ≤ m d ∧ ∀ n ∈ lst q, (Lit.int .i64 n).wf = true := by
  obtain ⟨cs, rfl, hs⟩ := Go.WideShapes.okWide_struct ht hval
  obtain ⟨fuel, h⟩ := h
  obtain ⟨y0, n, hx, hl, h1⟩ := Go.ChangeShapes.trod_struct1 ht h
  simp only [Prod.mk.injEq] at hx
  obtain ⟨rfl, rfl⟩ := hx
  rw [hn] at hs
  obtain ⟨c0, rfl⟩ : ∃ c0, cs = #[c0] := by
    match cs, hs with
    | ⟨[c0]⟩, _ => exact ⟨c0, rfl⟩
  simp only [Value.cells, hof, hn0, List.drop_zero, List.take_succ_cons, List.take_zero] at h1
  obtain ⟨v0, a, e1, e2, e3, e4⟩ := open_rawT (fm := fm) hm h0 hr he hcr hc h1
  simp only [List.cons.injEq, and_true] at e1
  subst e1
  have hp : m y0.1 ≤ m (.agg [y0.1]) := hm.part _ _ (by simp)
  exact ⟨a, ⟨⟨_, rfl, rfl⟩, by simpa [kid] using e2, trivial⟩, by omega, fun q hq => ⟨Nat.le_trans (e4 q hq).1 hp, (e4 q hq).2⟩⟩

/-- A structure of two tables. -/
theorem open_sol {m : DataW H → Nat} (hm : Bulk m) {rc : Reach} {b0 : Nat} {t r e : TypeId} {f0 f1 : Field} {v : Value} {d : DataW H} {ps : List MemPlace} (ht : P.underlying t = some (.struct #[f0, f1])) (h0 : P.underlying f0.type = some (.slice r)) (h1 : P.underlying f1.type = some (.slice r)) (hr : P.underlying r = some (.slice e)) (he : P.underlying e = some (.int .i64))
    (hn : P.cellsOf t = 2) (hn0 : P.cellsOf f0.type = 1) (hn1 : P.cellsOf f1.type = 1) (hcr : P.cellsOf r = 1) (hc : P.cellsOf e = 1) (hof : f0.offset = 0) (hof1 : f1.offset = 1)
    (hval : Value.okWide P w rc b0 t v) (h : DataW.Trod enc P w base (fun _ => true) held t v d ps) :
    ∃ a b, rep fm okCl w v (.agg [rawT a, rawT b]) ∧ ((lst a).length ≤ m d ∧ ∀ q ∈ lst a, (lst q).length ≤ m d ∧ ∀ n ∈ lst q, (Lit.int .i64 n).wf = true) ∧ ((lst b).length ≤ m d ∧ ∀ q ∈ lst b, (lst q).length ≤ m d ∧ ∀ n ∈ lst q, (Lit.int .i64 n).wf = true) := by
  obtain ⟨cs, rfl, hs⟩ := Go.WideShapes.okWide_struct ht hval
  obtain ⟨fuel, h⟩ := h
  obtain ⟨y0, y1, n, hx, hl, g0, g1⟩ := Go.ChangeShapes.trod_struct2 ht h
  simp only [Prod.mk.injEq] at hx
  obtain ⟨rfl, rfl⟩ := hx
  rw [hn] at hs
  obtain ⟨c0, c1, rfl⟩ : ∃ c0 c1, cs = #[c0, c1] := by
    match cs, hs with
    | ⟨[c0, c1]⟩, _ => exact ⟨c0, c1, rfl⟩
  simp only [Value.cells, hof, hn0, List.drop_zero, List.take_succ_cons, List.take_zero] at g0
  simp only [Value.cells, hof1, hn1, List.drop_succ_cons, List.drop_zero, List.take_succ_cons, List.take_zero] at g1
  obtain ⟨v0, a, e1, e2, e3, e4⟩ := open_rawT (fm := fm) hm h0 hr he hcr hc g0
  obtain ⟨v1, b, i1, i2, i3, i4⟩ := open_rawT (fm := fm) hm h1 hr he hcr hc g1
  simp only [List.cons.injEq, and_true] at e1 i1
  subst e1 i1
  have hp : m y0.1 ≤ m (.agg [y0.1, y1.1]) := hm.part _ _ (by simp)
  have hp1 : m y1.1 ≤ m (.agg [y0.1, y1.1]) := hm.part _ _ (by simp)
  exact ⟨a, b, ⟨⟨_, rfl, rfl⟩, by simpa [kid] using e2, by simpa [kid] using i2, trivial⟩, ⟨by omega, fun q hq => ⟨Nat.le_trans (e4 q hq).1 hp, (e4 q hq).2⟩⟩, ⟨by omega, fun q hq => ⟨Nat.le_trans (i4 q hq).1 hp1, (i4 q hq).2⟩⟩⟩

/-! ### What a statement asks -/

theorem all_stays {W W' : World} {sp' : Nat → Bool} (hl : laidOutB P = true) : ∀ {ts : List TypeId} {vs : List Value} {ds : List (DataW H)} {ps : List MemPlace}, (∀ t ∈ ts, P.readableRec t = true ∧ t < P.types.size) →
    DataW.TrodAll enc P W 0 (fun _ => true) true ts vs ds ps → (∀ p ∈ ps, W.sameAt W' p) → (∀ p ∈ ps, sp' p.block = true) → DataW.TrodAll enc P W' 0 sp' true ts vs ds ps
  | [], vs, ds, ps, _, h, _, _ => by
    obtain ⟨rfl, rfl, rfl⟩ := Go.ChangeShapes.trodAll_nil h
    rfl
  | t :: ts, vs, ds, ps, ht, h, h1, h2 => by
    obtain ⟨v, vs', d, ds', p, q, rfl, rfl, rfl, h3, h4⟩ := Go.ChangeShapes.trodAll_cons h
    exact ⟨p, q, Go.WideElems.Trod_stays hl (ht t (by simp)).1 (ht t (by simp)).2 h3 (fun x hx => h1 x (by simp [hx])) (fun x hx => h2 x (by simp [hx])),
      all_stays hl (fun t' h' => ht t' (by simp [h'])) h4 (fun x hx => h1 x (by simp [hx])) (fun x hx => h2 x (by simp [hx])), rfl⟩

/-- The call returned true, and what was there is as it was. -/
theorem post_true {f : Func} {s : ChangeSpec} {W W' : World} {args : Array Value} {ds gs : List (DataW H)} {before : List MemPlace} {rt : TypeId} (hW : DataW.Whole enc P f.params.toList s.vars false W args.toList ds gs before) (hK : Keeps (fun _ => False) W W')
    (hv : s.vars = []) (hres : f.resultTypes = #[rt]) (hrt : P.underlying rt = some .bool) (hl : laidOutB P = true) (hr : ∀ t ∈ f.params.toList, P.readableRec t = true ∧ t < P.types.size)
    (hfn : s.fn H ds = { results := [.lit (.bool true)], args := ds }) : s.post enc P f false true false false W args (.bool true) W' := by
  have hlt := hW.lt
  have hW' := hW
  obtain ⟨p, q, hA, hV, rfl, _, _⟩ := hW
  rw [hv] at hV
  have hg : gs = [] ∧ q = [] := by
    cases gs with
    | nil => exact ⟨rfl, by simpa [DataW.TrodVars] using hV⟩
    | cons d ds => simp [DataW.TrodVars] at hV
  obtain ⟨rfl, rfl⟩ := hg
  simp only [List.append_nil] at hlt
  refine ⟨ds, [], p ++ [], [], p, [], hW', ?_, ?_, ?_, hK.but _, by simp⟩
  · rw [List.append_nil, hfn, hres]
    refine ⟨[], [], ⟨1, ?_⟩, rfl, rfl⟩
    simp [DataW.trod, hrt, Value.cells]
  · rw [List.append_nil, hfn]
    exact all_stays hl hr hA (fun x hx => hK.at (hlt x hx)) (fun x hx => by simpa using hlt x hx)
  · rw [List.append_nil, hfn, hv]
    rfl
end
end Go.Mch
/- The runs of the exact laws, by their shapes: sol-tbl,int. -/
namespace Go.Mch
/-- The laws of this shape: sol to tbl, int. -/
def lw_T (a b : Nat) : F where
  np := 1
  rs := [.t 2]
  body :=
    (.seq
    (.region none [ ⟨some 1, none, .box (.t 0)⟩, ⟨some 2, none, .mv (.c (.bool false))⟩] [1]) (.seq
    (.region none [ ⟨some 3, none, .mv (.c (.int .i64 1048576))⟩] [1, 3]) (.seq
    (.region none [ ⟨some 14, none, .ld (some 2) (.t 1)⟩, ⟨some 15, none, .mv (.t 3)⟩, ⟨some 16, none, .call (.f 14) [((.t 14), .r), ((.t 15), .r)]⟩, ⟨some 3, none, .mv (.t 16)⟩] [1, 3]) (.seq (.seq
    (.region none [ ⟨some 17, none, .mv (.t 3)⟩, ⟨some 18, none, .bin .lss (.t 17) (.c (.int .i64 0))⟩] [1, 18]) (.cond (.t 18) (.seq
    (.region none [ ⟨some 2, none, .mv (.c (.bool true))⟩] [2]) .ret) .skip)) (.seq
    (.region none [ ⟨some 20, none, .ld (some 2) (.t 1)⟩, ⟨some 21, none, .call (.f 16) [((.t 20), .r)]⟩, ⟨some 22, none, .call (.f a) [((.t 21), .r)]⟩, ⟨some 19, none, .mv (.t 22)⟩, ⟨some 23, none, .ext (.t 19) 0⟩, ⟨some 24, none, .ext (.t 19) 1⟩, ⟨some 4, none, .asg (.t 23)⟩, ⟨some 5, none, .mv (.t 24)⟩] [1, 4, 5]) (.seq
    (.region none [ ⟨some 25, none, .ld (some 2) (.t 1)⟩, ⟨some 26, none, .call (.f 16) [((.t 25), .r)]⟩, ⟨some 6, none, .alloc [(.slice none 0 0), (.slice none 0 0)]⟩, ⟨none, none, .st (some 2) (.t 6) (.t 26)⟩] [1, 4, 5, 6]) (.seq
    (.region none [ ⟨some 28, none, .ld (some 2) (.t 6)⟩, ⟨some 29, none, .call (.f b) [((.t 28), .r)]⟩, ⟨some 27, none, .mv (.t 29)⟩, ⟨some 30, none, .ext (.t 27) 0⟩, ⟨some 31, none, .ext (.t 27) 1⟩, ⟨some 7, none, .asg (.t 30)⟩, ⟨some 8, none, .mv (.t 31)⟩] [1, 4, 5, 6, 7, 8]) (.seq (.seq
    (.region none [ ⟨some 32, none, .mv (.t 7)⟩, ⟨some 33, none, .mv (.t 4)⟩, ⟨some 34, none, .call (.f 21) [((.t 32), .r), ((.t 33), .r)]⟩, ⟨some 35, none, .un .not (.t 34)⟩, ⟨some 36, none, .mv (.t 35)⟩, ⟨some 37, (some (36, false)), .mv (.t 8)⟩, ⟨some 38, (some (36, false)), .mv (.t 5)⟩, ⟨some 39, (some (36, false)), .bin .neq (.t 37) (.t 38)⟩, ⟨some 40, none, .pick (.t 36) (.c (.bool true)) (.t 39)⟩] [1, 4, 5, 6, 7, 8, 40]) (.cond (.t 40) (.seq
    (.region none [ ⟨some 2, none, .mv (.c (.bool false))⟩] [2]) .ret) .skip)) (.seq (.seq
    (.region (some [41, 42, 43]) [ ⟨some 41, none, .ld (some 2) (.t 6)⟩, ⟨some 42, none, .ld (some 2) (.t 1)⟩, ⟨some 43, none, .call (.f 16) [((.t 42), .r)]⟩, ⟨some 44, none, .call (.f 18) [((.t 41), .r), ((.t 43), .r)]⟩, ⟨some 45, none, .un .not (.t 44)⟩] [1, 4, 5, 6, 7, 8, 45]) (.cond (.t 45) (.seq
    (.region none [ ⟨some 2, none, .mv (.c (.bool false))⟩] [2]) .ret) .skip)) (.seq
    (.region none [ ⟨some 9, none, .mv (.c (.int .i64 1))⟩] [1, 4, 5, 6, 7, 8, 9]) (.seq
    (.region none [ ⟨some 46, none, .ld (some 2) (.t 6)⟩, ⟨some 47, none, .mv (.t 9)⟩, ⟨some 48, none, .callm (.f 22) [((.t 46), true), ((.t 47), false)] []⟩, ⟨some 9, none, .mv (.t 48)⟩] [1, 4, 5, 7, 8, 9]) (.seq (.seq
    (.region none [ ⟨some 49, none, .mv (.t 9)⟩, ⟨some 50, none, .bin .lss (.t 49) (.c (.int .i64 0))⟩, ⟨some 51, none, .mv (.t 50)⟩, ⟨some 52, (some (51, false)), .mv (.t 7)⟩, ⟨some 53, (some (51, false)), .mv (.t 4)⟩, ⟨some 54, (some (51, false)), .call (.f 21) [((.t 52), .r), ((.t 53), .r)]⟩, ⟨some 55, (some (51, false)), .un .not (.t 54)⟩, ⟨some 56, none, .pick (.t 51) (.c (.bool true)) (.t 55)⟩, ⟨some 57, none, .mv (.t 56)⟩, ⟨some 58, (some (57, false)), .mv (.t 8)⟩, ⟨some 59, (some (57, false)), .mv (.t 5)⟩, ⟨some 60, (some (57, false)), .bin .neq (.t 58) (.t 59)⟩, ⟨some 61, none, .pick (.t 57) (.c (.bool true)) (.t 60)⟩] [1, 4, 5, 7, 61]) (.cond (.t 61) (.seq
    (.region none [ ⟨some 2, none, .mv (.c (.bool false))⟩] [2]) .ret) .skip)) (.seq
    (.region none [ ⟨some 10, none, .mv (.c (.int .i64 1))⟩] [1, 4, 5, 7, 10]) (.seq
    (.region none [ ⟨some 62, none, .mv (.t 7)⟩, ⟨some 63, none, .mv (.t 10)⟩, ⟨some 64, none, .callm (.f 23) [((.t 62), true), ((.t 63), false)] []⟩, ⟨some 10, none, .mv (.t 64)⟩] [1, 4, 5, 7, 10]) (.seq
    (.region none [ ⟨some 11, none, .mv (.c (.int .i64 1))⟩] [1, 4, 5, 7, 10, 11]) (.seq
    (.region none [ ⟨some 65, none, .mv (.t 7)⟩, ⟨some 66, none, .mv (.t 11)⟩, ⟨some 67, none, .call (.f 24) [((.t 65), .r), ((.t 66), .r)]⟩, ⟨some 11, none, .mv (.t 67)⟩] [1, 4, 5, 7, 10, 11]) (.seq (.seq
    (.region none [ ⟨some 68, none, .mv (.t 11)⟩, ⟨some 69, none, .bin .lss (.t 68) (.c (.int .i64 0))⟩] [1, 4, 5, 7, 10, 11, 69]) (.cond (.t 69) (.seq
    (.region none [ ⟨some 2, none, .mv (.c (.bool false))⟩] [2]) .ret) .skip)) (.seq (.seq
    (.region none [ ⟨some 70, none, .mv (.t 11)⟩, ⟨some 71, none, .mv (.t 10)⟩, ⟨some 72, none, .bin .neq (.t 70) (.t 71)⟩] [1, 4, 5, 7, 10, 72]) (.cond (.t 72) (.seq
    (.region none [ ⟨some 2, none, .mv (.c (.bool false))⟩] [2]) .ret) .skip)) (.seq
    (.region none [ ⟨some 74, none, .ld (some 2) (.t 1)⟩, ⟨some 75, none, .call (.f 16) [((.t 74), .r)]⟩, ⟨some 76, none, .call (.f b) [((.t 75), .r)]⟩, ⟨some 73, none, .mv (.t 76)⟩, ⟨some 77, none, .ext (.t 73) 0⟩, ⟨some 78, none, .ext (.t 73) 1⟩, ⟨some 12, none, .asg (.t 77)⟩, ⟨some 13, none, .mv (.t 78)⟩] [4, 5, 7, 10, 12, 13]) (.seq (.seq
    (.region none [ ⟨some 79, none, .mv (.t 12)⟩, ⟨some 80, none, .mv (.t 4)⟩, ⟨some 81, none, .call (.f 21) [((.t 79), .r), ((.t 80), .r)]⟩, ⟨some 82, none, .un .not (.t 81)⟩, ⟨some 83, none, .mv (.t 82)⟩, ⟨some 84, (some (83, false)), .mv (.t 13)⟩, ⟨some 85, (some (83, false)), .mv (.t 5)⟩, ⟨some 86, (some (83, false)), .bin .neq (.t 84) (.t 85)⟩, ⟨some 87, none, .pick (.t 83) (.c (.bool true)) (.t 86)⟩] [7, 10, 87]) (.cond (.t 87) (.seq
    (.region none [ ⟨some 2, none, .mv (.c (.bool false))⟩] [2]) .ret) .skip)) (.seq
    (.region none [ ⟨some 11, none, .mv (.c (.int .i64 1))⟩] [7, 10, 11]) (.seq
    (.region none [ ⟨some 88, none, .mv (.t 7)⟩, ⟨some 89, none, .mv (.t 11)⟩, ⟨some 90, none, .call (.f 24) [((.t 88), .r), ((.t 89), .r)]⟩, ⟨some 11, none, .mv (.t 90)⟩] [10, 11]) (.seq (.seq
    (.region none [ ⟨some 91, none, .mv (.t 11)⟩, ⟨some 92, none, .bin .lss (.t 91) (.c (.int .i64 0))⟩] [10, 11, 92]) (.cond (.t 92) (.seq
    (.region none [ ⟨some 2, none, .mv (.c (.bool false))⟩] [2]) .ret) .skip)) (.seq (.seq
    (.region none [ ⟨some 93, none, .mv (.t 11)⟩, ⟨some 94, none, .mv (.t 10)⟩, ⟨some 95, none, .bin .neq (.t 93) (.t 94)⟩] [95]) (.cond (.t 95) (.seq
    (.region none [ ⟨some 2, none, .mv (.c (.bool false))⟩] [2]) .ret) .skip)) (.seq
    (.region none [ ⟨some 2, none, .mv (.c (.bool true))⟩] [2]) .ret)))))))))))))))))))))))))
def S_sh_T (pg : Pg) (n : Nat) (R0 : List (List Int) → List (List Int) → List (List Int)) (R1 : List (List Int) → List (List Int) → Int) : Prop := ∀ (f0 s0 : List (List Int)), fits f0 → fits s0 → ∃ o0, lso o0 = R0 f0 s0 ∧ Call pg n [sol f0 s0] [sol f0 s0] (.tup [ownT o0, I (R1 f0 s0)])
def S_lw_T (pg : Pg) (n : Nat) : Prop := ∀ (a0 b0 : Rw (Rw Int)), small a0 → small b0 → ∃ args', Call pg n [.agg [rawT a0, rawT b0]] args' (B true)
set_option maxRecDepth 20000 in
theorem t_lw_T {pg : Pg} {n a b : Nat} {R0 : List (List Int) → List (List Int) → List (List Int)} {R1 : List (List Int) → List (List Int) → Int} (hp : pg.fn n = some (lw_T a b)) (hA : S_sh_T pg a R0 R1) (hB : S_sh_T pg b R0 R1) (hz0 : ∀ (f0 s0 : List (List Int)), fits f0 → fits s0 → smallT (R0 f0 s0)) (h14 : S_szSol pg) (h16 : S_toSol pg) (h18 : S_eqSol pg) (h22 : S_markSol pg) (h21 : S_eqT pg) (h23 : S_markT pg) (h24 : S_heldT pg) : S_lw_T pg n := by
  intro a0 b0 ha0 hb0
  refine ⟨[.agg [rawT a0, rawT b0]], Call.intro hp rfl (by simp) ?_⟩
  obtain ⟨r, hr1, hr2, hsz⟩ := h14 a0 b0 1048576 ha0 hb0 (by omega) (by omega)
  have hto0 := h16 a0 b0 ha0 hb0
  have hfa0 := fitsT_of ha0
  have hfb0 := fitsT_of hb0
  generalize hF0 : (lst a0).map lst = F0 at *
  generalize hS0 : (lst b0).map lst = S0 at *
  obtain ⟨o0, e0, hc1⟩ := hA F0 S0 hfa0 hfb0
  obtain ⟨q0, g0, hc2⟩ := hB F0 S0 hfa0 hfb0
  have hsm0 := hz0 F0 S0 hfa0 hfb0
  rw [← g0] at hsm0
  have heq0 := g0.trans e0.symm
  clear e0 g0
  generalize R1 F0 S0 = o1 at *
  have hk0a := kAt_le (k := (1 : Int)) hfa0 F0.length (Nat.le_refl _)
  have hk0b := kAt_le (k := (kAt (1 : Int) F0 F0.length)) hfb0 S0.length (Nat.le_refl _)
  have hfl0 := hfa0.1
  have hsl0 := hfb0.1
  have hkN : ¬ (kAt (kAt (1 : Int) F0 F0.length) S0 S0.length) < 0 := by omega
  show wp _ _ (lw_T a b).body (post [.t 2] _ _ _) _
  simp [lw_T]
  refine callR hsz rfl rfl (fun _ => rfl) ?_
  by_cases hneg : r < 0
  · simp [hneg]
  · simp [hneg]
    cases o0 with
    | some X0 =>
      cases q0 with
      | some Y0 =>
        simp only [ownT, lso_some] at *
        subst heq0
        have hm0 := kAt_le (k := (1 : Int)) hsm0 Y0.length (Nat.le_refl _)
        have hy0 := hsm0.1
        have hn0 : ¬ (kAt (1 : Int) Y0 Y0.length) < 0 := by omega
        refine callR hto0 rfl rfl (fun _ => by simp) ?_
        simp
        refine callR hc1 rfl rfl (fun _ => by simp) ?_
        simp
        refine callR hto0 rfl rfl (fun _ => by simp) ?_
        simp
        refine callR hc2 rfl rfl (fun _ => by simp) ?_
        simp
        refine callR (h21.o (some Y0) (some Y0) hsm0) rfl rfl (fun _ => rfl) ?_
        simp
        refine callR hto0 rfl rfl (fun _ => by simp) ?_
        simp
        refine callR (h18.o F0 S0 F0 S0 hfa0 hfb0) rfl rfl (fun _ => rfl) ?_
        simp
        refine callM (ts' := [.agg [.mem .own (some 1) (rows (upT (1 : Int) F0)), .mem .own (some 1) (rows (upT (kAt (1 : Int) F0 F0.length) S0))], I (1 : Int)]) (r := I (kAt (kAt (1 : Int) F0 F0.length) S0 S0.length)) ?_ ?_ ?_ ?_
        · simp
        · simpa using h22 F0 S0 (1 : Int) hfa0 hfb0 (by omega) (by omega)
        · simp
        simp [hkN]
        refine callR (h21.o (some Y0) (some Y0) hsm0) rfl rfl (fun _ => rfl) ?_
        simp
        refine callM (ts' := [.mem .own (some 1) (rows (upT (1 : Int) Y0)), I (1 : Int)]) (r := I (kAt (1 : Int) Y0 Y0.length)) ?_ ?_ ?_ ?_
        · simp
        · simpa using h23.at Y0 (1 : Int) hsm0 (by omega) (by omega)
        · simp
        simp
        refine callR (h24.o (some (upT (1 : Int) Y0)) (1 : Int) (upT_small hsm0 (1 : Int)) (by omega) (by omega)) rfl rfl (fun _ => rfl) ?_
        simp [heldL_all, hn0]
        refine callR hto0 rfl rfl (fun _ => by simp) ?_
        simp
        refine callR hc2 rfl rfl (fun _ => by simp) ?_
        simp
        refine callR (h21.o (some Y0) (some Y0) hsm0) rfl rfl (fun _ => rfl) ?_
        simp
        refine callR (h24.o (some (upT (1 : Int) Y0)) (1 : Int) (upT_small hsm0 (1 : Int)) (by omega) (by omega)) rfl rfl (fun _ => rfl) ?_
        simp [heldL_all, hn0]
      | none =>
        simp only [ownT, lso_some, lso_none] at *
        subst heq0
        refine callR hto0 rfl rfl (fun _ => by simp) ?_
        simp
        refine callR hc1 rfl rfl (fun _ => by simp) ?_
        simp
        refine callR hto0 rfl rfl (fun _ => by simp) ?_
        simp
        refine callR hc2 rfl rfl (fun _ => by simp) ?_
        simp
        refine callR (h21.o none (some []) hsm0) rfl rfl (fun _ => rfl) ?_
        simp
        refine callR hto0 rfl rfl (fun _ => by simp) ?_
        simp
        refine callR (h18.o F0 S0 F0 S0 hfa0 hfb0) rfl rfl (fun _ => rfl) ?_
        simp
        refine callM (ts' := [.agg [.mem .own (some 1) (rows (upT (1 : Int) F0)), .mem .own (some 1) (rows (upT (kAt (1 : Int) F0 F0.length) S0))], I (1 : Int)]) (r := I (kAt (kAt (1 : Int) F0 F0.length) S0 S0.length)) ?_ ?_ ?_ ?_
        · simp
        · simpa using h22 F0 S0 (1 : Int) hfa0 hfb0 (by omega) (by omega)
        · simp
        simp [hkN]
        refine callR (h21.o none (some []) hsm0) rfl rfl (fun _ => rfl) ?_
        simp
        refine callM (ts' := [nil, I (1 : Int)]) (r := I (1 : Int)) ?_ ?_ ?_ ?_
        · simp
        · simpa using h23.at0 (1 : Int) (by omega) (by omega)
        · simp
        simp
        refine callR (h24.o none (1 : Int) hsm0 (by omega) (by omega)) rfl rfl (fun _ => rfl) ?_
        simp [heldL]
        refine callR hto0 rfl rfl (fun _ => by simp) ?_
        simp
        refine callR hc2 rfl rfl (fun _ => by simp) ?_
        simp
        refine callR (h21.o none (some []) hsm0) rfl rfl (fun _ => rfl) ?_
        simp
        refine callR (h24.o none (1 : Int) hsm0 (by omega) (by omega)) rfl rfl (fun _ => rfl) ?_
        simp [heldL]
    | none =>
      cases q0 with
      | some Y0 =>
        simp only [ownT, lso_some, lso_none] at *
        subst heq0
        have hm0 := kAt_le (k := (1 : Int)) hsm0 ([] : List (List Int)).length (Nat.le_refl _)
        have hy0 := hsm0.1
        have hn0 : ¬ (kAt (1 : Int) ([] : List (List Int)) ([] : List (List Int)).length) < 0 := by omega
        refine callR hto0 rfl rfl (fun _ => by simp) ?_
        simp
        refine callR hc1 rfl rfl (fun _ => by simp) ?_
        simp
        refine callR hto0 rfl rfl (fun _ => by simp) ?_
        simp
        refine callR hc2 rfl rfl (fun _ => by simp) ?_
        simp
        refine callR (h21.o (some ([] : List (List Int))) none hsm0) rfl rfl (fun _ => rfl) ?_
        simp
        refine callR hto0 rfl rfl (fun _ => by simp) ?_
        simp
        refine callR (h18.o F0 S0 F0 S0 hfa0 hfb0) rfl rfl (fun _ => rfl) ?_
        simp
        refine callM (ts' := [.agg [.mem .own (some 1) (rows (upT (1 : Int) F0)), .mem .own (some 1) (rows (upT (kAt (1 : Int) F0 F0.length) S0))], I (1 : Int)]) (r := I (kAt (kAt (1 : Int) F0 F0.length) S0 S0.length)) ?_ ?_ ?_ ?_
        · simp
        · simpa using h22 F0 S0 (1 : Int) hfa0 hfb0 (by omega) (by omega)
        · simp
        simp [hkN]
        refine callR (h21.o (some ([] : List (List Int))) none hsm0) rfl rfl (fun _ => rfl) ?_
        simp
        refine callM (ts' := [.mem .own (some 1) (rows (upT (1 : Int) ([] : List (List Int)))), I (1 : Int)]) (r := I (kAt (1 : Int) ([] : List (List Int)) ([] : List (List Int)).length)) ?_ ?_ ?_ ?_
        · simp
        · simpa using h23.at ([] : List (List Int)) (1 : Int) hsm0 (by omega) (by omega)
        · simp
        simp
        refine callR (h24.o (some (upT (1 : Int) ([] : List (List Int)))) (1 : Int) (upT_small hsm0 (1 : Int)) (by omega) (by omega)) rfl rfl (fun _ => rfl) ?_
        simp [heldL_all, kAt_zero]
        refine callR hto0 rfl rfl (fun _ => by simp) ?_
        simp
        refine callR hc2 rfl rfl (fun _ => by simp) ?_
        simp
        refine callR (h21.o (some ([] : List (List Int))) none hsm0) rfl rfl (fun _ => rfl) ?_
        simp
        refine callR (h24.o (some (upT (1 : Int) ([] : List (List Int)))) (1 : Int) (upT_small hsm0 (1 : Int)) (by omega) (by omega)) rfl rfl (fun _ => rfl) ?_
        simp [heldL_all, kAt_zero]
      | none =>
        simp only [ownT, lso_none] at *
        refine callR hto0 rfl rfl (fun _ => by simp) ?_
        simp
        refine callR hc1 rfl rfl (fun _ => by simp) ?_
        simp
        refine callR hto0 rfl rfl (fun _ => by simp) ?_
        simp
        refine callR hc2 rfl rfl (fun _ => by simp) ?_
        simp
        refine callR (h21.o none none hsm0) rfl rfl (fun _ => rfl) ?_
        simp
        refine callR hto0 rfl rfl (fun _ => by simp) ?_
        simp
        refine callR (h18.o F0 S0 F0 S0 hfa0 hfb0) rfl rfl (fun _ => rfl) ?_
        simp
        refine callM (ts' := [.agg [.mem .own (some 1) (rows (upT (1 : Int) F0)), .mem .own (some 1) (rows (upT (kAt (1 : Int) F0 F0.length) S0))], I (1 : Int)]) (r := I (kAt (kAt (1 : Int) F0 F0.length) S0 S0.length)) ?_ ?_ ?_ ?_
        · simp
        · simpa using h22 F0 S0 (1 : Int) hfa0 hfb0 (by omega) (by omega)
        · simp
        simp [hkN]
        refine callR (h21.o none none hsm0) rfl rfl (fun _ => rfl) ?_
        simp
        refine callM (ts' := [nil, I (1 : Int)]) (r := I (1 : Int)) ?_ ?_ ?_ ?_
        · simp
        · simpa using h23.at0 (1 : Int) (by omega) (by omega)
        · simp
        simp
        refine callR (h24.o none (1 : Int) hsm0 (by omega) (by omega)) rfl rfl (fun _ => rfl) ?_
        simp [heldL]
        refine callR hto0 rfl rfl (fun _ => by simp) ?_
        simp
        refine callR hc2 rfl rfl (fun _ => by simp) ?_
        simp
        refine callR (h21.o none none hsm0) rfl rfl (fun _ => rfl) ?_
        simp
        refine callR (h24.o none (1 : Int) hsm0 (by omega) (by omega)) rfl rfl (fun _ => rfl) ?_
        simp [heldL]
end Go.Mch
/- The runs of the exact laws, by their shapes: sol-sol,int, sol-rack,int, sol,int-sol,int. -/
namespace Go.Mch
/-- The laws of this shape: sol to sol, int. -/
def lw_S (a b : Nat) : F where
  np := 1
  rs := [.t 2]
  body :=
    (.seq
    (.region none [ ⟨some 1, none, .box (.t 0)⟩, ⟨some 2, none, .mv (.c (.bool false))⟩] [1]) (.seq
    (.region none [ ⟨some 3, none, .mv (.c (.int .i64 1048576))⟩] [1, 3]) (.seq
    (.region none [ ⟨some 14, none, .ld (some 2) (.t 1)⟩, ⟨some 15, none, .mv (.t 3)⟩, ⟨some 16, none, .call (.f 14) [((.t 14), .r), ((.t 15), .r)]⟩, ⟨some 3, none, .mv (.t 16)⟩] [1, 3]) (.seq (.seq
    (.region none [ ⟨some 17, none, .mv (.t 3)⟩, ⟨some 18, none, .bin .lss (.t 17) (.c (.int .i64 0))⟩] [1, 18]) (.cond (.t 18) (.seq
    (.region none [ ⟨some 2, none, .mv (.c (.bool true))⟩] [2]) .ret) .skip)) (.seq
    (.region none [ ⟨some 20, none, .ld (some 2) (.t 1)⟩, ⟨some 21, none, .call (.f 16) [((.t 20), .r)]⟩, ⟨some 22, none, .call (.f a) [((.t 21), .r)]⟩, ⟨some 19, none, .mv (.t 22)⟩, ⟨some 23, none, .ext (.t 19) 0⟩, ⟨some 24, none, .ext (.t 19) 1⟩, ⟨some 4, none, .alloc [(.slice none 0 0), (.slice none 0 0)]⟩, ⟨none, none, .st (some 2) (.t 4) (.t 23)⟩, ⟨some 5, none, .mv (.t 24)⟩] [1, 4, 5]) (.seq
    (.region none [ ⟨some 25, none, .ld (some 2) (.t 1)⟩, ⟨some 26, none, .call (.f 16) [((.t 25), .r)]⟩, ⟨some 6, none, .alloc [(.slice none 0 0), (.slice none 0 0)]⟩, ⟨none, none, .st (some 2) (.t 6) (.t 26)⟩] [1, 4, 5, 6]) (.seq
    (.region none [ ⟨some 28, none, .ld (some 2) (.t 6)⟩, ⟨some 29, none, .call (.f b) [((.t 28), .r)]⟩, ⟨some 27, none, .mv (.t 29)⟩, ⟨some 30, none, .ext (.t 27) 0⟩, ⟨some 31, none, .ext (.t 27) 1⟩, ⟨some 7, none, .alloc [(.slice none 0 0), (.slice none 0 0)]⟩, ⟨none, none, .st (some 2) (.t 7) (.t 30)⟩, ⟨some 8, none, .mv (.t 31)⟩] [1, 4, 5, 6, 7, 8]) (.seq (.seq
    (.region none [ ⟨some 32, none, .ld (some 2) (.t 7)⟩, ⟨some 33, none, .ld (some 2) (.t 4)⟩, ⟨some 34, none, .call (.f 18) [((.t 32), .r), ((.t 33), .r)]⟩, ⟨some 35, none, .un .not (.t 34)⟩, ⟨some 36, none, .mv (.t 35)⟩, ⟨some 37, (some (36, false)), .mv (.t 8)⟩, ⟨some 38, (some (36, false)), .mv (.t 5)⟩, ⟨some 39, (some (36, false)), .bin .neq (.t 37) (.t 38)⟩, ⟨some 40, none, .pick (.t 36) (.c (.bool true)) (.t 39)⟩] [1, 4, 5, 6, 7, 8, 40]) (.cond (.t 40) (.seq
    (.region none [ ⟨some 2, none, .mv (.c (.bool false))⟩] [2]) .ret) .skip)) (.seq (.seq
    (.region (some [41, 42, 43]) [ ⟨some 41, none, .ld (some 2) (.t 6)⟩, ⟨some 42, none, .ld (some 2) (.t 1)⟩, ⟨some 43, none, .call (.f 16) [((.t 42), .r)]⟩, ⟨some 44, none, .call (.f 18) [((.t 41), .r), ((.t 43), .r)]⟩, ⟨some 45, none, .un .not (.t 44)⟩] [1, 4, 5, 6, 7, 8, 45]) (.cond (.t 45) (.seq
    (.region none [ ⟨some 2, none, .mv (.c (.bool false))⟩] [2]) .ret) .skip)) (.seq
    (.region none [ ⟨some 9, none, .mv (.c (.int .i64 1))⟩] [1, 4, 5, 6, 7, 8, 9]) (.seq
    (.region none [ ⟨some 46, none, .ld (some 2) (.t 6)⟩, ⟨some 47, none, .mv (.t 9)⟩, ⟨some 48, none, .callm (.f 22) [((.t 46), true), ((.t 47), false)] []⟩, ⟨some 9, none, .mv (.t 48)⟩] [1, 4, 5, 7, 8, 9]) (.seq (.seq
    (.region none [ ⟨some 49, none, .mv (.t 9)⟩, ⟨some 50, none, .bin .lss (.t 49) (.c (.int .i64 0))⟩, ⟨some 51, none, .mv (.t 50)⟩, ⟨some 52, (some (51, false)), .ld (some 2) (.t 7)⟩, ⟨some 53, (some (51, false)), .ld (some 2) (.t 4)⟩, ⟨some 54, (some (51, false)), .call (.f 18) [((.t 52), .r), ((.t 53), .r)]⟩, ⟨some 55, (some (51, false)), .un .not (.t 54)⟩, ⟨some 56, none, .pick (.t 51) (.c (.bool true)) (.t 55)⟩, ⟨some 57, none, .mv (.t 56)⟩, ⟨some 58, (some (57, false)), .mv (.t 8)⟩, ⟨some 59, (some (57, false)), .mv (.t 5)⟩, ⟨some 60, (some (57, false)), .bin .neq (.t 58) (.t 59)⟩, ⟨some 61, none, .pick (.t 57) (.c (.bool true)) (.t 60)⟩] [1, 4, 5, 7, 61]) (.cond (.t 61) (.seq
    (.region none [ ⟨some 2, none, .mv (.c (.bool false))⟩] [2]) .ret) .skip)) (.seq
    (.region none [ ⟨some 10, none, .mv (.c (.int .i64 1))⟩] [1, 4, 5, 7, 10]) (.seq
    (.region none [ ⟨some 62, none, .ld (some 2) (.t 7)⟩, ⟨some 63, none, .mv (.t 10)⟩, ⟨some 64, none, .callm (.f 22) [((.t 62), true), ((.t 63), false)] []⟩, ⟨some 10, none, .mv (.t 64)⟩] [1, 4, 5, 7, 10]) (.seq
    (.region none [ ⟨some 11, none, .mv (.c (.int .i64 1))⟩] [1, 4, 5, 7, 10, 11]) (.seq
    (.region none [ ⟨some 65, none, .ld (some 2) (.t 7)⟩, ⟨some 66, none, .mv (.t 11)⟩, ⟨some 67, none, .call (.f 172) [((.t 65), .r), ((.t 66), .r)]⟩, ⟨some 11, none, .mv (.t 67)⟩] [1, 4, 5, 7, 10, 11]) (.seq (.seq
    (.region none [ ⟨some 68, none, .mv (.t 11)⟩, ⟨some 69, none, .bin .lss (.t 68) (.c (.int .i64 0))⟩] [1, 4, 5, 7, 10, 11, 69]) (.cond (.t 69) (.seq
    (.region none [ ⟨some 2, none, .mv (.c (.bool false))⟩] [2]) .ret) .skip)) (.seq (.seq
    (.region none [ ⟨some 70, none, .mv (.t 11)⟩, ⟨some 71, none, .mv (.t 10)⟩, ⟨some 72, none, .bin .neq (.t 70) (.t 71)⟩] [1, 4, 5, 7, 10, 72]) (.cond (.t 72) (.seq
    (.region none [ ⟨some 2, none, .mv (.c (.bool false))⟩] [2]) .ret) .skip)) (.seq
    (.region none [ ⟨some 74, none, .ld (some 2) (.t 1)⟩, ⟨some 75, none, .call (.f 16) [((.t 74), .r)]⟩, ⟨some 76, none, .call (.f b) [((.t 75), .r)]⟩, ⟨some 73, none, .mv (.t 76)⟩, ⟨some 77, none, .ext (.t 73) 0⟩, ⟨some 78, none, .ext (.t 73) 1⟩, ⟨some 12, none, .alloc [(.slice none 0 0), (.slice none 0 0)]⟩, ⟨none, none, .st (some 2) (.t 12) (.t 77)⟩, ⟨some 13, none, .mv (.t 78)⟩] [4, 5, 7, 10, 12, 13]) (.seq (.seq
    (.region none [ ⟨some 79, none, .ld (some 2) (.t 12)⟩, ⟨some 80, none, .ld (some 2) (.t 4)⟩, ⟨some 81, none, .call (.f 18) [((.t 79), .r), ((.t 80), .r)]⟩, ⟨some 82, none, .un .not (.t 81)⟩, ⟨some 83, none, .mv (.t 82)⟩, ⟨some 84, (some (83, false)), .mv (.t 13)⟩, ⟨some 85, (some (83, false)), .mv (.t 5)⟩, ⟨some 86, (some (83, false)), .bin .neq (.t 84) (.t 85)⟩, ⟨some 87, none, .pick (.t 83) (.c (.bool true)) (.t 86)⟩] [7, 10, 87]) (.cond (.t 87) (.seq
    (.region none [ ⟨some 2, none, .mv (.c (.bool false))⟩] [2]) .ret) .skip)) (.seq
    (.region none [ ⟨some 11, none, .mv (.c (.int .i64 1))⟩] [7, 10, 11]) (.seq
    (.region none [ ⟨some 88, none, .ld (some 2) (.t 7)⟩, ⟨some 89, none, .mv (.t 11)⟩, ⟨some 90, none, .call (.f 172) [((.t 88), .r), ((.t 89), .r)]⟩, ⟨some 11, none, .mv (.t 90)⟩] [10, 11]) (.seq (.seq
    (.region none [ ⟨some 91, none, .mv (.t 11)⟩, ⟨some 92, none, .bin .lss (.t 91) (.c (.int .i64 0))⟩] [10, 11, 92]) (.cond (.t 92) (.seq
    (.region none [ ⟨some 2, none, .mv (.c (.bool false))⟩] [2]) .ret) .skip)) (.seq (.seq
    (.region none [ ⟨some 93, none, .mv (.t 11)⟩, ⟨some 94, none, .mv (.t 10)⟩, ⟨some 95, none, .bin .neq (.t 93) (.t 94)⟩] [95]) (.cond (.t 95) (.seq
    (.region none [ ⟨some 2, none, .mv (.c (.bool false))⟩] [2]) .ret) .skip)) (.seq
    (.region none [ ⟨some 2, none, .mv (.c (.bool true))⟩] [2]) .ret)))))))))))))))))))))))))
def S_sh_S (pg : Pg) (n : Nat) (R0 : List (List Int) → List (List Int) → Option (List (List Int) × List (List Int))) (R1 : List (List Int) → List (List Int) → Int) : Prop := ∀ (f0 s0 : List (List Int)), fits f0 → fits s0 → Call pg n [sol f0 s0] [sol f0 s0] (.tup [solT (R0 f0 s0), I (R1 f0 s0)])
def S_lw_S (pg : Pg) (n : Nat) : Prop := ∀ (a0 b0 : Rw (Rw Int)), small a0 → small b0 → ∃ args', Call pg n [.agg [rawT a0, rawT b0]] args' (B true)
set_option maxRecDepth 20000 in
theorem t_lw_S {pg : Pg} {n a b : Nat} {R0 : List (List Int) → List (List Int) → Option (List (List Int) × List (List Int))} {R1 : List (List Int) → List (List Int) → Int} (hp : pg.fn n = some (lw_S a b)) (hA : S_sh_S pg a R0 R1) (hB : S_sh_S pg b R0 R1) (hz0 : ∀ (f0 s0 : List (List Int)), fits f0 → fits s0 → ∀ X Y, R0 f0 s0 = some (X, Y) → smallT X ∧ smallT Y) (h14 : S_szSol pg) (h16 : S_toSol pg) (h18 : S_eqSol pg) (h22 : S_markSol pg) (h22z : S_markSol0 pg) (h172 : S_heldSol pg) : S_lw_S pg n := by
  intro a0 b0 ha0 hb0
  refine ⟨[.agg [rawT a0, rawT b0]], Call.intro hp rfl (by simp) ?_⟩
  obtain ⟨r, hr1, hr2, hsz⟩ := h14 a0 b0 1048576 ha0 hb0 (by omega) (by omega)
  have hto0 := h16 a0 b0 ha0 hb0
  have hfa0 := fitsT_of ha0
  have hfb0 := fitsT_of hb0
  generalize hF0 : (lst a0).map lst = F0 at *
  generalize hS0 : (lst b0).map lst = S0 at *
  have hc1 := hA F0 S0 hfa0 hfb0
  have hc2 := hB F0 S0 hfa0 hfb0
  have hsm0 := hz0 F0 S0 hfa0 hfb0
  generalize R0 F0 S0 = o0 at *
  generalize R1 F0 S0 = o1 at *
  have hk0a := kAt_le (k := (1 : Int)) hfa0 F0.length (Nat.le_refl _)
  have hk0b := kAt_le (k := (kAt (1 : Int) F0 F0.length)) hfb0 S0.length (Nat.le_refl _)
  have hfl0 := hfa0.1
  have hsl0 := hfb0.1
  have hkN : ¬ (kAt (kAt (1 : Int) F0 F0.length) S0 S0.length) < 0 := by omega
  show wp _ _ (lw_S a b).body (post [.t 2] _ _ _) _
  simp [lw_S]
  refine callR hsz rfl rfl (fun _ => rfl) ?_
  by_cases hneg : r < 0
  · simp [hneg]
  · simp [hneg]
    cases o0 with
    | some P0 =>
      obtain ⟨X0, Y0⟩ := P0
      simp only [solT] at *
      obtain ⟨hx0, hy0⟩ := hsm0 _ _ rfl
      have hm0 := kAt_le (k := (1 : Int)) hx0 X0.length (Nat.le_refl _)
      have hl0 := hx0.1
      have hm0b := kAt_le (k := (kAt (1 : Int) X0 X0.length)) hy0 Y0.length (Nat.le_refl _)
      have hl0b := hy0.1
      have hn0 : ¬ (kAt (kAt (1 : Int) X0 X0.length) Y0 Y0.length) < 0 := by omega
      refine callR hto0 rfl rfl (fun _ => by simp) ?_
      simp
      refine callR hc1 rfl rfl (fun _ => by simp) ?_
      simp
      refine callR hto0 rfl rfl (fun _ => by simp) ?_
      simp
      refine callR hc2 rfl rfl (fun _ => by simp) ?_
      simp
      refine callR (h18.oo (some (X0, Y0)) hsm0) rfl rfl (fun _ => rfl) ?_
      simp
      refine callR hto0 rfl rfl (fun _ => by simp) ?_
      simp
      refine callR (h18.o F0 S0 F0 S0 hfa0 hfb0) rfl rfl (fun _ => rfl) ?_
      simp
      refine callM (ts' := [.agg [.mem .own (some 1) (rows (upT (1 : Int) F0)), .mem .own (some 1) (rows (upT (kAt (1 : Int) F0 F0.length) S0))], I (1 : Int)]) (r := I (kAt (kAt (1 : Int) F0 F0.length) S0 S0.length)) ?_ ?_ ?_ ?_
      · simp
      · simpa using h22 F0 S0 (1 : Int) hfa0 hfb0 (by omega) (by omega)
      · simp
      simp [hkN]
      refine callR (h18.oo (some (X0, Y0)) hsm0) rfl rfl (fun _ => rfl) ?_
      simp
      refine callM (ts' := [.agg [.mem .own (some 1) (rows (upT (1 : Int) X0)), .mem .own (some 1) (rows (upT (kAt (1 : Int) X0 X0.length) Y0))], I (1 : Int)]) (r := I (kAt (kAt (1 : Int) X0 X0.length) Y0 Y0.length)) ?_ ?_ ?_ ?_
      · simp
      · simpa using h22 X0 Y0 (1 : Int) hx0 hy0 (by omega) (by omega)
      · simp
      simp
      refine callR (h172.at X0 Y0 (1 : Int) hx0 hy0 (by omega) (by omega)) rfl rfl (fun _ => rfl) ?_
      simp [hn0]
      refine callR hto0 rfl rfl (fun _ => by simp) ?_
      simp
      refine callR hc2 rfl rfl (fun _ => by simp) ?_
      simp
      refine callR (h18.oo (some (X0, Y0)) hsm0) rfl rfl (fun _ => rfl) ?_
      simp
      refine callR (h172.at X0 Y0 (1 : Int) hx0 hy0 (by omega) (by omega)) rfl rfl (fun _ => rfl) ?_
      simp [hn0]
    | none =>
      simp only [solT] at *
      refine callR hto0 rfl rfl (fun _ => by simp) ?_
      simp
      refine callR hc1 rfl rfl (fun _ => by simp) ?_
      simp
      refine callR hto0 rfl rfl (fun _ => by simp) ?_
      simp
      refine callR hc2 rfl rfl (fun _ => by simp) ?_
      simp
      refine callR (h18.oo none hsm0) rfl rfl (fun _ => rfl) ?_
      simp
      refine callR hto0 rfl rfl (fun _ => by simp) ?_
      simp
      refine callR (h18.o F0 S0 F0 S0 hfa0 hfb0) rfl rfl (fun _ => rfl) ?_
      simp
      refine callM (ts' := [.agg [.mem .own (some 1) (rows (upT (1 : Int) F0)), .mem .own (some 1) (rows (upT (kAt (1 : Int) F0 F0.length) S0))], I (1 : Int)]) (r := I (kAt (kAt (1 : Int) F0 F0.length) S0 S0.length)) ?_ ?_ ?_ ?_
      · simp
      · simpa using h22 F0 S0 (1 : Int) hfa0 hfb0 (by omega) (by omega)
      · simp
      simp [hkN]
      refine callR (h18.oo none hsm0) rfl rfl (fun _ => rfl) ?_
      simp
      refine callM (ts' := [.agg [nil, nil], I (1 : Int)]) (r := I (1 : Int)) ?_ ?_ ?_ ?_
      · simp
      · simpa using h22z (1 : Int) (by omega) (by omega)
      · simp
      simp
      refine callR (h172.at0 (1 : Int) (by omega) (by omega)) rfl rfl (fun _ => rfl) ?_
      simp
      refine callR hto0 rfl rfl (fun _ => by simp) ?_
      simp
      refine callR hc2 rfl rfl (fun _ => by simp) ?_
      simp
      refine callR (h18.oo none hsm0) rfl rfl (fun _ => rfl) ?_
      simp
      refine callR (h172.at0 (1 : Int) (by omega) (by omega)) rfl rfl (fun _ => rfl) ?_
      simp
/-- The laws of this shape: sol to rack, int. -/
def lw_K (a b : Nat) : F where
  np := 1
  rs := [.t 2]
  body :=
    (.seq
    (.region none [ ⟨some 1, none, .box (.t 0)⟩, ⟨some 2, none, .mv (.c (.bool false))⟩] [1]) (.seq
    (.region none [ ⟨some 3, none, .mv (.c (.int .i64 1048576))⟩] [1, 3]) (.seq
    (.region none [ ⟨some 14, none, .ld (some 2) (.t 1)⟩, ⟨some 15, none, .mv (.t 3)⟩, ⟨some 16, none, .call (.f 14) [((.t 14), .r), ((.t 15), .r)]⟩, ⟨some 3, none, .mv (.t 16)⟩] [1, 3]) (.seq (.seq
    (.region none [ ⟨some 17, none, .mv (.t 3)⟩, ⟨some 18, none, .bin .lss (.t 17) (.c (.int .i64 0))⟩] [1, 18]) (.cond (.t 18) (.seq
    (.region none [ ⟨some 2, none, .mv (.c (.bool true))⟩] [2]) .ret) .skip)) (.seq
    (.region none [ ⟨some 20, none, .ld (some 2) (.t 1)⟩, ⟨some 21, none, .call (.f 16) [((.t 20), .r)]⟩, ⟨some 22, none, .call (.f a) [((.t 21), .r)]⟩, ⟨some 19, none, .mv (.t 22)⟩, ⟨some 23, none, .ext (.t 19) 0⟩, ⟨some 24, none, .ext (.t 19) 1⟩, ⟨some 4, none, .alloc [(.slice none 0 0)]⟩, ⟨none, none, .st (some 1) (.t 4) (.t 23)⟩, ⟨some 5, none, .mv (.t 24)⟩] [1, 4, 5]) (.seq
    (.region none [ ⟨some 25, none, .ld (some 2) (.t 1)⟩, ⟨some 26, none, .call (.f 16) [((.t 25), .r)]⟩, ⟨some 6, none, .alloc [(.slice none 0 0), (.slice none 0 0)]⟩, ⟨none, none, .st (some 2) (.t 6) (.t 26)⟩] [1, 4, 5, 6]) (.seq
    (.region none [ ⟨some 28, none, .ld (some 2) (.t 6)⟩, ⟨some 29, none, .call (.f b) [((.t 28), .r)]⟩, ⟨some 27, none, .mv (.t 29)⟩, ⟨some 30, none, .ext (.t 27) 0⟩, ⟨some 31, none, .ext (.t 27) 1⟩, ⟨some 7, none, .alloc [(.slice none 0 0)]⟩, ⟨none, none, .st (some 1) (.t 7) (.t 30)⟩, ⟨some 8, none, .mv (.t 31)⟩] [1, 4, 5, 6, 7, 8]) (.seq (.seq
    (.region none [ ⟨some 32, none, .ld (some 1) (.t 7)⟩, ⟨some 33, none, .ld (some 1) (.t 4)⟩, ⟨some 34, none, .call (.f 10) [((.t 32), .r), ((.t 33), .r)]⟩, ⟨some 35, none, .un .not (.t 34)⟩, ⟨some 36, none, .mv (.t 35)⟩, ⟨some 37, (some (36, false)), .mv (.t 8)⟩, ⟨some 38, (some (36, false)), .mv (.t 5)⟩, ⟨some 39, (some (36, false)), .bin .neq (.t 37) (.t 38)⟩, ⟨some 40, none, .pick (.t 36) (.c (.bool true)) (.t 39)⟩] [1, 4, 5, 6, 7, 8, 40]) (.cond (.t 40) (.seq
    (.region none [ ⟨some 2, none, .mv (.c (.bool false))⟩] [2]) .ret) .skip)) (.seq (.seq
    (.region (some [41, 42, 43]) [ ⟨some 41, none, .ld (some 2) (.t 6)⟩, ⟨some 42, none, .ld (some 2) (.t 1)⟩, ⟨some 43, none, .call (.f 16) [((.t 42), .r)]⟩, ⟨some 44, none, .call (.f 18) [((.t 41), .r), ((.t 43), .r)]⟩, ⟨some 45, none, .un .not (.t 44)⟩] [1, 4, 5, 6, 7, 8, 45]) (.cond (.t 45) (.seq
    (.region none [ ⟨some 2, none, .mv (.c (.bool false))⟩] [2]) .ret) .skip)) (.seq
    (.region none [ ⟨some 9, none, .mv (.c (.int .i64 1))⟩] [1, 4, 5, 6, 7, 8, 9]) (.seq
    (.region none [ ⟨some 46, none, .ld (some 2) (.t 6)⟩, ⟨some 47, none, .mv (.t 9)⟩, ⟨some 48, none, .callm (.f 22) [((.t 46), true), ((.t 47), false)] []⟩, ⟨some 9, none, .mv (.t 48)⟩] [1, 4, 5, 7, 8, 9]) (.seq (.seq
    (.region none [ ⟨some 49, none, .mv (.t 9)⟩, ⟨some 50, none, .bin .lss (.t 49) (.c (.int .i64 0))⟩, ⟨some 51, none, .mv (.t 50)⟩, ⟨some 52, (some (51, false)), .ld (some 1) (.t 7)⟩, ⟨some 53, (some (51, false)), .ld (some 1) (.t 4)⟩, ⟨some 54, (some (51, false)), .call (.f 10) [((.t 52), .r), ((.t 53), .r)]⟩, ⟨some 55, (some (51, false)), .un .not (.t 54)⟩, ⟨some 56, none, .pick (.t 51) (.c (.bool true)) (.t 55)⟩, ⟨some 57, none, .mv (.t 56)⟩, ⟨some 58, (some (57, false)), .mv (.t 8)⟩, ⟨some 59, (some (57, false)), .mv (.t 5)⟩, ⟨some 60, (some (57, false)), .bin .neq (.t 58) (.t 59)⟩, ⟨some 61, none, .pick (.t 57) (.c (.bool true)) (.t 60)⟩] [1, 4, 5, 7, 61]) (.cond (.t 61) (.seq
    (.region none [ ⟨some 2, none, .mv (.c (.bool false))⟩] [2]) .ret) .skip)) (.seq
    (.region none [ ⟨some 10, none, .mv (.c (.int .i64 1))⟩] [1, 4, 5, 7, 10]) (.seq
    (.region none [ ⟨some 62, none, .ld (some 1) (.t 7)⟩, ⟨some 63, none, .mv (.t 10)⟩, ⟨some 64, none, .callm (.f 11) [((.t 62), true), ((.t 63), false)] []⟩, ⟨some 10, none, .mv (.t 64)⟩] [1, 4, 5, 7, 10]) (.seq
    (.region none [ ⟨some 11, none, .mv (.c (.int .i64 1))⟩] [1, 4, 5, 7, 10, 11]) (.seq
    (.region none [ ⟨some 65, none, .ld (some 1) (.t 7)⟩, ⟨some 66, none, .mv (.t 11)⟩, ⟨some 67, none, .call (.f 149) [((.t 65), .r), ((.t 66), .r)]⟩, ⟨some 11, none, .mv (.t 67)⟩] [1, 4, 5, 7, 10, 11]) (.seq (.seq
    (.region none [ ⟨some 68, none, .mv (.t 11)⟩, ⟨some 69, none, .bin .lss (.t 68) (.c (.int .i64 0))⟩] [1, 4, 5, 7, 10, 11, 69]) (.cond (.t 69) (.seq
    (.region none [ ⟨some 2, none, .mv (.c (.bool false))⟩] [2]) .ret) .skip)) (.seq (.seq
    (.region none [ ⟨some 70, none, .mv (.t 11)⟩, ⟨some 71, none, .mv (.t 10)⟩, ⟨some 72, none, .bin .neq (.t 70) (.t 71)⟩] [1, 4, 5, 7, 10, 72]) (.cond (.t 72) (.seq
    (.region none [ ⟨some 2, none, .mv (.c (.bool false))⟩] [2]) .ret) .skip)) (.seq
    (.region none [ ⟨some 74, none, .ld (some 2) (.t 1)⟩, ⟨some 75, none, .call (.f 16) [((.t 74), .r)]⟩, ⟨some 76, none, .call (.f b) [((.t 75), .r)]⟩, ⟨some 73, none, .mv (.t 76)⟩, ⟨some 77, none, .ext (.t 73) 0⟩, ⟨some 78, none, .ext (.t 73) 1⟩, ⟨some 12, none, .alloc [(.slice none 0 0)]⟩, ⟨none, none, .st (some 1) (.t 12) (.t 77)⟩, ⟨some 13, none, .mv (.t 78)⟩] [4, 5, 7, 10, 12, 13]) (.seq (.seq
    (.region none [ ⟨some 79, none, .ld (some 1) (.t 12)⟩, ⟨some 80, none, .ld (some 1) (.t 4)⟩, ⟨some 81, none, .call (.f 10) [((.t 79), .r), ((.t 80), .r)]⟩, ⟨some 82, none, .un .not (.t 81)⟩, ⟨some 83, none, .mv (.t 82)⟩, ⟨some 84, (some (83, false)), .mv (.t 13)⟩, ⟨some 85, (some (83, false)), .mv (.t 5)⟩, ⟨some 86, (some (83, false)), .bin .neq (.t 84) (.t 85)⟩, ⟨some 87, none, .pick (.t 83) (.c (.bool true)) (.t 86)⟩] [7, 10, 87]) (.cond (.t 87) (.seq
    (.region none [ ⟨some 2, none, .mv (.c (.bool false))⟩] [2]) .ret) .skip)) (.seq
    (.region none [ ⟨some 11, none, .mv (.c (.int .i64 1))⟩] [7, 10, 11]) (.seq
    (.region none [ ⟨some 88, none, .ld (some 1) (.t 7)⟩, ⟨some 89, none, .mv (.t 11)⟩, ⟨some 90, none, .call (.f 149) [((.t 88), .r), ((.t 89), .r)]⟩, ⟨some 11, none, .mv (.t 90)⟩] [10, 11]) (.seq (.seq
    (.region none [ ⟨some 91, none, .mv (.t 11)⟩, ⟨some 92, none, .bin .lss (.t 91) (.c (.int .i64 0))⟩] [10, 11, 92]) (.cond (.t 92) (.seq
    (.region none [ ⟨some 2, none, .mv (.c (.bool false))⟩] [2]) .ret) .skip)) (.seq (.seq
    (.region none [ ⟨some 93, none, .mv (.t 11)⟩, ⟨some 94, none, .mv (.t 10)⟩, ⟨some 95, none, .bin .neq (.t 93) (.t 94)⟩] [95]) (.cond (.t 95) (.seq
    (.region none [ ⟨some 2, none, .mv (.c (.bool false))⟩] [2]) .ret) .skip)) (.seq
    (.region none [ ⟨some 2, none, .mv (.c (.bool true))⟩] [2]) .ret)))))))))))))))))))))))))
def S_sh_K (pg : Pg) (n : Nat) (R0 : List (List Int) → List (List Int) → Option (List (List Int))) (R1 : List (List Int) → List (List Int) → Int) : Prop := ∀ (f0 s0 : List (List Int)), fits f0 → fits s0 → Call pg n [sol f0 s0] [sol f0 s0] (.tup [.agg [ownT (R0 f0 s0)], I (R1 f0 s0)])
def S_lw_K (pg : Pg) (n : Nat) : Prop := ∀ (a0 b0 : Rw (Rw Int)), small a0 → small b0 → ∃ args', Call pg n [.agg [rawT a0, rawT b0]] args' (B true)
set_option maxRecDepth 20000 in
theorem t_lw_K {pg : Pg} {n a b : Nat} {R0 : List (List Int) → List (List Int) → Option (List (List Int))} {R1 : List (List Int) → List (List Int) → Int} (hp : pg.fn n = some (lw_K a b)) (hA : S_sh_K pg a R0 R1) (hB : S_sh_K pg b R0 R1) (hz0 : ∀ (f0 s0 : List (List Int)), fits f0 → fits s0 → smallT (lso (R0 f0 s0))) (h14 : S_szSol pg) (h16 : S_toSol pg) (h18 : S_eqSol pg) (h22 : S_markSol pg) (h11 : S_markRack pg) (h11z : S_markRack0 pg) (h149 : S_heldRack pg) (h10 : S_eqRack pg) : S_lw_K pg n := by
  intro a0 b0 ha0 hb0
  refine ⟨[.agg [rawT a0, rawT b0]], Call.intro hp rfl (by simp) ?_⟩
  obtain ⟨r, hr1, hr2, hsz⟩ := h14 a0 b0 1048576 ha0 hb0 (by omega) (by omega)
  have hto0 := h16 a0 b0 ha0 hb0
  have hfa0 := fitsT_of ha0
  have hfb0 := fitsT_of hb0
  generalize hF0 : (lst a0).map lst = F0 at *
  generalize hS0 : (lst b0).map lst = S0 at *
  have hc1 := hA F0 S0 hfa0 hfb0
  have hc2 := hB F0 S0 hfa0 hfb0
  have hsm0 := hz0 F0 S0 hfa0 hfb0
  generalize R0 F0 S0 = o0 at *
  generalize R1 F0 S0 = o1 at *
  have hk0a := kAt_le (k := (1 : Int)) hfa0 F0.length (Nat.le_refl _)
  have hk0b := kAt_le (k := (kAt (1 : Int) F0 F0.length)) hfb0 S0.length (Nat.le_refl _)
  have hfl0 := hfa0.1
  have hsl0 := hfb0.1
  have hkN : ¬ (kAt (kAt (1 : Int) F0 F0.length) S0 S0.length) < 0 := by omega
  show wp _ _ (lw_K a b).body (post [.t 2] _ _ _) _
  simp [lw_K]
  refine callR hsz rfl rfl (fun _ => rfl) ?_
  by_cases hneg : r < 0
  · simp [hneg]
  · simp [hneg]
    cases o0 with
    | some Y0 =>
      simp only [ownT, lso_some] at *
      have hm0 := kAt_le (k := (1 : Int)) hsm0 Y0.length (Nat.le_refl _)
      have hy0 := hsm0.1
      have hn0 : ¬ (kAt (1 : Int) Y0 Y0.length) < 0 := by omega
      refine callR hto0 rfl rfl (fun _ => by simp) ?_
      simp
      refine callR hc1 rfl rfl (fun _ => by simp) ?_
      simp
      refine callR hto0 rfl rfl (fun _ => by simp) ?_
      simp
      refine callR hc2 rfl rfl (fun _ => by simp) ?_
      simp
      refine callR (h10.oo (some Y0) (some Y0) hsm0) rfl rfl (fun _ => rfl) ?_
      simp
      refine callR hto0 rfl rfl (fun _ => by simp) ?_
      simp
      refine callR (h18.o F0 S0 F0 S0 hfa0 hfb0) rfl rfl (fun _ => rfl) ?_
      simp
      refine callM (ts' := [.agg [.mem .own (some 1) (rows (upT (1 : Int) F0)), .mem .own (some 1) (rows (upT (kAt (1 : Int) F0 F0.length) S0))], I (1 : Int)]) (r := I (kAt (kAt (1 : Int) F0 F0.length) S0 S0.length)) ?_ ?_ ?_ ?_
      · simp
      · simpa using h22 F0 S0 (1 : Int) hfa0 hfb0 (by omega) (by omega)
      · simp
      simp [hkN]
      refine callR (h10.oo (some Y0) (some Y0) hsm0) rfl rfl (fun _ => rfl) ?_
      simp
      refine callM (ts' := [.agg [.mem .own (some 1) (rows (upT (1 : Int) Y0))], I (1 : Int)]) (r := I (kAt (1 : Int) Y0 Y0.length)) ?_ ?_ ?_ ?_
      · simp
      · simpa using h11 Y0 (1 : Int) hsm0 (by omega) (by omega)
      · simp
      simp
      refine callR (h149.at Y0 (1 : Int) hsm0 (by omega) (by omega)) rfl rfl (fun _ => rfl) ?_
      simp [hn0]
      refine callR hto0 rfl rfl (fun _ => by simp) ?_
      simp
      refine callR hc2 rfl rfl (fun _ => by simp) ?_
      simp
      refine callR (h10.oo (some Y0) (some Y0) hsm0) rfl rfl (fun _ => rfl) ?_
      simp
      refine callR (h149.at Y0 (1 : Int) hsm0 (by omega) (by omega)) rfl rfl (fun _ => rfl) ?_
      simp [hn0]
    | none =>
      simp only [ownT, lso_none] at *
      refine callR hto0 rfl rfl (fun _ => by simp) ?_
      simp
      refine callR hc1 rfl rfl (fun _ => by simp) ?_
      simp
      refine callR hto0 rfl rfl (fun _ => by simp) ?_
      simp
      refine callR hc2 rfl rfl (fun _ => by simp) ?_
      simp
      refine callR (h10.oo none none hsm0) rfl rfl (fun _ => rfl) ?_
      simp
      refine callR hto0 rfl rfl (fun _ => by simp) ?_
      simp
      refine callR (h18.o F0 S0 F0 S0 hfa0 hfb0) rfl rfl (fun _ => rfl) ?_
      simp
      refine callM (ts' := [.agg [.mem .own (some 1) (rows (upT (1 : Int) F0)), .mem .own (some 1) (rows (upT (kAt (1 : Int) F0 F0.length) S0))], I (1 : Int)]) (r := I (kAt (kAt (1 : Int) F0 F0.length) S0 S0.length)) ?_ ?_ ?_ ?_
      · simp
      · simpa using h22 F0 S0 (1 : Int) hfa0 hfb0 (by omega) (by omega)
      · simp
      simp [hkN]
      refine callR (h10.oo none none hsm0) rfl rfl (fun _ => rfl) ?_
      simp
      refine callM (ts' := [.agg [nil], I (1 : Int)]) (r := I (1 : Int)) ?_ ?_ ?_ ?_
      · simp
      · simpa using h11z (1 : Int) (by omega) (by omega)
      · simp
      simp
      refine callR (h149.at0 (1 : Int) (by omega) (by omega)) rfl rfl (fun _ => rfl) ?_
      simp
      refine callR hto0 rfl rfl (fun _ => by simp) ?_
      simp
      refine callR hc2 rfl rfl (fun _ => by simp) ?_
      simp
      refine callR (h10.oo none none hsm0) rfl rfl (fun _ => rfl) ?_
      simp
      refine callR (h149.at0 (1 : Int) (by omega) (by omega)) rfl rfl (fun _ => rfl) ?_
      simp
/-- The laws of this shape: sol, int to sol, int. -/
def lw_pS (a b : Nat) : F where
  np := 2
  rs := [.t 4]
  body :=
    (.seq
    (.region none [ ⟨some 2, none, .box (.t 0)⟩, ⟨some 4, none, .mv (.c (.bool false))⟩] [1, 2]) (.seq
    (.region none [ ⟨some 5, none, .mv (.c (.int .i64 1048576))⟩] [1, 2, 5]) (.seq
    (.region none [ ⟨some 16, none, .ld (some 2) (.t 2)⟩, ⟨some 17, none, .mv (.t 5)⟩, ⟨some 18, none, .call (.f 14) [((.t 16), .r), ((.t 17), .r)]⟩, ⟨some 5, none, .mv (.t 18)⟩] [1, 2, 5]) (.seq (.seq
    (.region none [ ⟨some 19, none, .mv (.t 5)⟩, ⟨some 20, none, .bin .lss (.t 19) (.c (.int .i64 0))⟩] [1, 2, 20]) (.cond (.t 20) (.seq
    (.region none [ ⟨some 4, none, .mv (.c (.bool true))⟩] [4]) .ret) .skip)) (.seq
    (.region none [ ⟨some 22, none, .ld (some 2) (.t 2)⟩, ⟨some 23, none, .call (.f 16) [((.t 22), .r)]⟩, ⟨some 24, none, .mv (.t 1)⟩, ⟨some 25, none, .call (.f a) [((.t 23), .r), ((.t 24), .r)]⟩, ⟨some 21, none, .mv (.t 25)⟩, ⟨some 26, none, .ext (.t 21) 0⟩, ⟨some 27, none, .ext (.t 21) 1⟩, ⟨some 6, none, .alloc [(.slice none 0 0), (.slice none 0 0)]⟩, ⟨none, none, .st (some 2) (.t 6) (.t 26)⟩, ⟨some 7, none, .mv (.t 27)⟩] [1, 2, 6, 7]) (.seq
    (.region none [ ⟨some 28, none, .ld (some 2) (.t 2)⟩, ⟨some 29, none, .call (.f 16) [((.t 28), .r)]⟩, ⟨some 8, none, .alloc [(.slice none 0 0), (.slice none 0 0)]⟩, ⟨none, none, .st (some 2) (.t 8) (.t 29)⟩] [1, 2, 6, 7, 8]) (.seq
    (.region none [ ⟨some 31, none, .ld (some 2) (.t 8)⟩, ⟨some 32, none, .mv (.t 1)⟩, ⟨some 33, none, .call (.f b) [((.t 31), .r), ((.t 32), .r)]⟩, ⟨some 30, none, .mv (.t 33)⟩, ⟨some 34, none, .ext (.t 30) 0⟩, ⟨some 35, none, .ext (.t 30) 1⟩, ⟨some 9, none, .alloc [(.slice none 0 0), (.slice none 0 0)]⟩, ⟨none, none, .st (some 2) (.t 9) (.t 34)⟩, ⟨some 10, none, .mv (.t 35)⟩] [1, 2, 6, 7, 8, 9, 10]) (.seq (.seq
    (.region none [ ⟨some 36, none, .ld (some 2) (.t 9)⟩, ⟨some 37, none, .ld (some 2) (.t 6)⟩, ⟨some 38, none, .call (.f 18) [((.t 36), .r), ((.t 37), .r)]⟩, ⟨some 39, none, .un .not (.t 38)⟩, ⟨some 40, none, .mv (.t 39)⟩, ⟨some 41, (some (40, false)), .mv (.t 10)⟩, ⟨some 42, (some (40, false)), .mv (.t 7)⟩, ⟨some 43, (some (40, false)), .bin .neq (.t 41) (.t 42)⟩, ⟨some 44, none, .pick (.t 40) (.c (.bool true)) (.t 43)⟩] [1, 2, 6, 7, 8, 9, 10, 44]) (.cond (.t 44) (.seq
    (.region none [ ⟨some 4, none, .mv (.c (.bool false))⟩] [4]) .ret) .skip)) (.seq (.seq
    (.region (some [45, 46, 47]) [ ⟨some 45, none, .ld (some 2) (.t 8)⟩, ⟨some 46, none, .ld (some 2) (.t 2)⟩, ⟨some 47, none, .call (.f 16) [((.t 46), .r)]⟩, ⟨some 48, none, .call (.f 18) [((.t 45), .r), ((.t 47), .r)]⟩, ⟨some 49, none, .un .not (.t 48)⟩] [1, 2, 6, 7, 8, 9, 10, 49]) (.cond (.t 49) (.seq
    (.region none [ ⟨some 4, none, .mv (.c (.bool false))⟩] [4]) .ret) .skip)) (.seq
    (.region none [ ⟨some 11, none, .mv (.c (.int .i64 1))⟩] [1, 2, 6, 7, 8, 9, 10, 11]) (.seq
    (.region none [ ⟨some 50, none, .ld (some 2) (.t 8)⟩, ⟨some 51, none, .mv (.t 11)⟩, ⟨some 52, none, .callm (.f 22) [((.t 50), true), ((.t 51), false)] []⟩, ⟨some 11, none, .mv (.t 52)⟩] [1, 2, 6, 7, 9, 10, 11]) (.seq (.seq
    (.region none [ ⟨some 53, none, .mv (.t 11)⟩, ⟨some 54, none, .bin .lss (.t 53) (.c (.int .i64 0))⟩, ⟨some 55, none, .mv (.t 54)⟩, ⟨some 56, (some (55, false)), .ld (some 2) (.t 9)⟩, ⟨some 57, (some (55, false)), .ld (some 2) (.t 6)⟩, ⟨some 58, (some (55, false)), .call (.f 18) [((.t 56), .r), ((.t 57), .r)]⟩, ⟨some 59, (some (55, false)), .un .not (.t 58)⟩, ⟨some 60, none, .pick (.t 55) (.c (.bool true)) (.t 59)⟩, ⟨some 61, none, .mv (.t 60)⟩, ⟨some 62, (some (61, false)), .mv (.t 10)⟩, ⟨some 63, (some (61, false)), .mv (.t 7)⟩, ⟨some 64, (some (61, false)), .bin .neq (.t 62) (.t 63)⟩, ⟨some 65, none, .pick (.t 61) (.c (.bool true)) (.t 64)⟩] [1, 2, 6, 7, 9, 65]) (.cond (.t 65) (.seq
    (.region none [ ⟨some 4, none, .mv (.c (.bool false))⟩] [4]) .ret) .skip)) (.seq
    (.region none [ ⟨some 12, none, .mv (.c (.int .i64 1))⟩] [1, 2, 6, 7, 9, 12]) (.seq
    (.region none [ ⟨some 66, none, .ld (some 2) (.t 9)⟩, ⟨some 67, none, .mv (.t 12)⟩, ⟨some 68, none, .callm (.f 22) [((.t 66), true), ((.t 67), false)] []⟩, ⟨some 12, none, .mv (.t 68)⟩] [1, 2, 6, 7, 9, 12]) (.seq
    (.region none [ ⟨some 13, none, .mv (.c (.int .i64 1))⟩] [1, 2, 6, 7, 9, 12, 13]) (.seq
    (.region none [ ⟨some 69, none, .ld (some 2) (.t 9)⟩, ⟨some 70, none, .mv (.t 13)⟩, ⟨some 71, none, .call (.f 172) [((.t 69), .r), ((.t 70), .r)]⟩, ⟨some 13, none, .mv (.t 71)⟩] [1, 2, 6, 7, 9, 12, 13]) (.seq (.seq
    (.region none [ ⟨some 72, none, .mv (.t 13)⟩, ⟨some 73, none, .bin .lss (.t 72) (.c (.int .i64 0))⟩] [1, 2, 6, 7, 9, 12, 13, 73]) (.cond (.t 73) (.seq
    (.region none [ ⟨some 4, none, .mv (.c (.bool false))⟩] [4]) .ret) .skip)) (.seq (.seq
    (.region none [ ⟨some 74, none, .mv (.t 13)⟩, ⟨some 75, none, .mv (.t 12)⟩, ⟨some 76, none, .bin .neq (.t 74) (.t 75)⟩] [1, 2, 6, 7, 9, 12, 76]) (.cond (.t 76) (.seq
    (.region none [ ⟨some 4, none, .mv (.c (.bool false))⟩] [4]) .ret) .skip)) (.seq
    (.region none [ ⟨some 78, none, .ld (some 2) (.t 2)⟩, ⟨some 79, none, .call (.f 16) [((.t 78), .r)]⟩, ⟨some 80, none, .mv (.t 1)⟩, ⟨some 81, none, .call (.f b) [((.t 79), .r), ((.t 80), .r)]⟩, ⟨some 77, none, .mv (.t 81)⟩, ⟨some 82, none, .ext (.t 77) 0⟩, ⟨some 83, none, .ext (.t 77) 1⟩, ⟨some 14, none, .alloc [(.slice none 0 0), (.slice none 0 0)]⟩, ⟨none, none, .st (some 2) (.t 14) (.t 82)⟩, ⟨some 15, none, .mv (.t 83)⟩] [6, 7, 9, 12, 14, 15]) (.seq (.seq
    (.region none [ ⟨some 84, none, .ld (some 2) (.t 14)⟩, ⟨some 85, none, .ld (some 2) (.t 6)⟩, ⟨some 86, none, .call (.f 18) [((.t 84), .r), ((.t 85), .r)]⟩, ⟨some 87, none, .un .not (.t 86)⟩, ⟨some 88, none, .mv (.t 87)⟩, ⟨some 89, (some (88, false)), .mv (.t 15)⟩, ⟨some 90, (some (88, false)), .mv (.t 7)⟩, ⟨some 91, (some (88, false)), .bin .neq (.t 89) (.t 90)⟩, ⟨some 92, none, .pick (.t 88) (.c (.bool true)) (.t 91)⟩] [9, 12, 92]) (.cond (.t 92) (.seq
    (.region none [ ⟨some 4, none, .mv (.c (.bool false))⟩] [4]) .ret) .skip)) (.seq
    (.region none [ ⟨some 13, none, .mv (.c (.int .i64 1))⟩] [9, 12, 13]) (.seq
    (.region none [ ⟨some 93, none, .ld (some 2) (.t 9)⟩, ⟨some 94, none, .mv (.t 13)⟩, ⟨some 95, none, .call (.f 172) [((.t 93), .r), ((.t 94), .r)]⟩, ⟨some 13, none, .mv (.t 95)⟩] [12, 13]) (.seq (.seq
    (.region none [ ⟨some 96, none, .mv (.t 13)⟩, ⟨some 97, none, .bin .lss (.t 96) (.c (.int .i64 0))⟩] [12, 13, 97]) (.cond (.t 97) (.seq
    (.region none [ ⟨some 4, none, .mv (.c (.bool false))⟩] [4]) .ret) .skip)) (.seq (.seq
    (.region none [ ⟨some 98, none, .mv (.t 13)⟩, ⟨some 99, none, .mv (.t 12)⟩, ⟨some 100, none, .bin .neq (.t 98) (.t 99)⟩] [100]) (.cond (.t 100) (.seq
    (.region none [ ⟨some 4, none, .mv (.c (.bool false))⟩] [4]) .ret) .skip)) (.seq
    (.region none [ ⟨some 4, none, .mv (.c (.bool true))⟩] [4]) .ret)))))))))))))))))))))))))
def S_sh_pS (pg : Pg) (n : Nat) (R0 : List (List Int) → List (List Int) → Int → Option (List (List Int) × List (List Int))) (R1 : List (List Int) → List (List Int) → Int → Int) : Prop := ∀ (f0 s0 : List (List Int)) (p1 : Int), fits f0 → fits s0 → Call pg n [sol f0 s0, I p1] [sol f0 s0, I p1] (.tup [solT (R0 f0 s0 p1), I (R1 f0 s0 p1)])
def S_lw_pS (pg : Pg) (n : Nat) : Prop := ∀ (a0 b0 : Rw (Rw Int)) (p1 : Int), small a0 → small b0 → ∃ args', Call pg n [.agg [rawT a0, rawT b0], I p1] args' (B true)
set_option maxRecDepth 20000 in
theorem t_lw_pS {pg : Pg} {n a b : Nat} {R0 : List (List Int) → List (List Int) → Int → Option (List (List Int) × List (List Int))} {R1 : List (List Int) → List (List Int) → Int → Int} (hp : pg.fn n = some (lw_pS a b)) (hA : S_sh_pS pg a R0 R1) (hB : S_sh_pS pg b R0 R1) (hz0 : ∀ (f0 s0 : List (List Int)) (p1 : Int), fits f0 → fits s0 → ∀ X Y, R0 f0 s0 p1 = some (X, Y) → smallT X ∧ smallT Y) (h14 : S_szSol pg) (h16 : S_toSol pg) (h18 : S_eqSol pg) (h22 : S_markSol pg) (h22z : S_markSol0 pg) (h172 : S_heldSol pg) : S_lw_pS pg n := by
  intro a0 b0 p1 ha0 hb0
  refine ⟨[.agg [rawT a0, rawT b0], I p1], Call.intro hp rfl (by simp) ?_⟩
  obtain ⟨r, hr1, hr2, hsz⟩ := h14 a0 b0 1048576 ha0 hb0 (by omega) (by omega)
  have hto0 := h16 a0 b0 ha0 hb0
  have hfa0 := fitsT_of ha0
  have hfb0 := fitsT_of hb0
  generalize hF0 : (lst a0).map lst = F0 at *
  generalize hS0 : (lst b0).map lst = S0 at *
  have hc1 := hA F0 S0 p1 hfa0 hfb0
  have hc2 := hB F0 S0 p1 hfa0 hfb0
  have hsm0 := hz0 F0 S0 p1 hfa0 hfb0
  generalize R0 F0 S0 p1 = o0 at *
  generalize R1 F0 S0 p1 = o1 at *
  have hk0a := kAt_le (k := (1 : Int)) hfa0 F0.length (Nat.le_refl _)
  have hk0b := kAt_le (k := (kAt (1 : Int) F0 F0.length)) hfb0 S0.length (Nat.le_refl _)
  have hfl0 := hfa0.1
  have hsl0 := hfb0.1
  have hkN : ¬ (kAt (kAt (1 : Int) F0 F0.length) S0 S0.length) < 0 := by omega
  show wp _ _ (lw_pS a b).body (post [.t 4] _ _ _) _
  simp [lw_pS]
  refine callR hsz rfl rfl (fun _ => rfl) ?_
  by_cases hneg : r < 0
  · simp [hneg]
  · simp [hneg]
    cases o0 with
    | some P0 =>
      obtain ⟨X0, Y0⟩ := P0
      simp only [solT] at *
      obtain ⟨hx0, hy0⟩ := hsm0 _ _ rfl
      have hm0 := kAt_le (k := (1 : Int)) hx0 X0.length (Nat.le_refl _)
      have hl0 := hx0.1
      have hm0b := kAt_le (k := (kAt (1 : Int) X0 X0.length)) hy0 Y0.length (Nat.le_refl _)
      have hl0b := hy0.1
      have hn0 : ¬ (kAt (kAt (1 : Int) X0 X0.length) Y0 Y0.length) < 0 := by omega
      refine callR hto0 rfl rfl (fun _ => by simp) ?_
      simp
      refine callR hc1 rfl rfl (fun _ => by simp) ?_
      simp
      refine callR hto0 rfl rfl (fun _ => by simp) ?_
      simp
      refine callR hc2 rfl rfl (fun _ => by simp) ?_
      simp
      refine callR (h18.oo (some (X0, Y0)) hsm0) rfl rfl (fun _ => rfl) ?_
      simp
      refine callR hto0 rfl rfl (fun _ => by simp) ?_
      simp
      refine callR (h18.o F0 S0 F0 S0 hfa0 hfb0) rfl rfl (fun _ => rfl) ?_
      simp
      refine callM (ts' := [.agg [.mem .own (some 1) (rows (upT (1 : Int) F0)), .mem .own (some 1) (rows (upT (kAt (1 : Int) F0 F0.length) S0))], I (1 : Int)]) (r := I (kAt (kAt (1 : Int) F0 F0.length) S0 S0.length)) ?_ ?_ ?_ ?_
      · simp
      · simpa using h22 F0 S0 (1 : Int) hfa0 hfb0 (by omega) (by omega)
      · simp
      simp [hkN]
      refine callR (h18.oo (some (X0, Y0)) hsm0) rfl rfl (fun _ => rfl) ?_
      simp
      refine callM (ts' := [.agg [.mem .own (some 1) (rows (upT (1 : Int) X0)), .mem .own (some 1) (rows (upT (kAt (1 : Int) X0 X0.length) Y0))], I (1 : Int)]) (r := I (kAt (kAt (1 : Int) X0 X0.length) Y0 Y0.length)) ?_ ?_ ?_ ?_
      · simp
      · simpa using h22 X0 Y0 (1 : Int) hx0 hy0 (by omega) (by omega)
      · simp
      simp
      refine callR (h172.at X0 Y0 (1 : Int) hx0 hy0 (by omega) (by omega)) rfl rfl (fun _ => rfl) ?_
      simp [hn0]
      refine callR hto0 rfl rfl (fun _ => by simp) ?_
      simp
      refine callR hc2 rfl rfl (fun _ => by simp) ?_
      simp
      refine callR (h18.oo (some (X0, Y0)) hsm0) rfl rfl (fun _ => rfl) ?_
      simp
      refine callR (h172.at X0 Y0 (1 : Int) hx0 hy0 (by omega) (by omega)) rfl rfl (fun _ => rfl) ?_
      simp [hn0]
    | none =>
      simp only [solT] at *
      refine callR hto0 rfl rfl (fun _ => by simp) ?_
      simp
      refine callR hc1 rfl rfl (fun _ => by simp) ?_
      simp
      refine callR hto0 rfl rfl (fun _ => by simp) ?_
      simp
      refine callR hc2 rfl rfl (fun _ => by simp) ?_
      simp
      refine callR (h18.oo none hsm0) rfl rfl (fun _ => rfl) ?_
      simp
      refine callR hto0 rfl rfl (fun _ => by simp) ?_
      simp
      refine callR (h18.o F0 S0 F0 S0 hfa0 hfb0) rfl rfl (fun _ => rfl) ?_
      simp
      refine callM (ts' := [.agg [.mem .own (some 1) (rows (upT (1 : Int) F0)), .mem .own (some 1) (rows (upT (kAt (1 : Int) F0 F0.length) S0))], I (1 : Int)]) (r := I (kAt (kAt (1 : Int) F0 F0.length) S0 S0.length)) ?_ ?_ ?_ ?_
      · simp
      · simpa using h22 F0 S0 (1 : Int) hfa0 hfb0 (by omega) (by omega)
      · simp
      simp [hkN]
      refine callR (h18.oo none hsm0) rfl rfl (fun _ => rfl) ?_
      simp
      refine callM (ts' := [.agg [nil, nil], I (1 : Int)]) (r := I (1 : Int)) ?_ ?_ ?_ ?_
      · simp
      · simpa using h22z (1 : Int) (by omega) (by omega)
      · simp
      simp
      refine callR (h172.at0 (1 : Int) (by omega) (by omega)) rfl rfl (fun _ => rfl) ?_
      simp
      refine callR hto0 rfl rfl (fun _ => by simp) ?_
      simp
      refine callR hc2 rfl rfl (fun _ => by simp) ?_
      simp
      refine callR (h18.oo none hsm0) rfl rfl (fun _ => rfl) ?_
      simp
      refine callR (h172.at0 (1 : Int) (by omega) (by omega)) rfl rfl (fun _ => rfl) ?_
      simp
end Go.Mch
/- The runs of the exact laws, by their shapes: sol,ints-ints,int. -/
namespace Go.Mch
/-- The laws of this shape: sol, ints to ints, int. -/
def lw_wI (a b : Nat) : F where
  np := 2
  rs := [.t 4]
  body :=
    (.seq
    (.region none [ ⟨some 2, none, .box (.t 0)⟩, ⟨some 4, none, .mv (.c (.bool false))⟩] [1, 2]) (.seq (.seq
    (.region none [ ⟨some 17, none, .mv (.t 1)⟩, ⟨some 18, none, .len (.t 17)⟩, ⟨some 19, none, .bin .gtr (.t 18) (.c (.int .i64 1048576))⟩] [1, 2, 19]) (.cond (.t 19) (.seq
    (.region none [ ⟨some 4, none, .mv (.c (.bool true))⟩] [4]) .ret) .skip)) (.seq
    (.region none [ ⟨some 5, none, .mv (.c (.int .i64 1048576))⟩] [1, 2, 5]) (.seq
    (.region none [ ⟨some 20, none, .ld (some 2) (.t 2)⟩, ⟨some 21, none, .mv (.t 5)⟩, ⟨some 22, none, .call (.f 14) [((.t 20), .r), ((.t 21), .r)]⟩, ⟨some 5, none, .mv (.t 22)⟩] [1, 2, 5]) (.seq (.seq
    (.region none [ ⟨some 23, none, .mv (.t 5)⟩, ⟨some 24, none, .bin .lss (.t 23) (.c (.int .i64 0))⟩] [1, 2, 24]) (.cond (.t 24) (.seq
    (.region none [ ⟨some 4, none, .mv (.c (.bool true))⟩] [4]) .ret) .skip)) (.seq
    (.region none [ ⟨some 26, none, .ld (some 2) (.t 2)⟩, ⟨some 27, none, .call (.f 16) [((.t 26), .r)]⟩, ⟨some 28, none, .mv (.t 1)⟩, ⟨some 29, none, .call (.f 7) [((.t 28), .r)]⟩, ⟨some 30, none, .call (.f a) [((.t 27), .r), ((.t 29), .r)]⟩, ⟨some 25, none, .mv (.t 30)⟩, ⟨some 31, none, .ext (.t 25) 0⟩, ⟨some 32, none, .ext (.t 25) 1⟩, ⟨some 6, none, .asg (.t 31)⟩, ⟨some 7, none, .mv (.t 32)⟩] [1, 2, 6, 7]) (.seq
    (.region none [ ⟨some 33, none, .ld (some 2) (.t 2)⟩, ⟨some 34, none, .call (.f 16) [((.t 33), .r)]⟩, ⟨some 8, none, .alloc [(.slice none 0 0), (.slice none 0 0)]⟩, ⟨none, none, .st (some 2) (.t 8) (.t 34)⟩] [1, 2, 6, 7, 8]) (.seq
    (.region none [ ⟨some 35, none, .mv (.t 1)⟩, ⟨some 36, none, .call (.f 7) [((.t 35), .r)]⟩, ⟨some 9, none, .asg (.t 36)⟩] [1, 2, 6, 7, 8, 9]) (.seq
    (.region none [ ⟨some 38, none, .ld (some 2) (.t 8)⟩, ⟨some 39, none, .mv (.t 9)⟩, ⟨some 40, none, .call (.f b) [((.t 38), .r), ((.t 39), .r)]⟩, ⟨some 37, none, .mv (.t 40)⟩, ⟨some 41, none, .ext (.t 37) 0⟩, ⟨some 42, none, .ext (.t 37) 1⟩, ⟨some 10, none, .asg (.t 41)⟩, ⟨some 11, none, .mv (.t 42)⟩] [1, 2, 6, 7, 8, 9, 10, 11]) (.seq (.seq
    (.region none [ ⟨some 43, none, .mv (.t 10)⟩, ⟨some 44, none, .mv (.t 6)⟩, ⟨some 45, none, .call (.f 9) [((.t 43), .r), ((.t 44), .r)]⟩, ⟨some 46, none, .un .not (.t 45)⟩, ⟨some 47, none, .mv (.t 46)⟩, ⟨some 48, (some (47, false)), .mv (.t 11)⟩, ⟨some 49, (some (47, false)), .mv (.t 7)⟩, ⟨some 50, (some (47, false)), .bin .neq (.t 48) (.t 49)⟩, ⟨some 51, none, .pick (.t 47) (.c (.bool true)) (.t 50)⟩] [1, 2, 6, 7, 8, 9, 10, 11, 51]) (.cond (.t 51) (.seq
    (.region none [ ⟨some 4, none, .mv (.c (.bool false))⟩] [4]) .ret) .skip)) (.seq (.seq
    (.region (some [52, 53, 54]) [ ⟨some 52, none, .ld (some 2) (.t 8)⟩, ⟨some 53, none, .ld (some 2) (.t 2)⟩, ⟨some 54, none, .call (.f 16) [((.t 53), .r)]⟩, ⟨some 55, none, .call (.f 18) [((.t 52), .r), ((.t 54), .r)]⟩, ⟨some 56, none, .un .not (.t 55)⟩] [1, 2, 6, 7, 8, 9, 10, 11, 56]) (.cond (.t 56) (.seq
    (.region none [ ⟨some 4, none, .mv (.c (.bool false))⟩] [4]) .ret) .skip)) (.seq (.seq
    (.region none [ ⟨some 57, none, .mv (.t 9)⟩, ⟨some 58, none, .mv (.t 1)⟩, ⟨some 59, none, .call (.f 7) [((.t 58), .r)]⟩, ⟨some 60, none, .call (.f 9) [((.t 57), .r), ((.t 59), .r)]⟩, ⟨some 61, none, .un .not (.t 60)⟩] [1, 2, 6, 7, 8, 9, 10, 11, 61]) (.cond (.t 61) (.seq
    (.region none [ ⟨some 4, none, .mv (.c (.bool false))⟩] [4]) .ret) .skip)) (.seq
    (.region none [ ⟨some 12, none, .mv (.c (.int .i64 1))⟩] [1, 2, 6, 7, 8, 9, 10, 11, 12]) (.seq
    (.region none [ ⟨some 62, none, .ld (some 2) (.t 8)⟩, ⟨some 63, none, .mv (.t 12)⟩, ⟨some 64, none, .callm (.f 22) [((.t 62), true), ((.t 63), false)] []⟩, ⟨some 12, none, .mv (.t 64)⟩] [1, 2, 6, 7, 9, 10, 11, 12]) (.seq
    (.region none [ ⟨some 65, none, .mv (.t 9)⟩, ⟨some 66, none, .mv (.t 12)⟩, ⟨some 67, none, .callm (.f 12) [((.t 65), true), ((.t 66), false)] []⟩, ⟨some 12, none, .mv (.t 67)⟩] [1, 2, 6, 7, 10, 11, 12]) (.seq (.seq
    (.region none [ ⟨some 68, none, .mv (.t 12)⟩, ⟨some 69, none, .bin .lss (.t 68) (.c (.int .i64 0))⟩, ⟨some 70, none, .mv (.t 69)⟩, ⟨some 71, (some (70, false)), .mv (.t 10)⟩, ⟨some 72, (some (70, false)), .mv (.t 6)⟩, ⟨some 73, (some (70, false)), .call (.f 9) [((.t 71), .r), ((.t 72), .r)]⟩, ⟨some 74, (some (70, false)), .un .not (.t 73)⟩, ⟨some 75, none, .pick (.t 70) (.c (.bool true)) (.t 74)⟩, ⟨some 76, none, .mv (.t 75)⟩, ⟨some 77, (some (76, false)), .mv (.t 11)⟩, ⟨some 78, (some (76, false)), .mv (.t 7)⟩, ⟨some 79, (some (76, false)), .bin .neq (.t 77) (.t 78)⟩, ⟨some 80, none, .pick (.t 76) (.c (.bool true)) (.t 79)⟩] [1, 2, 6, 7, 10, 80]) (.cond (.t 80) (.seq
    (.region none [ ⟨some 4, none, .mv (.c (.bool false))⟩] [4]) .ret) .skip)) (.seq
    (.region none [ ⟨some 13, none, .mv (.c (.int .i64 1))⟩] [1, 2, 6, 7, 10, 13]) (.seq
    (.region none [ ⟨some 81, none, .mv (.t 10)⟩, ⟨some 82, none, .mv (.t 13)⟩, ⟨some 83, none, .callm (.f 12) [((.t 81), true), ((.t 82), false)] []⟩, ⟨some 13, none, .mv (.t 83)⟩] [1, 2, 6, 7, 10, 13]) (.seq
    (.region none [ ⟨some 14, none, .mv (.c (.int .i64 1))⟩] [1, 2, 6, 7, 10, 13, 14]) (.seq
    (.region none [ ⟨some 84, none, .mv (.t 10)⟩, ⟨some 85, none, .mv (.t 14)⟩, ⟨some 86, none, .call (.f 13) [((.t 84), .r), ((.t 85), .r)]⟩, ⟨some 14, none, .mv (.t 86)⟩] [1, 2, 6, 7, 10, 13, 14]) (.seq (.seq
    (.region none [ ⟨some 87, none, .mv (.t 14)⟩, ⟨some 88, none, .bin .lss (.t 87) (.c (.int .i64 0))⟩] [1, 2, 6, 7, 10, 13, 14, 88]) (.cond (.t 88) (.seq
    (.region none [ ⟨some 4, none, .mv (.c (.bool false))⟩] [4]) .ret) .skip)) (.seq (.seq
    (.region none [ ⟨some 89, none, .mv (.t 14)⟩, ⟨some 90, none, .mv (.t 13)⟩, ⟨some 91, none, .bin .neq (.t 89) (.t 90)⟩] [1, 2, 6, 7, 10, 13, 91]) (.cond (.t 91) (.seq
    (.region none [ ⟨some 4, none, .mv (.c (.bool false))⟩] [4]) .ret) .skip)) (.seq
    (.region none [ ⟨some 93, none, .ld (some 2) (.t 2)⟩, ⟨some 94, none, .call (.f 16) [((.t 93), .r)]⟩, ⟨some 95, none, .mv (.t 1)⟩, ⟨some 96, none, .call (.f 7) [((.t 95), .r)]⟩, ⟨some 97, none, .call (.f b) [((.t 94), .r), ((.t 96), .r)]⟩, ⟨some 92, none, .mv (.t 97)⟩, ⟨some 98, none, .ext (.t 92) 0⟩, ⟨some 99, none, .ext (.t 92) 1⟩, ⟨some 15, none, .asg (.t 98)⟩, ⟨some 16, none, .mv (.t 99)⟩] [6, 7, 10, 13, 15, 16]) (.seq (.seq
    (.region none [ ⟨some 100, none, .mv (.t 15)⟩, ⟨some 101, none, .mv (.t 6)⟩, ⟨some 102, none, .call (.f 9) [((.t 100), .r), ((.t 101), .r)]⟩, ⟨some 103, none, .un .not (.t 102)⟩, ⟨some 104, none, .mv (.t 103)⟩, ⟨some 105, (some (104, false)), .mv (.t 16)⟩, ⟨some 106, (some (104, false)), .mv (.t 7)⟩, ⟨some 107, (some (104, false)), .bin .neq (.t 105) (.t 106)⟩, ⟨some 108, none, .pick (.t 104) (.c (.bool true)) (.t 107)⟩] [10, 13, 108]) (.cond (.t 108) (.seq
    (.region none [ ⟨some 4, none, .mv (.c (.bool false))⟩] [4]) .ret) .skip)) (.seq
    (.region none [ ⟨some 14, none, .mv (.c (.int .i64 1))⟩] [10, 13, 14]) (.seq
    (.region none [ ⟨some 109, none, .mv (.t 10)⟩, ⟨some 110, none, .mv (.t 14)⟩, ⟨some 111, none, .call (.f 13) [((.t 109), .r), ((.t 110), .r)]⟩, ⟨some 14, none, .mv (.t 111)⟩] [13, 14]) (.seq (.seq
    (.region none [ ⟨some 112, none, .mv (.t 14)⟩, ⟨some 113, none, .bin .lss (.t 112) (.c (.int .i64 0))⟩] [13, 14, 113]) (.cond (.t 113) (.seq
    (.region none [ ⟨some 4, none, .mv (.c (.bool false))⟩] [4]) .ret) .skip)) (.seq (.seq
    (.region none [ ⟨some 114, none, .mv (.t 14)⟩, ⟨some 115, none, .mv (.t 13)⟩, ⟨some 116, none, .bin .neq (.t 114) (.t 115)⟩] [116]) (.cond (.t 116) (.seq
    (.region none [ ⟨some 4, none, .mv (.c (.bool false))⟩] [4]) .ret) .skip)) (.seq
    (.region none [ ⟨some 4, none, .mv (.c (.bool true))⟩] [4]) .ret)))))))))))))))))))))))))))))
def S_sh_wI (pg : Pg) (n : Nat) (R0 : List (List Int) → List (List Int) → List Int → List Int) (R1 : List (List Int) → List (List Int) → List Int → Int) : Prop := ∀ (f0 s0 : List (List Int)) (w1 : List Int), fits f0 → fits s0 → w1.length ≤ 1048576 → ∃ o0, lso o0 = R0 f0 s0 w1 ∧ Call pg n [sol f0 s0, ix w1] [sol f0 s0, ix w1] (.tup [ownI o0, I (R1 f0 s0 w1)])
def S_lw_wI (pg : Pg) (n : Nat) : Prop := ∀ (a0 b0 : Rw (Rw Int)) (c1 : Rw Int), small a0 → small b0 → (lst c1).length ≤ 1048576 → ∃ args', Call pg n [.agg [rawT a0, rawT b0], rawI c1] args' (B true)
set_option maxRecDepth 20000 in
theorem t_lw_wI {pg : Pg} {n a b : Nat} {R0 : List (List Int) → List (List Int) → List Int → List Int} {R1 : List (List Int) → List (List Int) → List Int → Int} (hp : pg.fn n = some (lw_wI a b)) (hA : S_sh_wI pg a R0 R1) (hB : S_sh_wI pg b R0 R1) (hz0 : ∀ (f0 s0 : List (List Int)) (w1 : List Int), fits f0 → fits s0 → w1.length ≤ 1048576 → (R0 f0 s0 w1).length ≤ 1048576) (h14 : S_szSol pg) (h16 : S_toSol pg) (h18 : S_eqSol pg) (h7 : S_toI pg) (h9 : S_eqI pg) (h22 : S_markSol pg) (h12 : S_markI pg) (h13 : S_heldI pg) : S_lw_wI pg n := by
  intro a0 b0 c1 ha0 hb0 hl1
  refine ⟨[.agg [rawT a0, rawT b0], rawI c1], Call.intro hp rfl (by simp) ?_⟩
  obtain ⟨r, hr1, hr2, hsz⟩ := h14 a0 b0 1048576 ha0 hb0 (by omega) (by omega)
  have hto0 := h16 a0 b0 ha0 hb0
  have hfa0 := fitsT_of ha0
  have hfb0 := fitsT_of hb0
  generalize hF0 : (lst a0).map lst = F0 at *
  generalize hS0 : (lst b0).map lst = S0 at *
  have hto1 := h7.at c1 hl1
  have hcl1 : ¬ ((lst c1).length : Int) > 1048576 := by omega
  generalize hwe1 : lst c1 = w1 at *
  have hw1 : w1.length ≤ 1048576 := hl1
  obtain ⟨o0, e0, hc1⟩ := hA F0 S0 w1 hfa0 hfb0 hw1
  obtain ⟨q0, g0, hc2⟩ := hB F0 S0 w1 hfa0 hfb0 hw1
  have hsm0 := hz0 F0 S0 w1 hfa0 hfb0 hw1
  rw [← g0] at hsm0
  have heq0 := g0.trans e0.symm
  clear e0 g0
  generalize R1 F0 S0 w1 = o1 at *
  have hk0a := kAt_le (k := (1 : Int)) hfa0 F0.length (Nat.le_refl _)
  have hk0b := kAt_le (k := (kAt (1 : Int) F0 F0.length)) hfb0 S0.length (Nat.le_refl _)
  have hfl0 := hfa0.1
  have hsl0 := hfb0.1
  have hkN : ¬ ((kAt (kAt (1 : Int) F0 F0.length) S0 S0.length) + w1.length) < 0 := by omega
  show wp _ _ (lw_wI a b).body (post [.t 4] _ _ _) _
  simp [lw_wI, hcl1, hwe1]
  refine callR hsz rfl rfl (fun _ => rfl) ?_
  by_cases hneg : r < 0
  · simp [hneg]
  · simp [hneg]
    cases o0 with
    | some X0 =>
      cases q0 with
      | some Y0 =>
        simp only [ownI, lso_some] at *
        subst heq0
        have hm0 : Y0.length ≤ 1048576 := hsm0
        have hn0 : ¬ ((1 : Int) + Y0.length) < 0 := by omega
        refine callR hto0 rfl rfl (fun _ => by simp) ?_
        simp
        refine callR hto1 rfl rfl (fun _ => by simp) ?_
        simp
        refine callR hc1 rfl rfl (fun _ => by simp) ?_
        simp
        refine callR hto0 rfl rfl (fun _ => by simp) ?_
        simp
        refine callR hto1 rfl rfl (fun _ => by simp) ?_
        simp
        refine callR hc2 rfl rfl (fun _ => by simp) ?_
        simp
        refine callR (h9.o (some Y0) (some Y0) hsm0) rfl rfl (fun _ => rfl) ?_
        simp
        refine callR hto0 rfl rfl (fun _ => by simp) ?_
        simp
        refine callR (h18.o F0 S0 F0 S0 hfa0 hfb0) rfl rfl (fun _ => rfl) ?_
        simp
        refine callR hto1 rfl rfl (fun _ => by simp) ?_
        simp
        refine callR (h9.o (some w1) (some w1) hw1) rfl rfl (fun _ => rfl) ?_
        simp
        refine callM (ts' := [.agg [.mem .own (some 1) (rows (upT (1 : Int) F0)), .mem .own (some 1) (rows (upT (kAt (1 : Int) F0 F0.length) S0))], I (1 : Int)]) (r := I (kAt (kAt (1 : Int) F0 F0.length) S0 S0.length)) ?_ ?_ ?_ ?_
        · simp
        · simpa using h22 F0 S0 (1 : Int) hfa0 hfb0 (by omega) (by omega)
        · simp
        simp
        refine callM (ts' := [.mem .own (some 1) ((up (kAt (kAt (1 : Int) F0 F0.length) S0 S0.length) w1.length).map I), I (kAt (kAt (1 : Int) F0 F0.length) S0 S0.length)]) (r := I ((kAt (kAt (1 : Int) F0 F0.length) S0 S0.length) + w1.length)) ?_ ?_ ?_ ?_
        · simp
        · simpa using h12.at w1 (kAt (kAt (1 : Int) F0 F0.length) S0 S0.length) hw1 (by omega) (by omega)
        · simp
        simp [hkN]
        refine callR (h9.o (some Y0) (some Y0) hsm0) rfl rfl (fun _ => rfl) ?_
        simp
        refine callM (ts' := [.mem .own (some 1) ((up (1 : Int) Y0.length).map I), I (1 : Int)]) (r := I ((1 : Int) + Y0.length)) ?_ ?_ ?_ ?_
        · simp
        · simpa using h12.at Y0 (1 : Int) hm0 (by omega) (by omega)
        · simp
        simp
        refine callR (h13.o (some (up (1 : Int) Y0.length)) (1 : Int) (by simpa using hm0) (by omega) (by omega)) rfl rfl (fun _ => rfl) ?_
        simp [held_up, hn0]
        refine callR hto0 rfl rfl (fun _ => by simp) ?_
        simp
        refine callR hto1 rfl rfl (fun _ => by simp) ?_
        simp
        refine callR hc2 rfl rfl (fun _ => by simp) ?_
        simp
        refine callR (h9.o (some Y0) (some Y0) hsm0) rfl rfl (fun _ => rfl) ?_
        simp
        refine callR (h13.o (some (up (1 : Int) Y0.length)) (1 : Int) (by simpa using hm0) (by omega) (by omega)) rfl rfl (fun _ => rfl) ?_
        simp [held_up, hn0]
      | none =>
        simp only [ownI, lso_some, lso_none] at *
        subst heq0
        refine callR hto0 rfl rfl (fun _ => by simp) ?_
        simp
        refine callR hto1 rfl rfl (fun _ => by simp) ?_
        simp
        refine callR hc1 rfl rfl (fun _ => by simp) ?_
        simp
        refine callR hto0 rfl rfl (fun _ => by simp) ?_
        simp
        refine callR hto1 rfl rfl (fun _ => by simp) ?_
        simp
        refine callR hc2 rfl rfl (fun _ => by simp) ?_
        simp
        refine callR (h9.o none (some []) hsm0) rfl rfl (fun _ => rfl) ?_
        simp
        refine callR hto0 rfl rfl (fun _ => by simp) ?_
        simp
        refine callR (h18.o F0 S0 F0 S0 hfa0 hfb0) rfl rfl (fun _ => rfl) ?_
        simp
        refine callR hto1 rfl rfl (fun _ => by simp) ?_
        simp
        refine callR (h9.o (some w1) (some w1) hw1) rfl rfl (fun _ => rfl) ?_
        simp
        refine callM (ts' := [.agg [.mem .own (some 1) (rows (upT (1 : Int) F0)), .mem .own (some 1) (rows (upT (kAt (1 : Int) F0 F0.length) S0))], I (1 : Int)]) (r := I (kAt (kAt (1 : Int) F0 F0.length) S0 S0.length)) ?_ ?_ ?_ ?_
        · simp
        · simpa using h22 F0 S0 (1 : Int) hfa0 hfb0 (by omega) (by omega)
        · simp
        simp
        refine callM (ts' := [.mem .own (some 1) ((up (kAt (kAt (1 : Int) F0 F0.length) S0 S0.length) w1.length).map I), I (kAt (kAt (1 : Int) F0 F0.length) S0 S0.length)]) (r := I ((kAt (kAt (1 : Int) F0 F0.length) S0 S0.length) + w1.length)) ?_ ?_ ?_ ?_
        · simp
        · simpa using h12.at w1 (kAt (kAt (1 : Int) F0 F0.length) S0 S0.length) hw1 (by omega) (by omega)
        · simp
        simp [hkN]
        refine callR (h9.o none (some []) hsm0) rfl rfl (fun _ => rfl) ?_
        simp
        refine callM (ts' := [nil, I (1 : Int)]) (r := I (1 : Int)) ?_ ?_ ?_ ?_
        · simp
        · simpa using h12.at0 (1 : Int) (by omega) (by omega)
        · simp
        simp
        refine callR (h13.o none (1 : Int) hsm0 (by omega) (by omega)) rfl rfl (fun _ => rfl) ?_
        simp [held]
        refine callR hto0 rfl rfl (fun _ => by simp) ?_
        simp
        refine callR hto1 rfl rfl (fun _ => by simp) ?_
        simp
        refine callR hc2 rfl rfl (fun _ => by simp) ?_
        simp
        refine callR (h9.o none (some []) hsm0) rfl rfl (fun _ => rfl) ?_
        simp
        refine callR (h13.o none (1 : Int) hsm0 (by omega) (by omega)) rfl rfl (fun _ => rfl) ?_
        simp [held]
    | none =>
      cases q0 with
      | some Y0 =>
        simp only [ownI, lso_some, lso_none] at *
        subst heq0
        refine callR hto0 rfl rfl (fun _ => by simp) ?_
        simp
        refine callR hto1 rfl rfl (fun _ => by simp) ?_
        simp
        refine callR hc1 rfl rfl (fun _ => by simp) ?_
        simp
        refine callR hto0 rfl rfl (fun _ => by simp) ?_
        simp
        refine callR hto1 rfl rfl (fun _ => by simp) ?_
        simp
        refine callR hc2 rfl rfl (fun _ => by simp) ?_
        simp
        refine callR (h9.o (some ([] : List Int)) none hsm0) rfl rfl (fun _ => rfl) ?_
        simp
        refine callR hto0 rfl rfl (fun _ => by simp) ?_
        simp
        refine callR (h18.o F0 S0 F0 S0 hfa0 hfb0) rfl rfl (fun _ => rfl) ?_
        simp
        refine callR hto1 rfl rfl (fun _ => by simp) ?_
        simp
        refine callR (h9.o (some w1) (some w1) hw1) rfl rfl (fun _ => rfl) ?_
        simp
        refine callM (ts' := [.agg [.mem .own (some 1) (rows (upT (1 : Int) F0)), .mem .own (some 1) (rows (upT (kAt (1 : Int) F0 F0.length) S0))], I (1 : Int)]) (r := I (kAt (kAt (1 : Int) F0 F0.length) S0 S0.length)) ?_ ?_ ?_ ?_
        · simp
        · simpa using h22 F0 S0 (1 : Int) hfa0 hfb0 (by omega) (by omega)
        · simp
        simp
        refine callM (ts' := [.mem .own (some 1) ((up (kAt (kAt (1 : Int) F0 F0.length) S0 S0.length) w1.length).map I), I (kAt (kAt (1 : Int) F0 F0.length) S0 S0.length)]) (r := I ((kAt (kAt (1 : Int) F0 F0.length) S0 S0.length) + w1.length)) ?_ ?_ ?_ ?_
        · simp
        · simpa using h12.at w1 (kAt (kAt (1 : Int) F0 F0.length) S0 S0.length) hw1 (by omega) (by omega)
        · simp
        simp [hkN]
        refine callR (h9.o (some ([] : List Int)) none hsm0) rfl rfl (fun _ => rfl) ?_
        simp
        refine callM (ts' := [.mem .own (some 1) [], I (1 : Int)]) (r := I (1 : Int)) ?_ ?_ ?_ ?_
        · simp
        · simpa [up] using h12.at ([] : List Int) (1 : Int) (by simp) (by omega) (by omega)
        · simp
        simp
        refine callR (h13.o (some []) (1 : Int) (by simp) (by omega) (by omega)) rfl rfl (fun _ => rfl) ?_
        simp [held]
        refine callR hto0 rfl rfl (fun _ => by simp) ?_
        simp
        refine callR hto1 rfl rfl (fun _ => by simp) ?_
        simp
        refine callR hc2 rfl rfl (fun _ => by simp) ?_
        simp
        refine callR (h9.o (some ([] : List Int)) none hsm0) rfl rfl (fun _ => rfl) ?_
        simp
        refine callR (h13.o (some []) (1 : Int) (by simp) (by omega) (by omega)) rfl rfl (fun _ => rfl) ?_
        simp [held]
      | none =>
        simp only [ownI, lso_none] at *
        refine callR hto0 rfl rfl (fun _ => by simp) ?_
        simp
        refine callR hto1 rfl rfl (fun _ => by simp) ?_
        simp
        refine callR hc1 rfl rfl (fun _ => by simp) ?_
        simp
        refine callR hto0 rfl rfl (fun _ => by simp) ?_
        simp
        refine callR hto1 rfl rfl (fun _ => by simp) ?_
        simp
        refine callR hc2 rfl rfl (fun _ => by simp) ?_
        simp
        refine callR (h9.o none none hsm0) rfl rfl (fun _ => rfl) ?_
        simp
        refine callR hto0 rfl rfl (fun _ => by simp) ?_
        simp
        refine callR (h18.o F0 S0 F0 S0 hfa0 hfb0) rfl rfl (fun _ => rfl) ?_
        simp
        refine callR hto1 rfl rfl (fun _ => by simp) ?_
        simp
        refine callR (h9.o (some w1) (some w1) hw1) rfl rfl (fun _ => rfl) ?_
        simp
        refine callM (ts' := [.agg [.mem .own (some 1) (rows (upT (1 : Int) F0)), .mem .own (some 1) (rows (upT (kAt (1 : Int) F0 F0.length) S0))], I (1 : Int)]) (r := I (kAt (kAt (1 : Int) F0 F0.length) S0 S0.length)) ?_ ?_ ?_ ?_
        · simp
        · simpa using h22 F0 S0 (1 : Int) hfa0 hfb0 (by omega) (by omega)
        · simp
        simp
        refine callM (ts' := [.mem .own (some 1) ((up (kAt (kAt (1 : Int) F0 F0.length) S0 S0.length) w1.length).map I), I (kAt (kAt (1 : Int) F0 F0.length) S0 S0.length)]) (r := I ((kAt (kAt (1 : Int) F0 F0.length) S0 S0.length) + w1.length)) ?_ ?_ ?_ ?_
        · simp
        · simpa using h12.at w1 (kAt (kAt (1 : Int) F0 F0.length) S0 S0.length) hw1 (by omega) (by omega)
        · simp
        simp [hkN]
        refine callR (h9.o none none hsm0) rfl rfl (fun _ => rfl) ?_
        simp
        refine callM (ts' := [nil, I (1 : Int)]) (r := I (1 : Int)) ?_ ?_ ?_ ?_
        · simp
        · simpa using h12.at0 (1 : Int) (by omega) (by omega)
        · simp
        simp
        refine callR (h13.o none (1 : Int) hsm0 (by omega) (by omega)) rfl rfl (fun _ => rfl) ?_
        simp [held]
        refine callR hto0 rfl rfl (fun _ => by simp) ?_
        simp
        refine callR hto1 rfl rfl (fun _ => by simp) ?_
        simp
        refine callR hc2 rfl rfl (fun _ => by simp) ?_
        simp
        refine callR (h9.o none none hsm0) rfl rfl (fun _ => rfl) ?_
        simp
        refine callR (h13.o none (1 : Int) hsm0 (by omega) (by omega)) rfl rfl (fun _ => rfl) ?_
        simp [held]
end Go.Mch
/- What the first laws of solutions return is small. -/
namespace Go.Mch
theorem lam_small (f s : List (List Int)) (hf : fits f) (_ : fits s) : smallT (onReg [] (fun f _ => f) f s) := by
  unfold onReg
  split
  · exact hf
  · simp [smallT]
theorem rho_small (f s : List (List Int)) (_ : fits f) (hs : fits s) : smallT (onReg [] (fun _ s => turnL s) f s) := by
  unfold onReg
  split
  · exact ⟨by have := hs.1; simpa using this, fun r hr => by rw [tabL_row hr]; exact hs.1⟩
  · simp [smallT]
theorem gm_small (f s : List (List Int)) (w : List Int) (_ : fits f) (_ : fits s) (hw : w.length ≤ 1048576) : (gmR f s w).length ≤ 1048576 := by
  unfold gmR
  split
  · simpa [gmL] using hw
  · simp
theorem gb_small (f s : List (List Int)) (w : List Int) (_ : fits f) (_ : fits s) (hw : w.length ≤ 1048576) : (gbR f s w).length ≤ 1048576 := by
  unfold gbR
  split
  · simpa using hw
  · simp
theorem dr_small (f s : List (List Int)) (hf : fits f) (_ : fits s) : smallT (lso (drR f s)) := by
  unfold drR
  split
  · exact ⟨by have := hf.1; simpa using this, fun r hr => by have := tabL_row hr; have := hf.1; omega⟩
  · simp [smallT]
end Go.Mch
/- The runs of the laws of LambdaMaps, RhoMaps, IsAbelianLeft, GuitarMap, GuitarBack, DerivedRack. -/
namespace Go.Mch
def S_law75 (pg : Pg) : Prop := S_lw_T pg 75
theorem t_law75 {pg : Pg} (hp : pg.fn 75 = some (lw_T 144 135)) (h144 : S_lambda pg 144) (h135 : S_lambda pg 135) (h14 : S_szSol pg) (h16 : S_toSol pg) (h18 : S_eqSol pg) (h22 : S_markSol pg) (h21 : S_eqT pg) (h23 : S_markT pg) (h24 : S_heldT pg) : S_law75 pg := by
  exact t_lw_T (R0 := (onReg [] fun f _ => f)) (R1 := (onReg 1 fun _ _ => 0)) hp h144 h135 lam_small h14 h16 h18 h22 h21 h23 h24
def S_law72 (pg : Pg) : Prop := S_lw_T pg 72
theorem t_law72 {pg : Pg} (hp : pg.fn 72 = some (lw_T 126 127)) (h126 : S_rho pg 126) (h127 : S_rho pg 127) (h14 : S_szSol pg) (h16 : S_toSol pg) (h18 : S_eqSol pg) (h22 : S_markSol pg) (h21 : S_eqT pg) (h23 : S_markT pg) (h24 : S_heldT pg) : S_law72 pg := by
  exact t_lw_T (R0 := (onReg [] fun _ s => turnL s)) (R1 := (onReg 1 fun _ _ => 0)) hp h126 h127 rho_small h14 h16 h18 h22 h21 h23 h24
def S_law74 (pg : Pg) : Prop := S_lw_B pg 74
theorem t_law74 {pg : Pg} (hp : pg.fn 74 = some (lw_B 143 136)) (h143 : S_abel pg 143) (h136 : S_abel pg 136) (h14 : S_szSol pg) (h16 : S_toSol pg) (h18 : S_eqSol pg) : S_law74 pg := by
  exact t_lw_B (R0 := (onReg false fun f _ => decide (abel f))) (R1 := (onReg 1 fun _ _ => 0)) hp h143 h136  h14 h16 h18
def S_law76 (pg : Pg) : Prop := S_lw_wI pg 76
theorem t_law76 {pg : Pg} (hp : pg.fn 76 = some (lw_wI 145 146)) (h145 : S_gm pg 145) (h146 : S_gm pg 146) (h14 : S_szSol pg) (h16 : S_toSol pg) (h18 : S_eqSol pg) (h7 : S_toI pg) (h9 : S_eqI pg) (h22 : S_markSol pg) (h12 : S_markI pg) (h13 : S_heldI pg) : S_law76 pg := by
  exact t_lw_wI (R0 := gmR) (R1 := gC) hp h145 h146 gm_small h14 h16 h18 h7 h9 h22 h12 h13
def S_law78 (pg : Pg) : Prop := S_lw_wI pg 78
theorem t_law78 {pg : Pg} (hp : pg.fn 78 = some (lw_wI 150 151)) (h150 : S_gb pg 150) (h151 : S_gb pg 151) (h14 : S_szSol pg) (h16 : S_toSol pg) (h18 : S_eqSol pg) (h7 : S_toI pg) (h9 : S_eqI pg) (h22 : S_markSol pg) (h12 : S_markI pg) (h13 : S_heldI pg) : S_law78 pg := by
  exact t_lw_wI (R0 := gbR) (R1 := gC) hp h150 h151 gb_small h14 h16 h18 h7 h9 h22 h12 h13
def S_law77 (pg : Pg) : Prop := S_lw_K pg 77
theorem t_law77 {pg : Pg} (hp : pg.fn 77 = some (lw_K 147 148)) (h147 : S_dr pg 147) (h148 : S_dr pg 148) (h14 : S_szSol pg) (h16 : S_toSol pg) (h18 : S_eqSol pg) (h22 : S_markSol pg) (h11 : S_markRack pg) (h11z : S_markRack0 pg) (h149 : S_heldRack pg) (h10 : S_eqRack pg) : S_law77 pg := by
  exact t_lw_K (R0 := drR) (R1 := drC) hp h147 h148 dr_small h14 h16 h18 h22 h11 h11z h149 h10
end Go.Mch
