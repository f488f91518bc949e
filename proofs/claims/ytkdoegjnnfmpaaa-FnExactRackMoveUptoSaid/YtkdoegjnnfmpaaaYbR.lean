/- Calls: what a callee is handed, and what it hands back. -/
import Derived.Test.YtkdoegjnnfmpaaaYbQ
namespace Go.Mch

mutual
theorem ery_noOwn {k : K} (hk : k ≠ .own) : ∀ t : T, (t.ery k).noOwn = true
  | .sc _ => rfl
  | .gone => rfl
  | .nul => rfl
  | .fn f caps => by simpa [T.ery, T.noOwn] using eryL_noOwn hk caps
  | .mem k' s ts => by simp [T.ery, T.noOwn, hk, eryL_noOwn hk ts]
  | .agg ts => by simpa [T.ery, T.noOwn] using eryL_noOwn hk ts
  | .tup ts => by simpa [T.ery, T.noOwn] using eryL_noOwn hk ts
theorem eryL_noOwn {k : K} (hk : k ≠ .own) : ∀ ts : List T, T.noOwnL (T.eryL k ts) = true
  | [] => rfl
  | t :: ts => by simp [T.eryL, ery_noOwn hk t, eryL_noOwn hk ts]
end

theorem eryL_length {k : K} : ∀ ts : List T, (T.eryL k ts).length = ts.length
  | [] => rfl
  | t :: ts => by simp [T.eryL, eryL_length ts]

mutual
theorem rep_ery {fm : Nat → Nat} {ok ok' : K → Nat → Prop} {w : World} (hok : ∀ k b, k ≠ .own → ok k b → ok' .old b) :
    ∀ (t : T) (v : Value), (t.noOwn = true ∨ ∀ b, ok .own b → ok' .old b) → rep fm ok w v t → rep fm ok' w v (t.ery .old)
  | .sc _, _, _, h => h
  | .gone, _, _, _ => trivial
  | .nul, _, _, h => h
  | .fn f caps, v, _, h => by
    simp only [rep, T.ery] at h ⊢
    exact ⟨by rw [eryL_length]; exact h.1, eryL_noOwn (by decide) caps, repL_ery hok caps _ 0 (.inl h.2.1) h.2.2⟩
  | .agg ts, v, ho, h => by
    simp only [rep, T.ery, T.noOwn] at h ho ⊢
    exact ⟨by rw [eryL_length]; exact h.1, repL_ery hok ts _ 0 ho h.2⟩
  | .tup ts, v, ho, h => by
    simp only [rep, T.ery, T.noOwn] at h ho ⊢
    exact ⟨by rw [eryL_length]; exact h.1, repL_ery hok ts _ 0 ho h.2⟩
  | .mem k' s ts, v, ho, h => by
    simp only [T.ery]
    rw [rep_mem] at h ⊢
    rw [eryL_length]
    simp only [T.noOwn, Bool.and_eq_true, bne_iff_ne, ne_eq] at ho
    obtain ⟨h1, h2, h3, h4, h5⟩ := h
    refine ⟨h1, fun hh => ?_, fun hh => (by cases hh), fun _ => eryL_noOwn (by decide) ts, repL_ery hok ts _ 0 (ho.imp (fun h => h.2) id) h5⟩
    rcases hh with hh | hh
    · cases hh
    · by_cases hk : k' = .own
      · subst hk
        rcases ho with ho | ho
        · exact (ho.1 rfl).elim
        · exact ho _ (h2 (.inl rfl))
      · exact hok k' _ hk (h2 (.inr fun e' => hh (by rw [e']; rfl)))
theorem repL_ery {fm : Nat → Nat} {ok ok' : K → Nat → Prop} {w : World} (hok : ∀ k b, k ≠ .own → ok k b → ok' .old b) :
    ∀ (ts : List T) (g : Nat → Value) (i : Nat), (T.noOwnL ts = true ∨ ∀ b, ok .own b → ok' .old b) → repL fm ok w g i ts → repL fm ok' w g i (T.eryL .old ts)
  | [], _, _, _, _ => trivial
  | t :: ts, g, i, ho, h => by
    simp only [repL, T.eryL, T.noOwnL, Bool.and_eq_true] at h ho ⊢
    exact ⟨rep_ery hok t _ (ho.imp (fun h => h.1) id) h.1, repL_ery hok ts g (i + 1) (ho.imp (fun h => h.2) id) h.2⟩
end

mutual
theorem res_noOwn {e : Env} : ∀ (x : V) {t : T}, e.res x = some t → t.noOwn = true
  | .val u, t, h => by
    simp only [Env.res] at h
    split at h
    · cases h; exact ery_noOwn (by decide) u
    · cases h
  | .sref r p sz off len, t, h => by
    simp only [Env.res] at h
    split at h
    · split at h
      · cases h; simp [T.noOwn, eryL_noOwn (k := .old) (by decide)]
      · cases h
    · cases h
  | .pref r p off, t, h => by
    simp only [Env.res] at h
    split at h
    · split at h
      · cases h; simp [T.noOwn, eryL_noOwn (k := .old) (by decide)]
      · cases h
    · cases h
  | .vagg vs, t, h => by
    simp only [Env.res, Option.map_eq_some_iff] at h
    obtain ⟨ts, h1, rfl⟩ := h
    simpa [T.noOwn] using resL_noOwn vs h1
  | .vtup vs, t, h => by
    simp only [Env.res, Option.map_eq_some_iff] at h
    obtain ⟨ts, h1, rfl⟩ := h
    simpa [T.noOwn] using resL_noOwn vs h1
theorem resL_noOwn {e : Env} : ∀ (vs : List V) {ts : List T}, e.resL vs = some ts → T.noOwnL ts = true
  | [], ts, h => by simp only [Env.resL, Option.some.injEq] at h; subst h; rfl
  | v :: vs, ts, h => by
    simp only [Env.resL] at h
    cases h1 : e.res v with
    | none => rw [h1] at h; cases h
    | some t =>
      rw [h1] at h
      simp only [Option.bind_some, Option.map_eq_some_iff] at h
      obtain ⟨ts', h2, rfl⟩ := h
      simp [T.noOwnL, res_noOwn v h1, resL_noOwn vs h2]
end

theorem win_eryL {k : K} (ts : List T) (a n : Nat) : T.eryL k (win ts a n) = win (T.eryL k ts) a n := by
  have : ∀ ts : List T, T.eryL k ts = ts.map (T.ery k) := by
    intro ts
    induction ts with
    | nil => rfl
    | cons t ts ih => simp [T.eryL, ih]
  simp [this, win, List.map_take, List.map_drop]

theorem drop_eryL {k : K} (ts : List T) (a : Nat) : T.eryL k (ts.drop a) = (T.eryL k ts).drop a := by
  have : ∀ ts : List T, T.eryL k ts = ts.map (T.ery k) := by
    intro ts
    induction ts with
    | nil => rfl
    | cons t ts ih => simp [T.eryL, ih]
  simp [this, List.map_drop]

theorem repL_drop {fm : Nat → Nat} {ok : K → Nat → Prop} {w : World} {g : Nat → Value} {ts : List T} {a : Nat} (ha : a ≤ ts.length) (h : repL fm ok w g 0 ts) : repL fm ok w (fun j => g (j + a)) 0 (ts.drop a) := by
  rw [← List.take_append_drop a ts, repL_append] at h
  have h2 := h.2
  rw [List.length_take, Nat.min_eq_left ha] at h2
  exact (repL_shift _ 0 a).1 h2

mutual
/-- A value that is handed on to be read. -/
theorem res_rep {cx : Cx} {e : Env} {vl : Vl} {w : World} {ok' : K → Nat → Prop} (h : R cx e vl w) (hok : ∀ k b, k ≠ .own → okR cx (Own e vl w) k b → ok' .old b) :
    ∀ (x : V) (v : Value) {t : T}, (x.lent = true → ∀ b, ok' .old b) → arep cx.fm (okR cx (Own e vl w)) e vl w v x → e.res x = some t → rep cx.fm ok' w v t
  | .val u, v, t, _, hx, hr => by
    simp only [Env.res] at hr
    split at hr
    · rename_i hn
      cases hr
      exact rep_ery hok u v (.inl hn) hx.2
    · cases hr
  | .sref r p sz off len, v, t, hl, hx, hr => by
    simp only [Env.res] at hr
    split at hr
    · rename_i s0 ts htr
      split at hr
      · rename_i hfit
        cases hr
        simp only [arep] at hx
        obtain ⟨hz, t0, ts0, g1, g2, g3, o', g4, g5, g6, g7⟩ := hx
        have : e.tree r p = some (.mem .own (some sz) ts0) := by simp [Env.tree, g1, g2]
        rw [htr] at this
        cases this
        have hnode := (focus p t0 _ (srep_val h g1) g2).1
        rw [rep_mem] at hnode
        obtain ⟨k1, _, _, _, k5⟩ := hnode
        have hmul : (off + len) * sz = off * sz + len * sz := Nat.add_mul ..
        have hwl : (win ts (off * sz) (len * sz)).length = len * sz := win_length (by omega)
        have hpos : ∀ i, i < len * sz → o' = ofs (nodeV w (vl r) p) + off * sz := fun i hi => g7 (.inl (by
          rcases Nat.eq_zero_or_pos len with h0 | h0
          · rw [h0, Nat.zero_mul] at hi; omega
          · omega))
        obtain ⟨⟨L, hL, _⟩, hcl⟩ := k1
        have hb : blk v = blk (nodeV w (vl r) p) := by rw [g4]; rfl
        have ho : ofs v = o' := by rw [g4]; rfl
        have hc : capOf v = capOf (nodeV w (vl r) p) - off := by rw [g4]; rfl
        have hv : v = .slice (some ⟨blk v, ofs v, none⟩) len (capOf v) := by rw [hb, ho, hc]; exact g4
        rw [rep_mem, eryL_length, hwl]
        refine ⟨⟨⟨len, hv, rfl, hz, by omega⟩, fun i hi => ?_⟩, fun _ => hl rfl _, fun hh => (by cases hh), fun _ => eryL_noOwn (by decide) _, ?_⟩
        · rw [hb, ho, hpos i hi]
          have := hcl (off * sz + i) (by omega)
          rwa [Nat.add_assoc]
        · refine repL_ery hok _ _ 0 (.inr fun b _ => hl rfl b) (repL_congr _ 0 (fun j _ hj => ?_) (repL_win (len * sz) (by omega) k5))
          rw [hwl] at hj
          have q1 : kid w v j = (w.cell? ⟨blk v, ofs v + j, none⟩).getD undef := by rw [hv]; rfl
          have q2 : kid w (nodeV w (vl r) p) (j + off * sz) = (w.cell? ⟨blk (nodeV w (vl r) p), ofs (nodeV w (vl r) p) + (j + off * sz), none⟩).getD undef := by rw [hL]; rfl
          rw [q1, q2, hb, ho, hpos j (by omega)]
          congr 3
          omega
      · cases hr
    · cases hr
  | .pref r p off, v, t, hl, hx, hr => by
    simp only [Env.res] at hr
    split at hr
    · rename_i s0 ts htr
      split at hr
      · rename_i hfit
        cases hr
        simp only [arep] at hx
        obtain ⟨t0, s1, ts0, g1, g2, g3, g4⟩ := hx
        have : e.tree r p = some (.mem .own s1 ts0) := by simp [Env.tree, g1, g2]
        rw [htr] at this
        cases this
        have hnode := (focus p t0 _ (srep_val h g1) g2).1
        rw [rep_mem] at hnode
        obtain ⟨k1, _, _, _, k5⟩ := hnode
        have hb : blk v = blk (nodeV w (vl r) p) := by rw [g4]; rfl
        have ho : ofs v = ofs (nodeV w (vl r) p) + off := by rw [g4]; rfl
        have hv : v = .pointer (some ⟨blk v, ofs v, none⟩) := by rw [hb, ho]; exact g4
        rw [rep_mem, eryL_length, List.length_drop]
        refine ⟨⟨hv, fun i hi => ?_⟩, fun _ => hl rfl _, fun hh => (by cases hh), fun _ => eryL_noOwn (by decide) _, ?_⟩
        · rw [hb, ho, Nat.add_assoc]
          exact k1.2 (off + i) (by omega)
        · refine repL_ery hok _ _ 0 (.inr fun b _ => hl rfl b) (repL_congr _ 0 (fun j _ hj => ?_) (repL_drop hfit k5))
          rw [List.length_drop] at hj
          have q1 : kid w v j = (w.cell? ⟨blk v, ofs v + j, none⟩).getD undef := by rw [hv]; rfl
          have q2 := cell_kid k1 (i := off + j) (by omega)
          rw [q1, hb, ho, Nat.add_assoc, q2, Nat.add_comm off j]
          rfl
      · cases hr
    · cases hr
  | .vagg vs, v, t, hl, hx, hr => by
    simp only [Env.res, Option.map_eq_some_iff] at hr
    obtain ⟨ts, h1, rfl⟩ := hr
    simp only [arep] at hx
    simp only [V.lent] at hl
    simp only [Mch.rep]
    exact ⟨by rw [resL_length vs h1]; exact hx.1, resL_rep h hok vs _ 0 hl hx.2 h1⟩
  | .vtup vs, v, t, hl, hx, hr => by
    simp only [Env.res, Option.map_eq_some_iff] at hr
    obtain ⟨ts, h1, rfl⟩ := hr
    simp only [arep] at hx
    simp only [V.lent] at hl
    simp only [Mch.rep]
    exact ⟨by rw [resL_length vs h1]; exact hx.1, resL_rep h hok vs _ 0 hl hx.2 h1⟩
theorem resL_rep {cx : Cx} {e : Env} {vl : Vl} {w : World} {ok' : K → Nat → Prop} (h : R cx e vl w) (hok : ∀ k b, k ≠ .own → okR cx (Own e vl w) k b → ok' .old b) :
    ∀ (vs : List V) (g : Nat → Value) (i : Nat) {ts : List T}, (V.lentL vs = true → ∀ b, ok' .old b) → arepL cx.fm (okR cx (Own e vl w)) e vl w g i vs → e.resL vs = some ts → repL cx.fm ok' w g i ts
  | [], g, i, ts, _, _, hr => by simp only [Env.resL, Option.some.injEq] at hr; subst hr; trivial
  | x :: vs, g, i, ts, hl, hx, hr => by
    simp only [Env.resL] at hr
    simp only [arepL] at hx
    simp only [V.lentL, Bool.or_eq_true] at hl
    cases h1 : e.res x with
    | none => rw [h1] at hr; cases hr
    | some t =>
      rw [h1] at hr
      simp only [Option.bind_some, Option.map_eq_some_iff] at hr
      obtain ⟨ts', h2, rfl⟩ := hr
      exact ⟨res_rep h hok x _ (fun hh => hl (.inl hh)) hx.1 h1, resL_rep h hok vs g (i + 1) (fun hh => hl (.inr hh)) hx.2 h2⟩
theorem resL_length {e : Env} : ∀ (vs : List V) {ts : List T}, e.resL vs = some ts → ts.length = vs.length
  | [], ts, h => by simp only [Env.resL, Option.some.injEq] at h; subst h; rfl
  | v :: vs, ts, h => by
    simp only [Env.resL] at h
    cases h1 : e.res v with
    | none => rw [h1] at h; cases h
    | some t =>
      rw [h1] at h
      simp only [Option.bind_some, Option.map_eq_some_iff] at h
      obtain ⟨ts', h2, rfl⟩ := h
      simp [resL_length vs h2]
end

end Go.Mch
