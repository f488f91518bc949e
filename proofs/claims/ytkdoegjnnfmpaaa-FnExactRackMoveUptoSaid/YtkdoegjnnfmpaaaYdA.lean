/- Calls that are handed own memory: what the callee makes of it. -/
import Derived.Test.YtkdoegjnnfmpaaaYbS
namespace Go.Mch

theorem lendL_length : ∀ ts : List T, (T.lendL ts).length = ts.length
  | [] => rfl
  | t :: ts => by simp [T.lendL, lendL_length ts]

theorem lendL_get : ∀ (ts : List T) (i : Nat), (T.lendL ts)[i]? = (ts[i]?).map T.lend
  | [], _ => by simp [T.lendL]
  | t :: ts, 0 => by simp [T.lendL]
  | t :: ts, i + 1 => by simpa [T.lendL] using lendL_get ts i

mutual
theorem noOwn_lend : ∀ t : T, t.noOwn = true → t.lend.noOwn = true
  | .sc _, _ => rfl
  | .gone, _ => rfl
  | .nul, _ => rfl
  | .fn f caps, _ => by simp only [T.lend, T.noOwn]; exact eryL_noOwn (by decide) caps
  | .agg ts, h => by simp only [T.lend, T.noOwn] at h ⊢; exact noOwnL_lend ts h
  | .tup ts, h => by simp only [T.lend, T.noOwn] at h ⊢; exact noOwnL_lend ts h
  | .mem k s ts, h => by
    simp only [T.lend, T.noOwn, Bool.and_eq_true, bne_iff_ne, ne_eq] at h ⊢
    refine ⟨?_, noOwnL_lend ts h.2⟩
    rw [if_neg h.1]; decide
theorem noOwnL_lend : ∀ ts : List T, T.noOwnL ts = true → T.noOwnL (T.lendL ts) = true
  | [], _ => rfl
  | t :: ts, h => by
    simp only [T.lendL, T.noOwnL, Bool.and_eq_true] at h ⊢
    exact ⟨noOwn_lend t h.1, noOwnL_lend ts h.2⟩
end

mutual
theorem cnt_lend {w : World} {b : Nat} : ∀ (t : T) (v : Value), cnt w v b t.lend = cnt w v b t
  | .sc _, _ => rfl
  | .gone, _ => rfl
  | .nul, _ => rfl
  | .fn f caps, _ => rfl
  | .agg ts, v => by simp only [T.lend, cnt]; exact cntL_lend ts _ 0
  | .tup ts, v => by simp only [T.lend, cnt]; exact cntL_lend ts _ 0
  | .mem k s ts, v => by
    by_cases hk : k = .own
    · subst hk; simp only [T.lend, if_true, cnt_own, cntL_lend ts _ 0]
    · simp only [T.lend, if_neg hk]; rw [cnt_imm hk, cnt_imm (by decide)]
theorem cntL_lend {w : World} {b : Nat} : ∀ (ts : List T) (g : Nat → Value) (i : Nat), cntL w g b i (T.lendL ts) = cntL w g b i ts
  | [], _, _ => rfl
  | t :: ts, g, i => by simp only [T.lendL, cntL, cnt_lend t, cntL_lend ts]
end

mutual
theorem rep_lend {fm : Nat → Nat} {ok ok' : K → Nat → Prop} {w : World} (hok : ∀ k b, k ≠ .own → ok k b → ok' .old b) :
    ∀ (t : T) (v : Value), (∀ b, 1 ≤ cnt w v b t → ok .own b → ok' .own b) → rep fm ok w v t → rep fm ok' w v t.lend
  | .sc _, _, _, h => h
  | .gone, _, _, _ => trivial
  | .nul, _, _, h => h
  | .fn f caps, v, _, h => by
    simp only [rep, T.lend] at h ⊢
    exact ⟨by rw [eryL_length]; exact h.1, eryL_noOwn (by decide) caps, repL_ery hok caps _ 0 (.inl h.2.1) h.2.2⟩
  | .agg ts, v, ho, h => by
    simp only [rep, T.lend, cnt] at h ho ⊢
    exact ⟨by rw [lendL_length]; exact h.1, repL_lend hok ts _ 0 ho h.2⟩
  | .tup ts, v, ho, h => by
    simp only [rep, T.lend, cnt] at h ho ⊢
    exact ⟨by rw [lendL_length]; exact h.1, repL_lend hok ts _ 0 ho h.2⟩
  | .mem k s ts, v, ho, h => by
    simp only [T.lend]
    rw [rep_mem] at h ⊢
    rw [lendL_length]
    obtain ⟨h1, h2, h3, h4, h5⟩ := h
    by_cases hk : k = .own
    · subst hk
      simp only [cnt_own] at ho
      rw [if_pos rfl]
      exact ⟨h1, fun _ => ho _ (by simp) (h2 (.inl rfl)), h3, fun hh => (hh rfl).elim, repL_lend hok ts _ 0 (fun b hb => ho b (by omega)) h5⟩
    · rw [if_neg hk]
      refine ⟨h1, fun hh => ?_, fun hh => (by cases hh), fun _ => noOwnL_lend ts (h4 hk), repL_lend hok ts _ 0 (fun b hb => by rw [cntL_noOwn w _ b ts 0 (h4 hk)] at hb; omega) h5⟩
      rcases hh with hh | hh
      · cases hh
      · refine hok k _ hk (h2 (.inr fun e' => hh ?_))
        rw [e']; rfl
theorem repL_lend {fm : Nat → Nat} {ok ok' : K → Nat → Prop} {w : World} (hok : ∀ k b, k ≠ .own → ok k b → ok' .old b) :
    ∀ (ts : List T) (g : Nat → Value) (i : Nat), (∀ b, 1 ≤ cntL w g b i ts → ok .own b → ok' .own b) → repL fm ok w g i ts → repL fm ok' w g i (T.lendL ts)
  | [], _, _, _, _ => trivial
  | t :: ts, g, i, ho, h => by
    simp only [repL, T.lendL, cntL] at h ho ⊢
    exact ⟨rep_lend hok t _ (fun b hb => ho b (by omega)) h.1, repL_lend hok ts g (i + 1) (fun b hb => ho b (by omega)) h.2⟩
end

theorem cntL_ex {w : World} {g : Nat → Value} {b : Nat} : ∀ (ts : List T) (i : Nat), 1 ≤ cntL w g b i ts → ∃ j t, ts[j]? = some t ∧ 1 ≤ cnt w (g (i + j)) b t
  | [], _, h => by simp [cntL] at h
  | t :: ts, i, h => by
    simp only [cntL] at h
    by_cases h1 : 1 ≤ cnt w (g i) b t
    · exact ⟨0, t, rfl, h1⟩
    · have h0 : 1 ≤ cntL w g b (i + 1) ts := by omega
      obtain ⟨j, u, h2, h3⟩ := cntL_ex ts (i + 1) h0
      exact ⟨j + 1, u, by simpa using h2, by rwa [show i + (j + 1) = i + 1 + j from by omega]⟩

theorem cntL_one {w : World} {g : Nat → Value} {b : Nat} : ∀ (ts : List T) (i : Nat), (∀ j t, ts[j]? = some t → cnt w (g (i + j)) b t ≤ 1) →
    (∀ j k t u, j < k → ts[j]? = some t → ts[k]? = some u → 1 ≤ cnt w (g (i + j)) b t → 1 ≤ cnt w (g (i + k)) b u → False) → cntL w g b i ts ≤ 1
  | [], _, _, _ => by simp [cntL]
  | t :: ts, i, h1, h2 => by
    simp only [cntL]
    have h3 := h1 0 t rfl
    rw [Nat.add_zero] at h3
    have h4 := cntL_one (w := w) (g := g) (b := b) ts (i + 1) (fun j u hj => by
      have := h1 (j + 1) u (by simpa using hj)
      rwa [show i + (j + 1) = i + 1 + j from by omega] at this) (fun j k u u' hjk hj hk ha hb => h2 (j + 1) (k + 1) u u' (by omega) (by simpa using hj) (by simpa using hk)
        (by rwa [show i + (j + 1) = i + 1 + j from by omega]) (by rwa [show i + (k + 1) = i + 1 + k from by omega]))
    rcases Nat.eq_zero_or_pos (cnt w (g i) b t) with h5 | h5
    · omega
    · rcases Nat.eq_zero_or_pos (cntL w g b (i + 1) ts) with h6 | h6
      · omega
      · obtain ⟨j, u, h7, h8⟩ := cntL_ex ts (i + 1) h6
        exact (h2 0 (j + 1) t u (by omega) rfl (by simpa using h7) h5 (by rwa [show i + (j + 1) = i + 1 + j from by omega])).elim

theorem backArgs_get {e : Env} : ∀ (ts : List T) (s i : Nat), (backArgs e s ts)[i]? = (ts[i]?).map fun t => if t.noOwn then t else slotT e (s + i)
  | [], _, _ => by simp [backArgs]
  | t :: ts, s, 0 => by simp [backArgs]
  | t :: ts, s, i + 1 => by
    simp only [backArgs, List.getElem?_cons_succ]
    rw [backArgs_get ts (s + 1) i, show s + 1 + i = s + (i + 1) from by omega]

theorem slotT_own {e : Env} {s : Nat} {v : Value} {w : World} {b : Nat} (h : 1 ≤ cnt w v b (slotT e s)) : e s = some (.val (slotT e s)) := by
  unfold slotT at *
  split at h
  · rename_i t ht; rw [ht]
  · simp [cnt] at h

/-- A call that is handed a float: what it leaves. -/
theorem callm_core {P : Program} {cx : Cx} {q : Nat} {e1 : Env} {vl : Vl} {w : World} {ts caps ts' : List T} {us cs : Array Value} {id : Nat} {r : T} (hN : ∀ b, ¬ cx.N b)
    (hR : R cx (e1.add q (.val (.tup ts))) vl w) (hc : Clr e1 q) (hq : vl q = .tuple us) (hcs : cs.size = caps.length) (hno : T.noOwnL caps = true)
    (hcaps : repL cx.fm (okR cx (Own (e1.add q (.val (.tup ts))) vl w)) w (fun j => cs.getD j undef) 0 caps)
    (hp : Pact P cx.fm id (T.lendL ts ++ T.eryL .old caps) (ts' ++ T.eryL .old caps) r) (hl : ts'.length = ts.length) :
    Calls P (cx.fm id) (us ++ cs) w fun en w' => ∃ v, en = .returned v ∧ ∃ fs : List T, fs.length = ts.length ∧ (∀ (i : Nat) (t : T), ts[i]? = some t → t.lend.noOwn = false → fs[i]? = ts'[i]?) ∧
      R cx (e1.add q (.val (.tup (fs ++ [r])))) (vadd vl q (.tuple (us.push v))) w' ∧ ∀ p s t u, e1 s = some (.val t) → t.at p = some u → nodeV w' (vl s) p = nodeV w (vl s) p := by
  obtain ⟨who, hw⟩ := hR.who
  have hrep := srep_val hR (add_self ..)
  rw [hq] at hrep
  simp only [Mch.rep] at hrep
  obtain ⟨⟨_, hus, hsz⟩, hrepL⟩ := hrep
  cases hus
  have hkid : kid w (.tuple us) = fun i => us.getD i undef := rfl
  have hlt : ∀ b, Own (e1.add q (.val (.tup ts))) vl w b → okR cx (Own (e1.add q (.val (.tup ts))) vl w) .own b ∧ b < w.heap.size := by
    rintro b ⟨s, t, ht, hb⟩
    exact rep_owned t _ (srep_val hR ht) b hb
  have hnq : e1 q = none := (hc q (Nat.le_refl _)).1
  have hoth : ∀ b, (∃ s u, s ≠ q ∧ e1 s = some (.val u) ∧ 1 ≤ cnt w (vl s) b u) → Own (e1.add q (.val (.tup ts))) vl w b := by
    rintro b ⟨s, u, h1, h2, h3⟩
    exact ⟨s, u, by rw [add_ne h1]; exact h2, h3⟩
  have hMq : ∀ b, 1 ≤ cnt w (.tuple us) b (.tup ts) → Own (e1.add q (.val (.tup ts))) vl w b := fun b hb => ⟨q, _, add_self .., by rw [hq]; exact hb⟩
  have hA' : ∀ b, (cx.A b ∨ ∃ s u, s ≠ q ∧ e1 s = some (.val u) ∧ 1 ≤ cnt w (vl s) b u) → b < w.heap.size := fun b hb => by
    rcases hb with h1 | h1
    · have := cx.hA b h1; have := hR.keeps.size; omega
    · exact (hlt b (hoth b h1)).2
  have hdis : ∀ b, 1 ≤ cnt w (.tuple us) b (.tup ts) → ¬ (cx.A b ∨ ∃ s u, s ≠ q ∧ e1 s = some (.val u) ∧ 1 ≤ cnt w (vl s) b u) := by
    rintro b hb (h1 | ⟨s, u, h1, h2, h3⟩)
    · exact (hlt b (hMq b hb)).1.1 h1
    · have h4 := (hw q _ (add_self ..) b).2 (by rw [hq]; exact hb)
      have h5 := (hw s u (by rw [add_ne h1]; exact h2) b).2 h3
      exact h1 (h5.symm.trans h4)
  have hlen : (us ++ cs).size = (T.lendL ts ++ T.eryL .old caps).length := by simp [hcs, hsz, eryL_length, lendL_length]
  -- the callee's slots
  have hval : ∀ s t, (T.lendL ts ++ T.eryL .old caps)[s]? = some t → (∃ u, ts[s]? = some u ∧ t = u.lend ∧ s < ts.length ∧ (us ++ cs).getD s undef = us.getD s undef) ∨ (ts.length ≤ s ∧ t.noOwn = true) := fun s t ht => by
    rcases Nat.lt_or_ge s ts.length with h1 | h1
    · rw [List.getElem?_append_left (by rw [lendL_length]; exact h1), lendL_get, Option.map_eq_some_iff] at ht
      obtain ⟨u, h2, h3⟩ := ht
      refine .inl ⟨u, h2, h3.symm, h1, ?_⟩
      simp only [Array.getD_eq_getD_getElem?]
      rw [Array.getElem?_append_left (by omega)]
    · rw [List.getElem?_append_right (by rw [lendL_length]; exact h1)] at ht
      exact .inr ⟨h1, noOwnL_get (eryL_noOwn (by decide) caps) ht⟩
  have hown' : ∀ b, Own (init (T.lendL ts ++ T.eryL .old caps)) (fun s => (us ++ cs).getD s undef) w b → 1 ≤ cnt w (.tuple us) b (.tup ts) := by
    rintro b ⟨s, t, ht, hb⟩
    obtain ⟨t', h1, h2⟩ := init_some ht
    cases h2
    rcases hval s t h1 with ⟨u, h3, rfl, h4, h5⟩ | ⟨h3, h4⟩
    · simp only at hb
      rw [h5, cnt_lend] at hb
      have := cntL_get (w := w) (g := fun i => us.getD i undef) (b := b) ts 0 s h3
      simp only [Nat.zero_add] at this
      simp only [cnt, hkid]
      omega
    · rw [cnt_noOwn _ _ _ _ h4] at hb; omega
  have htwo : ∀ b s s' t t', s ≠ s' → ts[s]? = some t → ts[s']? = some t' → 1 ≤ cnt w (us.getD s undef) b t → 1 ≤ cnt w (us.getD s' undef) b t' → False := fun b s s' t t' hne h1 h2 h3 h4 => by
    have h5 := node_still.cntL_two (w := w) (g := fun i => us.getD i undef) (b := b) ts 0 s s' hne h1 h2
    simp only [Nat.zero_add] at h5
    have h6 := (hw q _ (add_self ..) b).1
    rw [hq] at h6
    simp only [cnt, hkid] at h6
    omega
  generalize hcx : cx0 cx.fm w (fun b => cx.A b ∨ ∃ s u, s ≠ q ∧ e1 s = some (.val u) ∧ 1 ≤ cnt w (vl s) b u) (fun b => 1 ≤ cnt w (.tuple us) b (.tup ts)) hA' = cx'
  have hok : ∀ k b, k ≠ .own → okR cx (Own (e1.add q (.val (.tup ts))) vl w) k b → okR cx' (Own (init (T.lendL ts ++ T.eryL .old caps)) (fun s => (us ++ cs).getD s undef) w) .old b := fun k b hk ho => by
    subst hcx
    refine ⟨fun hh => ?_, fun hh => (by cases hh), fun hh => (by cases hh), fun _ => ⟨fun hh => (ho.2.2.2 hk).1 (hMq b (hown' b hh)), fun h => h⟩⟩
    rcases hh with hh | hh
    · exact ho.1 hh
    · exact (ho.2.2.2 hk).1 (hoth b hh)
  have hL : repL cx.fm (okR cx' (Own (init (T.lendL ts ++ T.eryL .old caps)) (fun s => (us ++ cs).getD s undef) w)) w (fun s => (us ++ cs).getD s undef) 0 (T.lendL ts ++ T.eryL .old caps) := by
    rw [repL_append]
    refine ⟨repL_congr _ 0 (fun j _ hj => ?_) (repL_lend hok ts _ 0 (fun b hb _ => ?_) hrepL), ?_⟩
    · rw [lendL_length] at hj
      simp only [kid, Array.getD_eq_getD_getElem?]
      rw [Array.getElem?_append_left (by omega)]
    · subst hcx
      exact ⟨hdis b hb, fun _ => .inr hb, fun hh => (by cases hh), fun hh => (hh rfl).elim⟩
    · have h9 := repL_ery hok caps _ 0 (.inl hno) hcaps
      have h10 := (repL_shift (fm := cx.fm) (ok := okR cx' (Own (init (T.lendL ts ++ T.eryL .old caps)) (fun s => (us ++ cs).getD s undef) w)) (w := w) (g := fun s => (us ++ cs).getD s undef) (T.eryL .old caps) 0 ts.length).2
      rw [lendL_length]
      refine h10 (repL_congr _ 0 (fun j _ hj => ?_) h9)
      simp only [Array.getD_eq_getD_getElem?]
      rw [Array.getElem?_append_right (by omega)]
      congr 2
      omega
  have hR' : R cx' (init (T.lendL ts ++ T.eryL .old caps)) (fun s => (us ++ cs).getD s undef) w := by
    refine ⟨by subst hcx; exact Keeps.refl _ _, ?_, fun s x hx => ?_⟩
    · refine ⟨fun b => Classical.epsilon fun i => ∃ t, ts[i]? = some t ∧ 1 ≤ cnt w (us.getD i undef) b t, fun s t ht b => ?_⟩
      obtain ⟨t', h1, h2⟩ := init_some ht
      cases h2
      rcases hval s t h1 with ⟨u, h3, rfl, h4, h5⟩ | ⟨h3, h4⟩
      · simp only
        rw [h5, cnt_lend]
        refine ⟨?_, fun h6 => ?_⟩
        · have := cntL_get (w := w) (g := fun i => us.getD i undef) (b := b) ts 0 s h3
          simp only [Nat.zero_add] at this
          have h6 := (hw q _ (add_self ..) b).1
          rw [hq] at h6
          simp only [cnt, hkid] at h6
          omega
        · have hex : ∃ i t, ts[i]? = some t ∧ 1 ≤ cnt w (us.getD i undef) b t := ⟨s, u, h3, h6⟩
          obtain ⟨t2, h7, h8⟩ := Classical.epsilon_spec hex
          by_cases hne : Classical.epsilon (fun i => ∃ t, ts[i]? = some t ∧ 1 ≤ cnt w (us.getD i undef) b t) = s
          · exact hne
          · exact (htwo b _ s t2 u hne h7 h3 h8 h6).elim
      · rw [cnt_noOwn _ _ _ _ h4]
        exact ⟨by omega, fun h => by omega⟩
    · obtain ⟨t, h1, rfl⟩ := init_some hx
      have := repL_get _ 0 s hL h1
      rw [Nat.zero_add] at this
      refine .inl ⟨t, rfl, ?_⟩
      have hfm : cx'.fm = cx.fm := by subst hcx; rfl
      rw [hfm]
      exact this
  subst hcx
  have hkind : kindOf (T.lendL ts ++ T.eryL .old caps) = .fresh → ∀ b, ¬ 1 ≤ cnt w (.tuple us) b (.tup ts) := fun hk b hb => by
    unfold kindOf at hk
    split at hk
    · rename_i hn
      simp only [cnt] at hb
      rw [← cntL_lend] at hb
      have h1 : T.noOwnL (T.lendL ts) = true := by
        rw [noOwnL_append, Bool.and_eq_true] at hn; exact hn.1
      rw [cntL_noOwn _ _ _ _ _ h1] at hb
      omega
    · cases hk
  refine Calls.mono (hp.2 w (us ++ cs) _ _ hA' hlen hkind hR') fun en w' hbk => ?_
  cases en with
  | panicked c => exact hbk.elim
  | outgrown => exact hbk.elim
  | returned v =>
    obtain ⟨q', e', vl', hq', hRb, hcb, hv, hargs, hfix⟩ := hbk
    have hsame : ∀ b, b < w.heap.size → ¬ 1 ≤ cnt w (.tuple us) b (.tup ts) → w'.heap[b]? = w.heap[b]? := fun b hb hm => hRb.keeps.block b hb hm
    have hn' : (T.lendL ts ++ T.eryL .old caps).length = ts.length + caps.length := by simp [lendL_length, eryL_length]
    -- the float's new trees
    have hfs : ∃ fs : List T, fs.length = ts.length ∧ (∀ (i : Nat) (t : T), ts[i]? = some t → t.lend.noOwn = false → fs[i]? = ts'[i]? ∧ fs[i]? = some (slotT e' i)) ∧ (∀ (i : Nat) (t : T), ts[i]? = some t → t.lend.noOwn = true → fs[i]? = some .gone) := by
      refine ⟨(List.range ts.length).map fun i => if (ts.getD i .gone).lend.noOwn then .gone else slotT e' i, by simp, fun i t ht hn => ?_, fun i t ht hn => ?_⟩
      · have hi : i < ts.length := by
          rcases Nat.lt_or_ge i ts.length with h | h
          · exact h
          · rw [List.getElem?_eq_none h] at ht; cases ht
        have hg : ts.getD i .gone = t := by rw [List.getD_eq_getElem?_getD, ht]; rfl
        have h1 : ((List.range ts.length).map fun i => if (ts.getD i .gone).lend.noOwn then T.gone else slotT e' i)[i]? = some (slotT e' i) := by
          rw [List.getElem?_map, List.getElem?_range hi]
          simp only [Option.map_some, hg, hn]
          rfl
        refine ⟨?_, h1⟩
        rw [h1]
        have h2 := congrArg (fun l => l[i]?) hargs
        simp only [backArgs_get, Nat.zero_add] at h2
        rw [List.getElem?_append_left (by omega), List.getElem?_append_left (by rw [lendL_length]; exact hi), lendL_get, ht] at h2
        simp only [Option.map_some, hn] at h2
        exact h2.symm
      · have hi : i < ts.length := by
          rcases Nat.lt_or_ge i ts.length with h | h
          · exact h
          · rw [List.getElem?_eq_none h] at ht; cases ht
        have hg : ts.getD i .gone = t := by rw [List.getD_eq_getElem?_getD, ht]; rfl
        rw [List.getElem?_map, List.getElem?_range hi]
        simp only [Option.map_some, hg, hn]
        rfl
    obtain ⟨fs, hfl, hf1, hf2⟩ := hfs
    refine ⟨v, rfl, fs, hfl, fun i t ht hn => (hf1 i t ht hn).1, ?_, fun p s t u hs hpu => ?_⟩
    · -- where a part of the new float is owned
      have hpart : ∀ j t, (fs ++ [r])[j]? = some t → (j < ts.length ∧ ((t = .gone) ∨ (t = slotT e' j ∧ (us.push v).getD j undef = vl' j ∧ j ≠ q'))) ∨ (j = ts.length ∧ t = r ∧ (us.push v).getD j undef = vl' q') := fun j t hj => by
        rcases Nat.lt_or_ge j ts.length with h1 | h1
        · refine .inl ⟨h1, ?_⟩
          rw [List.getElem?_append_left (by omega)] at hj
          obtain ⟨u, hu⟩ : ∃ u, ts[j]? = some u := ⟨_, List.getElem?_eq_getElem h1⟩
          cases hn : u.lend.noOwn with
          | true => rw [hf2 j u hu hn] at hj; cases hj; exact .inl rfl
          | false =>
            rw [(hf1 j u hu hn).2] at hj
            cases hj
            refine .inr ⟨rfl, ?_, by omega⟩
            have h2 := hfix j (by omega) (by
              rw [List.getD_eq_getElem?_getD, List.getElem?_append_left (by rw [lendL_length]; exact h1), lendL_get, hu]
              exact hn)
            rw [h2]
            simp only [Array.getD_eq_getD_getElem?]
            rw [Array.getElem?_append_left (by omega), Array.getElem?_push, if_neg (by omega)]
        · have h2 : j = ts.length := by
            rcases Nat.lt_or_ge ts.length j with h2 | h2
            · rw [List.getElem?_eq_none (by simp; omega)] at hj; cases hj
            · omega
          subst h2
          rw [List.getElem?_append_right (by omega), hfl] at hj
          simp only [Nat.sub_self, List.getElem?_cons_zero, Option.some.injEq] at hj
          refine .inr ⟨rfl, hj.symm, ?_⟩
          rw [hv, Array.getD_eq_getD_getElem?, Array.getElem?_push, if_pos (by omega)]
          rfl
      obtain ⟨who', hw'⟩ := hRb.who
      have hslot : ∀ j t b, (fs ++ [r])[j]? = some t → 1 ≤ cnt w' ((us.push v).getD j undef) b t → ∃ s, (e'.add q' (.val r)) s = some (.val t) ∧ (us.push v).getD j undef = vl' s ∧ ((j < ts.length ∧ s = j ∧ s ≠ q') ∨ (j = ts.length ∧ s = q')) := fun j t b hj hb => by
        rcases hpart j t hj with ⟨h1, h2 | ⟨h2, h3, h4⟩⟩ | ⟨h1, h2, h3⟩
        · subst h2; simp [cnt] at hb
        · subst h2
          exact ⟨j, by rw [add_ne h4]; exact slotT_own hb, h3, .inl ⟨h1, rfl, h4⟩⟩
        · subst h2
          exact ⟨q', add_self .., h3, .inr ⟨h1, rfl⟩⟩
      have hkn : kid w' (.tuple (us.push v)) = fun i => (us.push v).getD i undef := rfl
      have hOwn : ∀ b, 1 ≤ cnt w' (.tuple (us.push v)) b (.tup (fs ++ [r])) → Own (e'.add q' (.val r)) vl' w' b := fun b hb => by
        simp only [cnt, hkn] at hb
        obtain ⟨j, t, hj, hb⟩ := cntL_ex _ 0 hb
        rw [Nat.zero_add] at hb
        obtain ⟨s, h1, h2, _⟩ := hslot j t b hj hb
        exact ⟨s, t, h1, by rw [← h2]; exact hb⟩
      have hnew : ∀ b, Own (e'.add q' (.val r)) vl' w' b → (w.heap.size ≤ b ∨ 1 ≤ cnt w (.tuple us) b (.tup ts)) ∧ ¬ (cx.A b ∨ ∃ s u, s ≠ q ∧ e1 s = some (.val u) ∧ 1 ≤ cnt w (vl s) b u) := by
        rintro b ⟨s, t, ht, hb⟩
        have := (rep_owned t _ (srep_val hRb ht) b hb).1
        exact ⟨this.2.1 rfl, this.1⟩
      have hkeep2 : Keeps cx.M cx.w0 w' := by
        have hk := hR.keeps
        have hk2 := hRb.keeps
        refine ⟨hk2.os.trans hk.os, hk2.tape.trans hk.tape, hk2.output.trans hk.output, Nat.le_trans hk.size hk2.size, fun b hb hm => ?_⟩
        refine (hsame b (Nat.lt_of_lt_of_le hb hk.size) fun hh => ?_).trans (hk.block b hb hm)
        rcases (hlt b (hMq b hh)).1.2.1 rfl with h1 | h1
        · omega
        · exact hm h1
      have h2 := hR.world (w' := w) (touch := fun _ => False) (N := fun b => w.heap.size ≤ b ∧ 1 ≤ cnt w' (.tuple (us.push v)) b (.tup (fs ++ [r]))) (fun _ _ _ => rfl) (fun _ _ _ _ h => h) (fun _ _ _ _ h => h.elim) hR.keeps (fun b hb => .inr hb.1)
      have h4 := h2.retag (w' := w') (touch := fun b => 1 ≤ cnt w (.tuple us) b (.tup ts)) (q := q) (d := q) (t' := .tup (fs ++ [r])) (v' := .tuple (us.push v)) (e' := e1.add q (.val (.tup (fs ++ [r])))) (add_self ..) hsame (fun b hb => by rw [hq]; exact hb) hkeep2
        (by
          simp only [Mch.rep]
          refine ⟨⟨_, rfl, by simp [hfl, hsz]⟩, ?_⟩
          have conv : ∀ (t : T) (x : Value), (∃ s, (e'.add q' (.val r)) s = some (.val t) ∧ x = vl' s) → Mch.rep cx.fm (okR { cx with N := fun b => w.heap.size ≤ b ∧ 1 ≤ cnt w' (.tuple (us.push v)) b (.tup (fs ++ [r])) } (fun b => (∃ s u, s ≠ q ∧ (e1.add q (.val (.tup ts))) s = some (.val u) ∧ 1 ≤ cnt w (vl s) b u) ∨ 1 ≤ cnt w' (.tuple (us.push v)) b (.tup (fs ++ [r])))) w' x t := by
            rintro t x ⟨s, h5, rfl⟩
            have hothq : ∀ b, (∃ s u, s ≠ q ∧ (e1.add q (.val (.tup ts))) s = some (.val u) ∧ 1 ≤ cnt w (vl s) b u) → ∃ s u, s ≠ q ∧ e1 s = some (.val u) ∧ 1 ≤ cnt w (vl s) b u := by
              rintro b ⟨s, u, g1, g2, g3⟩
              rw [add_ne g1] at g2
              exact ⟨s, u, g1, g2, g3⟩
            have hwsz := hR.keeps.size
            refine rep_ok (fun k b hk _ ho => ⟨fun hA => ho.1 (.inl hA), fun hh => (hk hh).elim, fun hh => Nat.le_trans hwsz (ho.2.2.1 hh), fun _ => ⟨fun hh => hh.elim (fun hh => ho.1 (.inr (hothq b hh))) (fun hh => (ho.2.2.2 hk).1 (hOwn b hh)), fun hh => (ho.2.2.2 hk).1 (hOwn b hh.2)⟩⟩) t _ (fun b hb _ _ => ?_) (srep_val hRb h5)
            obtain ⟨h6, h7⟩ := hnew b ⟨s, t, h5, hb⟩
            refine ⟨fun hA => h7 (.inl hA), fun _ => ?_, fun hh => (by cases hh), fun hh => (hh rfl).elim⟩
            rcases h6 with h6 | h6
            · exact .inl (Nat.le_trans hwsz h6)
            · exact (hlt b (hMq b h6)).1.2.1 rfl
          have all : ∀ (l : List T) (i : Nat), (∀ j t, l[j]? = some t → (fs ++ [r])[i + j]? = some t) → repL cx.fm (okR { cx with N := fun b => w.heap.size ≤ b ∧ 1 ≤ cnt w' (.tuple (us.push v)) b (.tup (fs ++ [r])) } (fun b => (∃ s u, s ≠ q ∧ (e1.add q (.val (.tup ts))) s = some (.val u) ∧ 1 ≤ cnt w (vl s) b u) ∨ 1 ≤ cnt w' (.tuple (us.push v)) b (.tup (fs ++ [r])))) w' (kid w' (.tuple (us.push v))) i l := by
            intro l
            induction l with
            | nil => intro i _; trivial
            | cons t l ih =>
              intro i hi
              refine ⟨?_, ih (i + 1) fun j u hj => by
                have := hi (j + 1) u (by simpa using hj)
                rwa [show i + (j + 1) = i + 1 + j from by omega] at this⟩
              have h0 := hi 0 t rfl
              rw [Nat.add_zero] at h0
              rw [hkn]
              rcases hpart i t h0 with ⟨g1, g2 | ⟨g2, g3, g4⟩⟩ | ⟨g1, g2, g3⟩
              · subst g2; trivial
              · by_cases hgo : e' i = some (.val t)
                · exact conv t _ ⟨i, by rw [add_ne g4]; exact hgo, g3⟩
                · have : t = .gone := by
                    subst g2
                    unfold slotT at hgo ⊢
                    split
                    · rename_i t ht; rw [ht] at hgo; exact (hgo rfl).elim
                    · rfl
                  subst this; trivial
              · subst g2
                exact conv t _ ⟨q', add_self .., g3⟩
          exact all _ 0 fun j t hj => by rwa [Nat.zero_add])
        (fun b => by
          simp only [cnt, hkn]
          refine cntL_one _ 0 (fun j t hj => ?_) (fun j k t u hjk hj hk ha hb => ?_)
          · rw [Nat.zero_add]
            rcases Nat.eq_zero_or_pos (cnt w' ((us.push v).getD j undef) b t) with h5 | h5
            · omega
            · obtain ⟨s, g1, g2, _⟩ := hslot j t b hj h5
              rw [g2]
              exact (hw' s t g1 b).1
          · rw [Nat.zero_add] at ha hb
            obtain ⟨s, g1, g2, g3⟩ := hslot j t b hj ha
            obtain ⟨s2, k1, k2, k3⟩ := hslot k u b hk hb
            rw [g2] at ha; rw [k2] at hb
            have h5 := (hw' s t g1 b).2 ha
            have h6 := (hw' s2 u k1 b).2 hb
            omega)
        (fun b hb => by
          rcases (hnew b (hOwn b hb)).1 with h5 | h5
          · exact .inr ⟨⟨h5, hb⟩, fun hh => by have := (hlt b hh).2; omega⟩
          · exact .inl (by rw [hq]; exact h5))
        (add_self ..) (fun s x hs hx => by
          rw [add_ne hs] at hx
          refine ⟨hs, by rw [add_ne hs]; exact hx, fun r' hr => ?_⟩
          have hne : r' ≠ q := fun e' => by subst e'; rw [(hc r' (Nat.le_refl _)).2 s x hx] at hr; cases hr
          exact ⟨hne, hne, by rw [add_ne hne, add_ne hne]⟩)
      exact h4.unN (N := cx.N) (fun b hb => (hN b hb).elim)
    · have hsq : s ≠ q := fun e' => by subst e'; rw [hnq] at hs; cases hs
      refine frame_node hsame p t (vl s) (srep_val hR (by rw [add_ne hsq]; exact hs)) (fun b hb => ?_) hpu
      rcases Nat.eq_zero_or_pos (cnt w (vl s) b t) with h5 | h5
      · exact h5
      · exact (hdis b hb (.inr ⟨s, t, hsq, hs, h5⟩)).elim

end Go.Mch
