/- Our texts YdA YdB YdC YdD YdE YbV YbW YbX YbY YbZ YcA YcB YcC, end to end. -/
import Derived.Test.YtmeimdfldiaboaaM2
import Derived.Orders
/- Calls that are handed own memory: what the callee makes of it. -/
namespace Go.Mch

theorem lendL_length : ∀ ts : List T, (T.lendL ts).length = ts.length
  | [] => rfl
  | t :: ts => by simp [T.lendL, lendL_length ts]

theorem lendL_get : ∀ (ts : List T) (i : Nat), (T.lendL ts)[i]? = (ts[i]?).map T.lend
  | [], _ => by simp [T.lendL]
  | t :: ts, 0 => by simp [T.lendL]
  | t :: ts, i + 1 => by simpa [T.lendL] using lendL_get ts i

mutual
theorem noOwn_lend : ∀ t : T, t.noOwn = true → t.lend.noOwn = true
  | .sc _, _ => rfl
  | .gone, _ => rfl
  | .nul, _ => rfl
  | .fn f caps, _ => by simp only [T.lend, T.noOwn]; exact eryL_noOwn (by decide) caps
  | .agg ts, h => by simp only [T.lend, T.noOwn] at h ⊢; exact noOwnL_lend ts h
  | .tup ts, h => by simp only [T.lend, T.noOwn] at h ⊢; exact noOwnL_lend ts h
  | .mem k s ts, h => by
    simp only [T.lend, T.noOwn, Bool.and_eq_true, bne_iff_ne, ne_eq] at h ⊢
    refine ⟨?_, noOwnL_lend ts h.2⟩
    rw [if_neg h.1]; decide
theorem noOwnL_lend : ∀ ts : List T, T.noOwnL ts = true → T.noOwnL (T.lendL ts) = true
  | [], _ => rfl
  | t :: ts, h => by
    simp only [T.lendL, T.noOwnL, Bool.and_eq_true] at h ⊢
    exact ⟨noOwn_lend t h.1, noOwnL_lend ts h.2⟩
end

mutual
theorem cnt_lend {w : World} {b : Nat} : ∀ (t : T) (v : Value), cnt w v b t.lend = cnt w v b t
  | .sc _, _ => rfl
  | .gone, _ => rfl
  | .nul, _ => rfl
  | .fn f caps, _ => rfl
  | .agg ts, v => by simp only [T.lend, cnt]; exact cntL_lend ts _ 0
  | .tup ts, v => by simp only [T.lend, cnt]; exact cntL_lend ts _ 0
  | .set _, _ => rfl
  | .mem k s ts, v => by
    by_cases hk : k = .own
    · subst hk; simp only [T.lend, if_true, cnt_own, cntL_lend ts _ 0]
    · simp only [T.lend, if_neg hk]; rw [cnt_imm hk, cnt_imm (by decide)]
theorem cntL_lend {w : World} {b : Nat} : ∀ (ts : List T) (g : Nat → Value) (i : Nat), cntL w g b i (T.lendL ts) = cntL w g b i ts
  | [], _, _ => rfl
  | t :: ts, g, i => by simp only [T.lendL, cntL, cnt_lend t, cntL_lend ts]
end

mutual
theorem rep_lend {fm : Nat → Nat} {ok ok' : K → Nat → Prop} {w : World} (hok : ∀ k b, k ≠ .own → ok k b → ok' .old b) :
    ∀ (t : T) (v : Value), (∀ b, 1 ≤ cnt w v b t → ok .own b → ok' .own b) → rep fm ok w v t → rep fm ok' w v t.lend
  | .sc _, _, _, h => h
  | .gone, _, _, _ => trivial
  | .nul, _, _, h => h
  | .fn f caps, v, _, h => by
    simp only [rep, T.lend] at h ⊢
    exact ⟨by rw [eryL_length]; exact h.1, eryL_noOwn (by decide) caps, repL_ery hok caps _ 0 (.inl h.2.1) h.2.2⟩
  | .agg ts, v, ho, h => by
    simp only [rep, T.lend, cnt] at h ho ⊢
    exact ⟨by rw [lendL_length]; exact h.1, repL_lend hok ts _ 0 ho h.2⟩
  | .tup ts, v, ho, h => by
    simp only [rep, T.lend, cnt] at h ho ⊢
    exact ⟨by rw [lendL_length]; exact h.1, repL_lend hok ts _ 0 ho h.2⟩
  | .set ks, v, ho, h => by
    simp only [rep, T.lend, cnt] at h ho ⊢
    exact ⟨h.1, ho _ (by simp) h.2⟩
  | .mem k s ts, v, ho, h => by
    simp only [T.lend]
    rw [rep_mem] at h ⊢
    rw [lendL_length]
    obtain ⟨h1, h2, h3, h4, h5⟩ := h
    by_cases hk : k = .own
    · subst hk
      simp only [cnt_own] at ho
      rw [if_pos rfl]
      exact ⟨h1, fun _ => ho _ (by simp) (h2 (.inl rfl)), h3, fun hh => (hh rfl).elim, repL_lend hok ts _ 0 (fun b hb => ho b (by omega)) h5⟩
    · rw [if_neg hk]
      refine ⟨h1, fun hh => ?_, fun hh => (by cases hh), fun _ => noOwnL_lend ts (h4 hk), repL_lend hok ts _ 0 (fun b hb => by rw [cntL_noOwn w _ b ts 0 (h4 hk)] at hb; omega) h5⟩
      rcases hh with hh | hh
      · cases hh
      · refine hok k _ hk (h2 (.inr fun e' => hh ?_))
        rw [e']; rfl
theorem repL_lend {fm : Nat → Nat} {ok ok' : K → Nat → Prop} {w : World} (hok : ∀ k b, k ≠ .own → ok k b → ok' .old b) :
    ∀ (ts : List T) (g : Nat → Value) (i : Nat), (∀ b, 1 ≤ cntL w g b i ts → ok .own b → ok' .own b) → repL fm ok w g i ts → repL fm ok' w g i (T.lendL ts)
  | [], _, _, _, _ => trivial
  | t :: ts, g, i, ho, h => by
    simp only [repL, T.lendL, cntL] at h ho ⊢
    exact ⟨rep_lend hok t _ (fun b hb => ho b (by omega)) h.1, repL_lend hok ts g (i + 1) (fun b hb => ho b (by omega)) h.2⟩
end

theorem cntL_ex {w : World} {g : Nat → Value} {b : Nat} : ∀ (ts : List T) (i : Nat), 1 ≤ cntL w g b i ts → ∃ j t, ts[j]? = some t ∧ 1 ≤ cnt w (g (i + j)) b t
  | [], _, h => by simp [cntL] at h
  | t :: ts, i, h => by
    simp only [cntL] at h
    by_cases h1 : 1 ≤ cnt w (g i) b t
    · exact ⟨0, t, rfl, h1⟩
    · have h0 : 1 ≤ cntL w g b (i + 1) ts := by omega
      obtain ⟨j, u, h2, h3⟩ := cntL_ex ts (i + 1) h0
      exact ⟨j + 1, u, by simpa using h2, by rwa [show i + (j + 1) = i + 1 + j from by omega]⟩

theorem cntL_one {w : World} {g : Nat → Value} {b : Nat} : ∀ (ts : List T) (i : Nat), (∀ j t, ts[j]? = some t → cnt w (g (i + j)) b t ≤ 1) →
    (∀ j k t u, j < k → ts[j]? = some t → ts[k]? = some u → 1 ≤ cnt w (g (i + j)) b t → 1 ≤ cnt w (g (i + k)) b u → False) → cntL w g b i ts ≤ 1
  | [], _, _, _ => by simp [cntL]
  | t :: ts, i, h1, h2 => by
    simp only [cntL]
    have h3 := h1 0 t rfl
    rw [Nat.add_zero] at h3
    have h4 := cntL_one (w := w) (g := g) (b := b) ts (i + 1) (fun j u hj => by
      have := h1 (j + 1) u (by simpa using hj)
      rwa [show i + (j + 1) = i + 1 + j from by omega] at this) (fun j k u u' hjk hj hk ha hb => h2 (j + 1) (k + 1) u u' (by omega) (by simpa using hj) (by simpa using hk)
        (by rwa [show i + (j + 1) = i + 1 + j from by omega]) (by rwa [show i + (k + 1) = i + 1 + k from by omega]))
    rcases Nat.eq_zero_or_pos (cnt w (g i) b t) with h5 | h5
    · omega
    · rcases Nat.eq_zero_or_pos (cntL w g b (i + 1) ts) with h6 | h6
      · omega
      · obtain ⟨j, u, h7, h8⟩ := cntL_ex ts (i + 1) h6
        exact (h2 0 (j + 1) t u (by omega) rfl (by simpa using h7) h5 (by rwa [show i + (j + 1) = i + 1 + j from by omega])).elim

theorem backArgs_get {e : Env} : ∀ (ts : List T) (s i : Nat), (backArgs e s ts)[i]? = (ts[i]?).map fun t => if t.noOwn then t else slotT e (s + i)
  | [], _, _ => by simp [backArgs]
  | t :: ts, s, 0 => by simp [backArgs]
  | t :: ts, s, i + 1 => by
    simp only [backArgs, List.getElem?_cons_succ]
    rw [backArgs_get ts (s + 1) i, show s + 1 + i = s + (i + 1) from by omega]

theorem slotT_own {e : Env} {s : Nat} {v : Value} {w : World} {b : Nat} (h : 1 ≤ cnt w v b (slotT e s)) : e s = some (.val (slotT e s)) := by
  unfold slotT at *
  split at h
  · rename_i t ht; rw [ht]
  · simp [cnt] at h

/-- A call that is handed a float: what it leaves. -/
theorem callm_core {P : Program} {cx : Cx} {q : Nat} {e1 : Env} {vl : Vl} {w : World} {ts caps ts' : List T} {us cs : Array Value} {id : Nat} {r : T} (hN : ∀ b, ¬ cx.N b)
    (hR : R cx (e1.add q (.val (.tup ts))) vl w) (hc : Clr e1 q) (hq : vl q = .tuple us) (hcs : cs.size = caps.length) (hno : T.noOwnL caps = true)
    (hcaps : repL cx.fm (okR cx (Own (e1.add q (.val (.tup ts))) vl w)) w (fun j => cs.getD j undef) 0 caps)
    (hp : Pact P cx.fm id (T.lendL ts ++ T.eryL .old caps) (ts' ++ T.eryL .old caps) r) (hl : ts'.length = ts.length) :
    Calls P (cx.fm id) (us ++ cs) w fun en w' => ∃ v, en = .returned v ∧ ∃ fs : List T, fs.length = ts.length ∧ (∀ (i : Nat) (t : T), ts[i]? = some t → t.lend.noOwn = false → fs[i]? = ts'[i]?) ∧
      R cx (e1.add q (.val (.tup (fs ++ [r])))) (vadd vl q (.tuple (us.push v))) w' ∧ ∀ p s t u, e1 s = some (.val t) → t.at p = some u → nodeV w' (vl s) p = nodeV w (vl s) p := by
  obtain ⟨who, hw⟩ := hR.who
  have hrep := srep_val hR (add_self ..)
  rw [hq] at hrep
  simp only [Mch.rep] at hrep
  obtain ⟨⟨_, hus, hsz⟩, hrepL⟩ := hrep
  cases hus
  have hkid : kid w (.tuple us) = fun i => us.getD i undef := rfl
  have hlt : ∀ b, Own (e1.add q (.val (.tup ts))) vl w b → okR cx (Own (e1.add q (.val (.tup ts))) vl w) .own b ∧ b < w.heap.size := by
    rintro b ⟨s, t, ht, hb⟩
    exact rep_owned t _ (srep_val hR ht) b hb
  have hnq : e1 q = none := (hc q (Nat.le_refl _)).1
  have hoth : ∀ b, (∃ s u, s ≠ q ∧ e1 s = some (.val u) ∧ 1 ≤ cnt w (vl s) b u) → Own (e1.add q (.val (.tup ts))) vl w b := by
    rintro b ⟨s, u, h1, h2, h3⟩
    exact ⟨s, u, by rw [add_ne h1]; exact h2, h3⟩
  have hMq : ∀ b, 1 ≤ cnt w (.tuple us) b (.tup ts) → Own (e1.add q (.val (.tup ts))) vl w b := fun b hb => ⟨q, _, add_self .., by rw [hq]; exact hb⟩
  have hA' : ∀ b, (cx.A b ∨ ∃ s u, s ≠ q ∧ e1 s = some (.val u) ∧ 1 ≤ cnt w (vl s) b u) → b < w.heap.size := fun b hb => by
    rcases hb with h1 | h1
    · have := cx.hA b h1; have := hR.keeps.size; omega
    · exact (hlt b (hoth b h1)).2
  have hdis : ∀ b, 1 ≤ cnt w (.tuple us) b (.tup ts) → ¬ (cx.A b ∨ ∃ s u, s ≠ q ∧ e1 s = some (.val u) ∧ 1 ≤ cnt w (vl s) b u) := by
    rintro b hb (h1 | ⟨s, u, h1, h2, h3⟩)
    · exact (hlt b (hMq b hb)).1.1 h1
    · have h4 := (hw q _ (add_self ..) b).2 (by rw [hq]; exact hb)
      have h5 := (hw s u (by rw [add_ne h1]; exact h2) b).2 h3
      exact h1 (h5.symm.trans h4)
  have hlen : (us ++ cs).size = (T.lendL ts ++ T.eryL .old caps).length := by simp [hcs, hsz, eryL_length, lendL_length]
  -- the callee's slots
  have hval : ∀ s t, (T.lendL ts ++ T.eryL .old caps)[s]? = some t → (∃ u, ts[s]? = some u ∧ t = u.lend ∧ s < ts.length ∧ (us ++ cs).getD s undef = us.getD s undef) ∨ (ts.length ≤ s ∧ t.noOwn = true) := fun s t ht => by
    rcases Nat.lt_or_ge s ts.length with h1 | h1
    · rw [List.getElem?_append_left (by rw [lendL_length]; exact h1), lendL_get, Option.map_eq_some_iff] at ht
      obtain ⟨u, h2, h3⟩ := ht
      refine .inl ⟨u, h2, h3.symm, h1, ?_⟩
      simp only [Array.getD_eq_getD_getElem?]
      rw [Array.getElem?_append_left (by omega)]
    · rw [List.getElem?_append_right (by rw [lendL_length]; exact h1)] at ht
      exact .inr ⟨h1, noOwnL_get (eryL_noOwn (by decide) caps) ht⟩
  have hown' : ∀ b, Own (init (T.lendL ts ++ T.eryL .old caps)) (fun s => (us ++ cs).getD s undef) w b → 1 ≤ cnt w (.tuple us) b (.tup ts) := by
    rintro b ⟨s, t, ht, hb⟩
    obtain ⟨t', h1, h2⟩ := init_some ht
    cases h2
    rcases hval s t h1 with ⟨u, h3, rfl, h4, h5⟩ | ⟨h3, h4⟩
    · simp only at hb
      rw [h5, cnt_lend] at hb
      have := cntL_get (w := w) (g := fun i => us.getD i undef) (b := b) ts 0 s h3
      simp only [Nat.zero_add] at this
      simp only [cnt, hkid]
      omega
    · rw [cnt_noOwn _ _ _ _ h4] at hb; omega
  have htwo : ∀ b s s' t t', s ≠ s' → ts[s]? = some t → ts[s']? = some t' → 1 ≤ cnt w (us.getD s undef) b t → 1 ≤ cnt w (us.getD s' undef) b t' → False := fun b s s' t t' hne h1 h2 h3 h4 => by
    have h5 := node_still.cntL_two (w := w) (g := fun i => us.getD i undef) (b := b) ts 0 s s' hne h1 h2
    simp only [Nat.zero_add] at h5
    have h6 := (hw q _ (add_self ..) b).1
    rw [hq] at h6
    simp only [cnt, hkid] at h6
    omega
  generalize hcx : cx0 cx.fm w (fun b => cx.A b ∨ ∃ s u, s ≠ q ∧ e1 s = some (.val u) ∧ 1 ≤ cnt w (vl s) b u) (fun b => 1 ≤ cnt w (.tuple us) b (.tup ts)) hA' = cx'
  have hok : ∀ k b, k ≠ .own → okR cx (Own (e1.add q (.val (.tup ts))) vl w) k b → okR cx' (Own (init (T.lendL ts ++ T.eryL .old caps)) (fun s => (us ++ cs).getD s undef) w) .old b := fun k b hk ho => by
    subst hcx
    refine ⟨fun hh => ?_, fun hh => (by cases hh), fun hh => (by cases hh), fun _ => ⟨fun hh => (ho.2.2.2 hk).1 (hMq b (hown' b hh)), fun h => h⟩⟩
    rcases hh with hh | hh
    · exact ho.1 hh
    · exact (ho.2.2.2 hk).1 (hoth b hh)
  have hL : repL cx.fm (okR cx' (Own (init (T.lendL ts ++ T.eryL .old caps)) (fun s => (us ++ cs).getD s undef) w)) w (fun s => (us ++ cs).getD s undef) 0 (T.lendL ts ++ T.eryL .old caps) := by
    rw [repL_append]
    refine ⟨repL_congr _ 0 (fun j _ hj => ?_) (repL_lend hok ts _ 0 (fun b hb _ => ?_) hrepL), ?_⟩
    · rw [lendL_length] at hj
      simp only [kid, Array.getD_eq_getD_getElem?]
      rw [Array.getElem?_append_left (by omega)]
    · subst hcx
      exact ⟨hdis b hb, fun _ => .inr hb, fun hh => (by cases hh), fun hh => (hh rfl).elim⟩
    · have h9 := repL_ery hok caps _ 0 (.inl hno) hcaps
      have h10 := (repL_shift (fm := cx.fm) (ok := okR cx' (Own (init (T.lendL ts ++ T.eryL .old caps)) (fun s => (us ++ cs).getD s undef) w)) (w := w) (g := fun s => (us ++ cs).getD s undef) (T.eryL .old caps) 0 ts.length).2
      rw [lendL_length]
      refine h10 (repL_congr _ 0 (fun j _ hj => ?_) h9)
      simp only [Array.getD_eq_getD_getElem?]
      rw [Array.getElem?_append_right (by omega)]
      congr 2
      omega
  have hR' : R cx' (init (T.lendL ts ++ T.eryL .old caps)) (fun s => (us ++ cs).getD s undef) w := by
    refine ⟨by subst hcx; exact Keeps.refl _ _, ?_, fun s x hx => ?_⟩
    · refine ⟨fun b => Classical.epsilon fun i => ∃ t, ts[i]? = some t ∧ 1 ≤ cnt w (us.getD i undef) b t, fun s t ht b => ?_⟩
      obtain ⟨t', h1, h2⟩ := init_some ht
      cases h2
      rcases hval s t h1 with ⟨u, h3, rfl, h4, h5⟩ | ⟨h3, h4⟩
      · simp only
        rw [h5, cnt_lend]
        refine ⟨?_, fun h6 => ?_⟩
        · have := cntL_get (w := w) (g := fun i => us.getD i undef) (b := b) ts 0 s h3
          simp only [Nat.zero_add] at this
          have h6 := (hw q _ (add_self ..) b).1
          rw [hq] at h6
          simp only [cnt, hkid] at h6
          omega
        · have hex : ∃ i t, ts[i]? = some t ∧ 1 ≤ cnt w (us.getD i undef) b t := ⟨s, u, h3, h6⟩
          obtain ⟨t2, h7, h8⟩ := Classical.epsilon_spec hex
          by_cases hne : Classical.epsilon (fun i => ∃ t, ts[i]? = some t ∧ 1 ≤ cnt w (us.getD i undef) b t) = s
          · exact hne
          · exact (htwo b _ s t2 u hne h7 h3 h8 h6).elim
      · rw [cnt_noOwn _ _ _ _ h4]
        exact ⟨by omega, fun h => by omega⟩
    · obtain ⟨t, h1, rfl⟩ := init_some hx
      have := repL_get _ 0 s hL h1
      rw [Nat.zero_add] at this
      refine .inl ⟨t, rfl, ?_⟩
      have hfm : cx'.fm = cx.fm := by subst hcx; rfl
      rw [hfm]
      exact this
  subst hcx
  have hkind : kindOf (T.lendL ts ++ T.eryL .old caps) = .fresh → ∀ b, ¬ 1 ≤ cnt w (.tuple us) b (.tup ts) := fun hk b hb => by
    unfold kindOf at hk
    split at hk
    · rename_i hn
      simp only [cnt] at hb
      rw [← cntL_lend] at hb
      have h1 : T.noOwnL (T.lendL ts) = true := by
        rw [noOwnL_append, Bool.and_eq_true] at hn; exact hn.1
      rw [cntL_noOwn _ _ _ _ _ h1] at hb
      omega
    · cases hk
  refine Calls.mono (hp.2 w (us ++ cs) _ _ hA' hlen hkind hR') fun en w' hbk => ?_
  cases en with
  | panicked c => exact hbk.elim
  | outgrown => exact hbk.elim
  | returned v =>
    obtain ⟨q', e', vl', hq', hRb, hcb, hv, hargs, hfix⟩ := hbk
    have hsame : ∀ b, b < w.heap.size → ¬ 1 ≤ cnt w (.tuple us) b (.tup ts) → w'.heap[b]? = w.heap[b]? := fun b hb hm => hRb.keeps.block b hb hm
    have hn' : (T.lendL ts ++ T.eryL .old caps).length = ts.length + caps.length := by simp [lendL_length, eryL_length]
    -- the float's new trees
    have hfs : ∃ fs : List T, fs.length = ts.length ∧ (∀ (i : Nat) (t : T), ts[i]? = some t → t.lend.noOwn = false → fs[i]? = ts'[i]? ∧ fs[i]? = some (slotT e' i)) ∧ (∀ (i : Nat) (t : T), ts[i]? = some t → t.lend.noOwn = true → fs[i]? = some .gone) := by
      refine ⟨(List.range ts.length).map fun i => if (ts.getD i .gone).lend.noOwn then .gone else slotT e' i, by simp, fun i t ht hn => ?_, fun i t ht hn => ?_⟩
      · have hi : i < ts.length := by
          rcases Nat.lt_or_ge i ts.length with h | h
          · exact h
          · rw [List.getElem?_eq_none h] at ht; cases ht
        have hg : ts.getD i .gone = t := by rw [List.getD_eq_getElem?_getD, ht]; rfl
        have h1 : ((List.range ts.length).map fun i => if (ts.getD i .gone).lend.noOwn then T.gone else slotT e' i)[i]? = some (slotT e' i) := by
          rw [List.getElem?_map, List.getElem?_range hi]
          simp only [Option.map_some, hg, hn]
          rfl
        refine ⟨?_, h1⟩
        rw [h1]
        have h2 := congrArg (fun l => l[i]?) hargs
        simp only [backArgs_get, Nat.zero_add] at h2
        rw [List.getElem?_append_left (by omega), List.getElem?_append_left (by rw [lendL_length]; exact hi), lendL_get, ht] at h2
        simp only [Option.map_some, hn] at h2
        exact h2.symm
      · have hi : i < ts.length := by
          rcases Nat.lt_or_ge i ts.length with h | h
          · exact h
          · rw [List.getElem?_eq_none h] at ht; cases ht
        have hg : ts.getD i .gone = t := by rw [List.getD_eq_getElem?_getD, ht]; rfl
        rw [List.getElem?_map, List.getElem?_range hi]
        simp only [Option.map_some, hg, hn]
        rfl
    obtain ⟨fs, hfl, hf1, hf2⟩ := hfs
    refine ⟨v, rfl, fs, hfl, fun i t ht hn => (hf1 i t ht hn).1, ?_, fun p s t u hs hpu => ?_⟩
    · -- where a part of the new float is owned
      have hpart : ∀ j t, (fs ++ [r])[j]? = some t → (j < ts.length ∧ ((t = .gone) ∨ (t = slotT e' j ∧ (us.push v).getD j undef = vl' j ∧ j ≠ q'))) ∨ (j = ts.length ∧ t = r ∧ (us.push v).getD j undef = vl' q') := fun j t hj => by
        rcases Nat.lt_or_ge j ts.length with h1 | h1
        · refine .inl ⟨h1, ?_⟩
          rw [List.getElem?_append_left (by omega)] at hj
          obtain ⟨u, hu⟩ : ∃ u, ts[j]? = some u := ⟨_, List.getElem?_eq_getElem h1⟩
          cases hn : u.lend.noOwn with
          | true => rw [hf2 j u hu hn] at hj; cases hj; exact .inl rfl
          | false =>
            rw [(hf1 j u hu hn).2] at hj
            cases hj
            refine .inr ⟨rfl, ?_, by omega⟩
            have h2 := hfix j (by omega) (by
              rw [List.getD_eq_getElem?_getD, List.getElem?_append_left (by rw [lendL_length]; exact h1), lendL_get, hu]
              exact hn)
            rw [h2]
            simp only [Array.getD_eq_getD_getElem?]
            rw [Array.getElem?_append_left (by omega), Array.getElem?_push, if_neg (by omega)]
        · have h2 : j = ts.length := by
            rcases Nat.lt_or_ge ts.length j with h2 | h2
            · rw [List.getElem?_eq_none (by simp; omega)] at hj; cases hj
            · omega
          subst h2
          rw [List.getElem?_append_right (by omega), hfl] at hj
          simp only [Nat.sub_self, List.getElem?_cons_zero, Option.some.injEq] at hj
          refine .inr ⟨rfl, hj.symm, ?_⟩
          rw [hv, Array.getD_eq_getD_getElem?, Array.getElem?_push, if_pos (by omega)]
          rfl
      obtain ⟨who', hw'⟩ := hRb.who
      have hslot : ∀ j t b, (fs ++ [r])[j]? = some t → 1 ≤ cnt w' ((us.push v).getD j undef) b t → ∃ s, (e'.add q' (.val r)) s = some (.val t) ∧ (us.push v).getD j undef = vl' s ∧ ((j < ts.length ∧ s = j ∧ s ≠ q') ∨ (j = ts.length ∧ s = q')) := fun j t b hj hb => by
        rcases hpart j t hj with ⟨h1, h2 | ⟨h2, h3, h4⟩⟩ | ⟨h1, h2, h3⟩
        · subst h2; simp [cnt] at hb
        · subst h2
          exact ⟨j, by rw [add_ne h4]; exact slotT_own hb, h3, .inl ⟨h1, rfl, h4⟩⟩
        · subst h2
          exact ⟨q', add_self .., h3, .inr ⟨h1, rfl⟩⟩
      have hkn : kid w' (.tuple (us.push v)) = fun i => (us.push v).getD i undef := rfl
      have hOwn : ∀ b, 1 ≤ cnt w' (.tuple (us.push v)) b (.tup (fs ++ [r])) → Own (e'.add q' (.val r)) vl' w' b := fun b hb => by
        simp only [cnt, hkn] at hb
        obtain ⟨j, t, hj, hb⟩ := cntL_ex _ 0 hb
        rw [Nat.zero_add] at hb
        obtain ⟨s, h1, h2, _⟩ := hslot j t b hj hb
        exact ⟨s, t, h1, by rw [← h2]; exact hb⟩
      have hnew : ∀ b, Own (e'.add q' (.val r)) vl' w' b → (w.heap.size ≤ b ∨ 1 ≤ cnt w (.tuple us) b (.tup ts)) ∧ ¬ (cx.A b ∨ ∃ s u, s ≠ q ∧ e1 s = some (.val u) ∧ 1 ≤ cnt w (vl s) b u) := by
        rintro b ⟨s, t, ht, hb⟩
        have := (rep_owned t _ (srep_val hRb ht) b hb).1
        exact ⟨this.2.1 rfl, this.1⟩
      have hkeep2 : Keeps cx.M cx.w0 w' := by
        have hk := hR.keeps
        have hk2 := hRb.keeps
        refine ⟨hk2.os.trans hk.os, hk2.tape.trans hk.tape, hk2.output.trans hk.output, Nat.le_trans hk.size hk2.size, fun b hb hm => ?_⟩
        refine (hsame b (Nat.lt_of_lt_of_le hb hk.size) fun hh => ?_).trans (hk.block b hb hm)
        rcases (hlt b (hMq b hh)).1.2.1 rfl with h1 | h1
        · omega
        · exact hm h1
      have h2 := hR.world (w' := w) (touch := fun _ => False) (N := fun b => w.heap.size ≤ b ∧ 1 ≤ cnt w' (.tuple (us.push v)) b (.tup (fs ++ [r]))) (fun _ _ _ => rfl) (fun _ _ _ _ h => h) (fun _ _ _ _ h => h.elim) hR.keeps (fun b hb => .inr hb.1)
      have h4 := h2.retag (w' := w') (touch := fun b => 1 ≤ cnt w (.tuple us) b (.tup ts)) (q := q) (d := q) (t' := .tup (fs ++ [r])) (v' := .tuple (us.push v)) (e' := e1.add q (.val (.tup (fs ++ [r])))) (add_self ..) hsame (fun b hb => by rw [hq]; exact hb) hkeep2
        (by
          simp only [Mch.rep]
          refine ⟨⟨_, rfl, by simp [hfl, hsz]⟩, ?_⟩
          have conv : ∀ (t : T) (x : Value), (∃ s, (e'.add q' (.val r)) s = some (.val t) ∧ x = vl' s) → Mch.rep cx.fm (okR { cx with N := fun b => w.heap.size ≤ b ∧ 1 ≤ cnt w' (.tuple (us.push v)) b (.tup (fs ++ [r])) } (fun b => (∃ s u, s ≠ q ∧ (e1.add q (.val (.tup ts))) s = some (.val u) ∧ 1 ≤ cnt w (vl s) b u) ∨ 1 ≤ cnt w' (.tuple (us.push v)) b (.tup (fs ++ [r])))) w' x t := by
            rintro t x ⟨s, h5, rfl⟩
            have hothq : ∀ b, (∃ s u, s ≠ q ∧ (e1.add q (.val (.tup ts))) s = some (.val u) ∧ 1 ≤ cnt w (vl s) b u) → ∃ s u, s ≠ q ∧ e1 s = some (.val u) ∧ 1 ≤ cnt w (vl s) b u := by
              rintro b ⟨s, u, g1, g2, g3⟩
              rw [add_ne g1] at g2
              exact ⟨s, u, g1, g2, g3⟩
            have hwsz := hR.keeps.size
            refine rep_ok (fun k b hk _ ho => ⟨fun hA => ho.1 (.inl hA), fun hh => (hk hh).elim, fun hh => Nat.le_trans hwsz (ho.2.2.1 hh), fun _ => ⟨fun hh => hh.elim (fun hh => ho.1 (.inr (hothq b hh))) (fun hh => (ho.2.2.2 hk).1 (hOwn b hh)), fun hh => (ho.2.2.2 hk).1 (hOwn b hh.2)⟩⟩) t _ (fun b hb _ _ => ?_) (srep_val hRb h5)
            obtain ⟨h6, h7⟩ := hnew b ⟨s, t, h5, hb⟩
            refine ⟨fun hA => h7 (.inl hA), fun _ => ?_, fun hh => (by cases hh), fun hh => (hh rfl).elim⟩
            rcases h6 with h6 | h6
            · exact .inl (Nat.le_trans hwsz h6)
            · exact (hlt b (hMq b h6)).1.2.1 rfl
          have all : ∀ (l : List T) (i : Nat), (∀ j t, l[j]? = some t → (fs ++ [r])[i + j]? = some t) → repL cx.fm (okR { cx with N := fun b => w.heap.size ≤ b ∧ 1 ≤ cnt w' (.tuple (us.push v)) b (.tup (fs ++ [r])) } (fun b => (∃ s u, s ≠ q ∧ (e1.add q (.val (.tup ts))) s = some (.val u) ∧ 1 ≤ cnt w (vl s) b u) ∨ 1 ≤ cnt w' (.tuple (us.push v)) b (.tup (fs ++ [r])))) w' (kid w' (.tuple (us.push v))) i l := by
            intro l
            induction l with
            | nil => intro i _; trivial
            | cons t l ih =>
              intro i hi
              refine ⟨?_, ih (i + 1) fun j u hj => by
                have := hi (j + 1) u (by simpa using hj)
                rwa [show i + (j + 1) = i + 1 + j from by omega] at this⟩
              have h0 := hi 0 t rfl
              rw [Nat.add_zero] at h0
              rw [hkn]
              rcases hpart i t h0 with ⟨g1, g2 | ⟨g2, g3, g4⟩⟩ | ⟨g1, g2, g3⟩
              · subst g2; trivial
              · by_cases hgo : e' i = some (.val t)
                · exact conv t _ ⟨i, by rw [add_ne g4]; exact hgo, g3⟩
                · have : t = .gone := by
                    subst g2
                    unfold slotT at hgo ⊢
                    split
                    · rename_i t ht; rw [ht] at hgo; exact (hgo rfl).elim
                    · rfl
                  subst this; trivial
              · subst g2
                exact conv t _ ⟨q', add_self .., g3⟩
          exact all _ 0 fun j t hj => by rwa [Nat.zero_add])
        (fun b => by
          simp only [cnt, hkn]
          refine cntL_one _ 0 (fun j t hj => ?_) (fun j k t u hjk hj hk ha hb => ?_)
          · rw [Nat.zero_add]
            rcases Nat.eq_zero_or_pos (cnt w' ((us.push v).getD j undef) b t) with h5 | h5
            · omega
            · obtain ⟨s, g1, g2, _⟩ := hslot j t b hj h5
              rw [g2]
              exact (hw' s t g1 b).1
          · rw [Nat.zero_add] at ha hb
            obtain ⟨s, g1, g2, g3⟩ := hslot j t b hj ha
            obtain ⟨s2, k1, k2, k3⟩ := hslot k u b hk hb
            rw [g2] at ha; rw [k2] at hb
            have h5 := (hw' s t g1 b).2 ha
            have h6 := (hw' s2 u k1 b).2 hb
            omega)
        (fun b hb => by
          rcases (hnew b (hOwn b hb)).1 with h5 | h5
          · exact .inr ⟨⟨h5, hb⟩, fun hh => by have := (hlt b hh).2; omega⟩
          · exact .inl (by rw [hq]; exact h5))
        (add_self ..) (fun s x hs hx => by
          rw [add_ne hs] at hx
          refine ⟨hs, by rw [add_ne hs]; exact hx, fun r' hr => ?_⟩
          have hne : r' ≠ q := fun e' => by subst e'; rw [(hc r' (Nat.le_refl _)).2 s x hx] at hr; cases hr
          exact ⟨hne, hne, by rw [add_ne hne, add_ne hne]⟩)
      exact h4.unN (N := cx.N) (fun b hb => (hN b hb).elim)
    · have hsq : s ≠ q := fun e' => by subst e'; rw [hnq] at hs; cases hs
      refine frame_node hsame p t (vl s) (srep_val hR (by rw [add_ne hsq]; exact hs)) (fun b hb => ?_) hpu
      rcases Nat.eq_zero_or_pos (cnt w (vl s) b t) with h5 | h5
      · exact h5
      · exact (hdis b hb (.inr ⟨s, t, hsq, hs, h5⟩)).elim

end Go.Mch
/- Calls that are handed own memory: what is put back; boxes; what a slot names it takes. -/
namespace Go.Mch

mutual
/-- A value is that of the places that it names. -/
def Fits (w : World) (vl : Vl) (q : Nat) (v : Value) : V → Prop
  | .val _ => True
  | .sref r p _ _ _ => r < q ∧ nodeV w (vl r) p = v
  | .pref r p _ => r < q ∧ nodeV w (vl r) p = v
  | .vagg vs => FitsL w vl q (kid w v) 0 vs
  | .vtup _ => False
  | .same _ => False
  | .vfn _ _ => False
def FitsL (w : World) (vl : Vl) (q : Nat) (g : Nat → Value) (i : Nat) : List V → Prop
  | [] => True
  | x :: xs => Fits w vl q (g i) x ∧ FitsL w vl q g (i + 1) xs
end

mutual
theorem fits_of {fm : Nat → Nat} {ok : K → Nat → Prop} {e e1 : Env} {vl vl' : Vl} {w w' : World} {q : Nat} (hd : ∀ j, q ≤ j → e j = none) (hnode : ∀ r p, r < q → e1.isHole r p = true → nodeV w' (vl' r) p = nodeV w (vl r) p) (hshp : ∀ r p s ts t, e r = some (.val t) → t.at p = some (.mem .own s ts) → shp w (nodeV w (vl r) p) s ts.length) :
    ∀ (x : V) (v : Value), arep fm ok e vl w v x → e.whole x = true → e1.hole x = true → Fits w' vl' q v x
  | .val _, _, _, _, _ => trivial
  | .sref r p sz off len, v, h, hw, hh => by
    simp only [arep] at h
    simp only [Env.whole, Bool.and_eq_true, beq_iff_eq] at hw
    simp only [Env.hole] at hh
    obtain ⟨h0, t, ts, h1, h2, h3, o', h4, h5, h6, h7⟩ := h
    obtain ⟨rfl, hw⟩ := hw
    have hrq : r < q := by
      rcases Nat.lt_or_ge r q with h' | h'
      · exact h'
      · rw [hd r h'] at h1; cases h1
    refine ⟨hrq, ?_⟩
    · rw [hnode r p hrq hh]
      have ht : e.tree r p = some (.mem .own (some sz) ts) := by simp [Env.tree, h1, h2]
      rw [ht] at hw
      simp only [beq_iff_eq] at hw
      have := h7 (.inr rfl)
      rw [Nat.zero_mul, Nat.add_zero] at this
      obtain ⟨⟨len', k1, k2, k3, _⟩, _⟩ := hshp r p _ _ _ h1 h2
      have hle : len = len' := Nat.eq_of_mul_eq_mul_right h0 (hw.trans k2)
      rw [h4, this, Nat.sub_zero, hle]
      exact k1
  | .pref r p off, v, h, hw, hh => by
    simp only [arep] at h
    simp only [Env.whole, Bool.and_eq_true, beq_iff_eq] at hw
    simp only [Env.hole] at hh
    obtain ⟨t, s, ts, h1, h2, h3, h4⟩ := h
    obtain ⟨rfl, hw⟩ := hw
    have ht : e.tree r p = some (.mem .own s ts) := by simp [Env.tree, h1, h2]
    rw [ht] at hw
    have hs : s = none := by
      cases s with
      | none => rfl
      | some sz => simp at hw
    subst hs
    have hrq : r < q := by
      rcases Nat.lt_or_ge r q with h' | h'
      · exact h'
      · rw [hd r h'] at h1; cases h1
    refine ⟨hrq, ?_⟩
    rw [hnode r p hrq hh, h4, Nat.add_zero]
    exact (hshp r p _ _ _ h1 h2).1
  | .vagg vs, v, h, hw, hh => by
    simp only [arep] at h
    simp only [Env.whole] at hw
    simp only [Env.hole] at hh
    obtain ⟨⟨cs, rfl, _⟩, h⟩ := h
    exact fitsL_of hd hnode hshp vs _ 0 h hw hh
  | .vtup _, _, _, hw, _ => by simp [Env.whole] at hw
  | .same _, _, _, hw, _ => by simp [Env.whole] at hw
  | .vfn _ _, _, _, hw, _ => by simp [Env.whole] at hw
theorem fitsL_of {fm : Nat → Nat} {ok : K → Nat → Prop} {e e1 : Env} {vl vl' : Vl} {w w' : World} {q : Nat} (hd : ∀ j, q ≤ j → e j = none) (hnode : ∀ r p, r < q → e1.isHole r p = true → nodeV w' (vl' r) p = nodeV w (vl r) p) (hshp : ∀ r p s ts t, e r = some (.val t) → t.at p = some (.mem .own s ts) → shp w (nodeV w (vl r) p) s ts.length) :
    ∀ (xs : List V) (g : Nat → Value) (i : Nat), arepL fm ok e vl w g i xs → e.wholeL xs = true → e1.holeL xs = true → FitsL w' vl' q g i xs
  | [], _, _, _, _, _ => trivial
  | x :: xs, g, i, h, hw, hh => by
    simp only [arepL] at h
    simp only [Env.wholeL, Bool.and_eq_true] at hw
    simp only [Env.holeL, Bool.and_eq_true] at hh
    exact ⟨fits_of hd hnode hshp x _ h.1 hw.1 hh.1, fitsL_of hd hnode hshp xs g (i + 1) h.2 hw.2 hh.2⟩
end

theorem at_setAt_ne {x : T} : ∀ (p q : List Nat) (t : T), p.isPrefixOf q = false → q.isPrefixOf p = false → (t.setAt p x).at q = t.at q
  | [], _, _, h, _ => by simp at h
  | _ :: _, [], _, _, h => by simp at h
  | i :: p, j :: q, t, h1, h2 => by
    cases hk : t.kids with
    | nil =>
      have : t.setAt (i :: p) x = t.withKids [] := by simp only [T.setAt, hk, List.set_nil]
      have hwk : (t.withKids []).kids = [] := by
        cases t with
        | mem k s ts => cases k <;> rfl
        | _ => rfl
      rw [this]
      simp only [T.at]
      rw [hwk, hk]
    | cons c cs =>
      have hk2 : (t.setAt (i :: p) x).kids = t.kids.set i ((t.kids.getD i .gone).setAt p x) := by
        cases t with
        | mem k s ts => cases k <;> simp [T.setAt, T.withKids, T.kids] at hk ⊢
        | agg ts => rfl
        | tup ts => rfl
        | _ => simp [T.kids] at hk
      simp only [T.at, hk2]
      by_cases hij : i = j
      · subst hij
        simp only [List.isPrefixOf, beq_self_eq_true, Bool.true_and] at h1 h2
        rcases Nat.lt_or_ge i t.kids.length with hlt | hge
        · rw [List.getElem?_set_self hlt, List.getElem?_eq_getElem hlt, List.getD_eq_getElem?_getD, List.getElem?_eq_getElem hlt]
          simp only [Option.bind_some, Option.getD_some]
          exact at_setAt_ne p q _ h1 h2
        · rw [List.getElem?_eq_none (by simpa using hge), List.getElem?_eq_none hge]
      · rw [List.getElem?_set_ne hij]

theorem setTree_add {e : Env} {q : Nat} {F x : T} {π : List Nat} (hc : Clr e q) : (e.add q (.val F)).setTree q π x = e.add q (.val (F.setAt π x)) := by
  funext s
  simp only [Env.setTree]
  by_cases hs : s = q
  · simp [hs]
  · rw [if_neg hs, add_ne hs]
    have hes' : e.add q (.val F) s = e s := add_ne hs
    simp only [Env.kill, hes']
    cases hes : e s with
    | none => rfl
    | some y =>
      have : y.hits q π = false := by
        cases hh : y.hits q π with
        | false => rfl
        | true => have := isPrefixOf_trans_nil q π y hh; rw [(hc q (Nat.le_refl _)).2 s y hes] at this; cases this
      simp [this]

theorem back1_clr {e e' : Env} {r q : Nat} {p : List Nat} {t : T} (hc : Clr e q) (hr : r < q) (h : e.back1 r p t = some e') : Clr e' q := by
  intro j hj
  have hj' := hc j hj
  cases p with
  | nil =>
    simp only [Env.back1] at h
    split at h
    · cases h
      refine ⟨by simp only [Env.put, Env.kill]; rw [if_neg (by omega), hj'.1], fun s x hx => ?_⟩
      simp only [Env.put, Env.kill] at hx
      split at hx
      · simp only [V.hits] at hx; cases hx; rfl
      · cases hes : e s with
        | none => rw [hes] at hx; cases hx
        | some y =>
          rw [hes] at hx
          simp only at hx
          split at hx
          · cases hx
          · cases hx; exact hj'.2 s _ hes
    · cases h
  | cons i p =>
    simp only [Env.back1] at h
    split at h
    · cases h
      refine ⟨by simp only [Env.setTree, Env.kill]; rw [if_neg (by omega), hj'.1], fun s x hx => ?_⟩
      simp only [Env.setTree, Env.kill] at hx
      split at hx
      · split at hx
        · cases hx; rfl
        · cases hx
      · cases hes : e s with
        | none => rw [hes] at hx; cases hx
        | some y =>
          rw [hes] at hx
          simp only at hx
          split at hx
          · cases hx
          · cases hx; exact hj'.2 s _ hes
    · cases h

/-- A part of a float goes back to its place. -/
theorem give1 {cx : Cx} {e e' : Env} {vl : Vl} {w : World} {q r : Nat} {p π : List Nat} {F t : T} (h : R cx (e.add q (.val F)) vl w) (hc : Clr e q) (hr : r < q) (hπ : π ≠ []) (hF : F.at π = some t)
    (hv : nodeV w (vl r) p = nodeV w (vl q) π) (hb : e.back1 r p t = some e') : R cx (e'.add q (.val (F.setAt π .gone))) vl w := by
  obtain ⟨i, π', rfl⟩ : ∃ i π', π = i :: π' := by
    cases π with
    | nil => exact (hπ rfl).elim
    | cons i π' => exact ⟨i, π', rfl⟩
  have hn1 : (e.add q (.val F)) (q + 1) = none := by rw [add_ne (by omega)]; exact (hc (q + 1) (by omega)).1
  have h1 := h.movePart (r := q) (d := q + 1) (add_self ..) hn1 hF
  rw [setTree_add hc] at h1
  have hc1 := hc.add (F.setAt (i :: π') .gone)
  have hclr' := back1_clr hc hr hb
  have hdom : ∀ s x, (e'.add q (.val (F.setAt (i :: π') .gone))) s = some x → s ≤ q := fun s x hx => by
    rcases Nat.lt_or_ge q s with h' | h'
    · rw [add_ne (by omega), (hclr' s (by omega)).1] at hx; cases hx
    · exact h'
  cases p with
  | nil =>
    simp only [Env.back1] at hb
    split at hb
    · rename_i her
      cases hb
      have h2 := h1.land (d := r) hc1 (by omega)
      have henv : (e.add q (.val (F.setAt (i :: π') .gone))).put r (.val t) = (e.put r (.val t)).add q (.val (F.setAt (i :: π') .gone)) := by
        funext s
        simp only [Env.put, Env.add, Env.kill, V.hits]
        by_cases hs : s = r
        · subst hs; simp; omega
        · by_cases hs2 : s = q
          · subst hs2; simp [hs, V.hits]
          · simp [hs, hs2]
      rw [henv] at h2
      refine h2.congr fun s x hx => ?_
      have hle := hdom s x hx
      by_cases hs : s = r
      · subst hs
        rw [vadd_self, vadd_self, ← hv]
        rfl
      · rw [vadd_ne hs, vadd_ne (by omega)]
    · cases hb
  | cons j p =>
    simp only [Env.back1] at hb
    split at hb
    · rename_i htr
      cases hb
      obtain ⟨t0, g1, g2⟩ := tree_some htr
      have hrq : r ≠ q := by omega
      have hrq1 : r ≠ q + 1 := by omega
      have hE : ((e.add q (.val (F.setAt (i :: π') .gone))).add (q + 1) (.val t)) r = some (.val t0) := by rw [add_ne hrq1, add_ne hrq]; exact g1
      have hfr := srep_val h1 (add_self ..)
      rw [vadd_self] at hfr
      have hnv : nodeV w (vadd vl (q + 1) (nodeV w (vl q) (i :: π')) r) (j :: p) = nodeV w (vl q) (i :: π') := by rw [vadd_ne hrq1]; exact hv
      have h2 := h1.replaceAt (w' := w) (r := r) (q := q + 1) (p := j :: p) (pks := []) (t := t0) (u := .gone) (tq := t) (x := t) (touch := fun _ => False) (e' := (e.setTree r (j :: p) t).add q (.val (F.setAt (i :: π') .gone))) hE g2 (add_self ..) hrq1
        (fun _ _ _ => rfl) (fun _ h => h.elim) h1.keeps (by rw [hnv]; exact hfr) (fun b => by rw [hnv, vadd_self]; exact Nat.le_add_left _ _)
        (fun rest _ s ts hh => by cases rest <;> simp [T.at, T.kids] at hh) (fun _ h => by cases h) (by rw [add_ne hrq]; exact setTree_self g1) (fun s y hs hy => ?_)
      · refine h2.congr fun s x hx => ?_
        have hle := hdom s x hx
        rw [vadd_ne (by omega)]
      · have hsq1 : s ≠ q + 1 := fun e' => by
          subst e'
          rw [add_ne (by omega)] at hy
          have := (hclr' (q + 1) (by omega)).1
          rw [this] at hy; cases hy
        refine ⟨hsq1, ?_⟩
        by_cases hsq : s = q
        · subst hsq
          rw [add_self] at hy
          cases hy
          exact ⟨by rw [add_ne hsq1, add_self], fun pk hpk => by simp at hpk, fun r' hh => by simp [V.hits] at hh⟩
        · rw [add_ne hsq] at hy
          rcases setTree_some g1 hy with ⟨h3, _⟩ | ⟨_, h4, h5⟩
          · exact (hs h3).elim
          · refine ⟨by rw [add_ne hsq1, add_ne hsq]; exact h4, fun pk hpk => by simp at hpk, fun r' hh => ?_⟩
            have h6 : r' ≠ q + 1 := fun e' => by subst e'; rw [(hc (q + 1) (by omega)).2 s y h4] at hh; cases hh
            have h7 : r' ≠ q := fun e' => by subst e'; rw [(hc r' (Nat.le_refl _)).2 s y h4] at hh; cases hh
            refine ⟨h6, fun hne => ?_⟩
            rw [add_ne h7, add_ne h6, add_ne h7]
            obtain ⟨u, hu⟩ := h.root (s := s) (x := y) (by rw [add_ne hsq]; exact h4) hh
            rw [add_ne h7] at hu
            rw [hu]
            exact setTree_ne hne hu rfl
    · cases hb

theorem pre_app {π π' : List Nat} {i : Nat} (h1 : π.isPrefixOf π' = false) (h2 : π'.isPrefixOf π = false) : (π ++ [i]).isPrefixOf π' = false ∧ π'.isPrefixOf (π ++ [i]) = false := by
  refine ⟨?_, ?_⟩
  · cases h : (π ++ [i]).isPrefixOf π' with
    | false => rfl
    | true =>
      have : π.isPrefixOf π' = true := by
        rw [List.isPrefixOf_iff_prefix] at h ⊢
        exact (List.prefix_append π [i]).trans h
      rw [this] at h1; cases h1
  · cases h : π'.isPrefixOf (π ++ [i]) with
    | false => rfl
    | true =>
      rw [List.isPrefixOf_iff_prefix] at h
      rcases List.prefix_concat_iff.1 h with h3 | h3
      · have : π.isPrefixOf π' = true := by rw [List.isPrefixOf_iff_prefix, h3]; exact List.prefix_append π [i]
        rw [this] at h1; cases h1
      · have : π'.isPrefixOf π = true := by rw [List.isPrefixOf_iff_prefix]; exact h3
        rw [this] at h2; cases h2

theorem pre_sib {π : List Nat} {i j : Nat} (h : i ≠ j) : (π ++ [i]).isPrefixOf (π ++ [j]) = false := by
  cases hh : (π ++ [i]).isPrefixOf (π ++ [j]) with
  | false => rfl
  | true =>
    rw [List.isPrefixOf_iff_prefix, List.prefix_append_right_inj] at hh
    simp at hh
    exact (h hh).elim

mutual
theorem give_sound {cx : Cx} {vl : Vl} {w : World} {q : Nat} : ∀ (x : V) (t : T) (π : List Nat) (e e' : Env) (F : T), R cx (e.add q (.val F)) vl w → Clr e q → π ≠ [] → F.at π = some t → Fits w vl q (nodeV w (vl q) π) x → e.give x t = some e' →
    ∃ F', R cx (e'.add q (.val F')) vl w ∧ Clr e' q ∧ ∀ π', π.isPrefixOf π' = false → π'.isPrefixOf π = false → F'.at π' = F.at π'
  | .val _, t, π, e, e', F, h, hc, hπ, hF, hf, hg => by
    simp only [Env.give, Option.some.injEq] at hg
    subst hg
    exact ⟨F, h, hc, fun _ _ _ => rfl⟩
  | .sref r p sz off len, t, π, e, e', F, h, hc, hπ, hF, hf, hg => by
    simp only [Env.give] at hg
    simp only [Fits] at hf
    exact ⟨_, give1 h hc hf.1 hπ hF hf.2 hg, back1_clr hc hf.1 hg, fun π' h1 h2 => at_setAt_ne π π' F h1 h2⟩
  | .pref r p off, t, π, e, e', F, h, hc, hπ, hF, hf, hg => by
    simp only [Env.give] at hg
    simp only [Fits] at hf
    exact ⟨_, give1 h hc hf.1 hπ hF hf.2 hg, back1_clr hc hf.1 hg, fun π' h1 h2 => at_setAt_ne π π' F h1 h2⟩
  | .vagg vs, t, π, e, e', F, h, hc, hπ, hF, hf, hg => by
    cases t <;> simp only [Env.give] at hg <;> try cases hg
    rename_i ts
    simp only [Fits] at hf
    obtain ⟨F', h1, h2, h3⟩ := giveL_sound vs ts π 0 e e' F h hc (fun j t hj => by
      rw [R.replaceAt.at_append π [0 + j] F hF]
      simp [T.at, T.kids, hj]) hf hg
    exact ⟨F', h1, h2, h3⟩
  | .vtup _, _, _, _, _, _, _, _, _, _, hf, _ => hf.elim
  | .same _, _, _, _, _, _, _, _, _, _, hf, _ => hf.elim
  | .vfn _ _, _, _, _, _, _, _, _, _, _, hf, _ => hf.elim
theorem giveL_sound {cx : Cx} {vl : Vl} {w : World} {q : Nat} : ∀ (xs : List V) (ts : List T) (π : List Nat) (i : Nat) (e e' : Env) (F : T), R cx (e.add q (.val F)) vl w → Clr e q → (∀ j t, ts[j]? = some t → F.at (π ++ [i + j]) = some t) → FitsL w vl q (kid w (nodeV w (vl q) π)) i xs → e.giveL xs ts = some e' →
    ∃ F', R cx (e'.add q (.val F')) vl w ∧ Clr e' q ∧ ∀ π', π.isPrefixOf π' = false → π'.isPrefixOf π = false → F'.at π' = F.at π'
  | [], ts, π, i, e, e', F, h, hc, hF, hf, hg => by
    simp only [Env.giveL, Option.some.injEq] at hg
    subst hg
    exact ⟨F, h, hc, fun _ _ _ => rfl⟩
  | x :: xs, [], π, i, e, e', F, h, hc, hF, hf, hg => by simp [Env.giveL] at hg
  | x :: xs, t :: ts, π, i, e, e', F, h, hc, hF, hf, hg => by
    simp only [Env.giveL] at hg
    simp only [FitsL] at hf
    cases hx : e.give x t with
    | none => rw [hx] at hg; cases hg
    | some e1 =>
      rw [hx] at hg
      simp only [Option.bind_some] at hg
      have hn : nodeV w (vl q) (π ++ [i]) = kid w (nodeV w (vl q) π) i := by rw [R.replaceAt.nodeV_append]; rfl
      obtain ⟨F1, h1, h2, h3⟩ := give_sound x t (π ++ [i]) e e1 F h hc (by simp) (by have := hF 0 t rfl; rwa [Nat.add_zero] at this) (by rw [hn]; exact hf.1) hx
      obtain ⟨F2, h4, h5, h6⟩ := giveL_sound xs ts π (i + 1) e1 e' F1 h1 h2 (fun j u hj => by
        rw [h3 _ (pre_sib (by omega)) (pre_sib (by omega)), show i + 1 + j = i + (j + 1) from by omega]
        exact hF (j + 1) u (by simpa using hj)) hf.2 hg
      refine ⟨F2, h4, h5, fun π' g1 g2 => ?_⟩
      obtain ⟨g3, g4⟩ := pre_app (i := i) g1 g2
      rw [h6 π' g1 g2, h3 π' g3 g4]
end

mutual
theorem give_none : ∀ (x : V) (t : T) (e e' : Env), x.lent = false → e.give x t = some e' → e' = e
  | .val _, t, e, e', _, hg => by simp only [Env.give, Option.some.injEq] at hg; exact hg.symm
  | .sref .., _, _, _, h, _ => by simp [V.lent] at h
  | .pref .., _, _, _, h, _ => by simp [V.lent] at h
  | .vagg vs, t, e, e', h, hg => by
    cases t <;> simp only [Env.give] at hg <;> try cases hg
    simp only [V.lent] at h
    exact giveL_none vs _ e e' h hg
  | .vtup _, t, _, _, _, hg => by simp [Env.give] at hg
  | .same _, t, _, _, _, hg => by simp [Env.give] at hg
  | .vfn _ _, t, _, _, _, hg => by simp [Env.give] at hg
theorem giveL_none : ∀ (xs : List V) (ts : List T) (e e' : Env), V.lentL xs = false → e.giveL xs ts = some e' → e' = e
  | [], ts, e, e', _, hg => by simp only [Env.giveL, Option.some.injEq] at hg; exact hg.symm
  | x :: xs, [], e, e', _, hg => by simp [Env.giveL] at hg
  | x :: xs, t :: ts, e, e', h, hg => by
    simp only [V.lentL, Bool.or_eq_false_iff] at h
    simp only [Env.giveL] at hg
    cases hx : e.give x t with
    | none => rw [hx] at hg; cases hg
    | some e1 =>
      rw [hx] at hg
      simp only [Option.bind_some] at hg
      have := give_none x t e e1 h.1 hx
      subst this
      exact giveL_none xs ts _ e' h.2 hg
end

mutual
theorem take_lent : ∀ (x : V) (e : Env) {t : T} {e1 : Env}, x.lent = true → e.take x = some (t, e1) → t.lend.noOwn = false
  | .val _, _, _, _, h, _ => by simp [V.lent] at h
  | .sref r p sz off len, e, t, e1, _, ht => by
    simp only [Env.take] at ht
    split at ht
    · split at ht
      · cases ht; simp [T.lend]
      · cases ht
    · cases ht
  | .pref r p off, e, t, e1, _, ht => by
    simp only [Env.take] at ht
    split at ht
    · split at ht
      · cases ht; simp [T.lend]
      · cases ht
    · cases ht
  | .vagg vs, e, t, e1, h, ht => by
    simp only [Env.take, Option.map_eq_some_iff] at ht
    obtain ⟨y, h1, h2⟩ := ht
    cases h2
    simp only [V.lent] at h
    simp only [T.lend, T.noOwn]
    exact takeL_lent vs e h h1
  | .vtup vs, e, t, e1, h, ht => by
    simp only [Env.take, Option.map_eq_some_iff] at ht
    obtain ⟨y, h1, h2⟩ := ht
    cases h2
    simp only [V.lent] at h
    simp only [T.lend, T.noOwn]
    exact takeL_lent vs e h h1
  | .vfn _ _, e, t, e1, h, ht => by simp [Env.take] at ht
  | .same r, e, t, e1, h, ht => by
    simp only [Env.take] at ht
    split at ht
    · cases ht; rfl
    · cases ht
theorem takeL_lent : ∀ (xs : List V) (e : Env) {ts : List T} {e1 : Env}, V.lentL xs = true → e.takeL xs = some (ts, e1) → T.noOwnL (T.lendL ts) = false
  | [], _, _, _, h, _ => by simp [V.lentL] at h
  | x :: xs, e, ts, e1, h, ht => by
    simp only [Env.takeL] at ht
    cases hx : e.take x with
    | none => rw [hx] at ht; cases ht
    | some y =>
      rw [hx] at ht
      simp only [Option.bind_some, Option.map_eq_some_iff] at ht
      obtain ⟨z, h1, h2⟩ := ht
      cases h2
      simp only [V.lentL, Bool.or_eq_true] at h
      simp only [T.lendL, T.noOwnL, Bool.and_eq_false_iff]
      rcases h with h | h
      · exact .inl (take_lent x e h hx)
      · exact .inr (takeL_lent xs y.2 h h1)
end

theorem takeL_get : ∀ (xs : List V) (e : Env) {ts : List T} {e1 : Env}, e.takeL xs = some (ts, e1) → ∀ (i : Nat) (x : V) (t : T), xs[i]? = some x → ts[i]? = some t → x.lent = true → t.lend.noOwn = false
  | [], _, _, _, _, i, _, _, h, _, _ => by simp at h
  | x :: xs, e, ts, e1, ht, i, x', t, hi, hti, hl => by
    simp only [Env.takeL] at ht
    cases hx : e.take x with
    | none => rw [hx] at ht; cases ht
    | some y =>
      rw [hx] at ht
      simp only [Option.bind_some, Option.map_eq_some_iff] at ht
      obtain ⟨z, h1, h2⟩ := ht
      cases h2
      cases i with
      | zero =>
        simp only [List.getElem?_cons_zero, Option.some.injEq] at hi hti
        subst hi; subst hti
        exact take_lent x e hl hx
      | succ i => exact takeL_get xs y.2 h1 i x' t (by simpa using hi) (by simpa using hti) hl

theorem gives_sound {cx : Cx} {vl : Vl} {w : World} {q : Nat} : ∀ (xs : List V) (gs : List Bool) (ts : List T) (i : Nat) (e e' : Env) (F : T), R cx (e.add q (.val F)) vl w → Clr e q →
    (∀ j x t, xs[j]? = some x → ts[j]? = some t → x.lent = true → F.at [i + j] = some t) → (∀ j x, xs[j]? = some x → gs[j]? = some true → Fits w vl q (kid w (vl q) (i + j)) x) → e.gives xs gs ts = some e' →
    ∃ F', R cx (e'.add q (.val F')) vl w ∧ Clr e' q ∧ ∀ n, i + xs.length ≤ n → F'.at [n] = F.at [n]
  | [], [], [], i, e, e', F, h, hc, _, _, hg => by
    simp only [Env.gives, Option.some.injEq] at hg
    subst hg
    exact ⟨F, h, hc, fun _ _ => rfl⟩
  | x :: xs, g :: gs, t :: ts, i, e, e', F, h, hc, hF, hf, hg => by
    simp only [Env.gives] at hg
    have skip : ∀ e1 F1, R cx (e1.add q (.val F1)) vl w → Clr e1 q → (∀ n, n ≠ i → F1.at [n] = F.at [n]) → e1.gives xs gs ts = some e' → ∃ F', R cx (e'.add q (.val F')) vl w ∧ Clr e' q ∧ ∀ n, i + (x :: xs).length ≤ n → F'.at [n] = F.at [n] := fun e1 F1 h1 h2 h3 h4 => by
      obtain ⟨F2, k1, k2, k3⟩ := gives_sound xs gs ts (i + 1) e1 e' F1 h1 h2 (fun j y u hj hu hl => by
        rw [h3 _ (by omega), show i + 1 + j = i + (j + 1) from by omega]
        exact hF (j + 1) y u (by simpa using hj) (by simpa using hu) hl) (fun j y hj hgj => by
        rw [show i + 1 + j = i + (j + 1) from by omega]
        exact hf (j + 1) y (by simpa using hj) (by simpa using hgj)) h4
      refine ⟨F2, k1, k2, fun n hn => ?_⟩
      simp only [List.length_cons] at hn
      rw [k3 n (by omega), h3 n (by omega)]
    cases g with
    | false => exact skip e F h hc (fun _ _ => rfl) (by simpa using hg)
    | true =>
      simp only [if_true] at hg
      cases hx : e.give x t with
      | none => rw [hx] at hg; cases hg
      | some e1 =>
        rw [hx] at hg
        simp only [Option.bind_some] at hg
        cases hl : x.lent with
        | false =>
          have := give_none x t e e1 hl hx
          subst this
          exact skip _ F h hc (fun _ _ => rfl) hg
        | true =>
          have hF0 := hF 0 x t rfl rfl hl
          have hf0 := hf 0 x rfl rfl
          rw [Nat.add_zero] at hF0 hf0
          obtain ⟨F1, k1, k2, k3⟩ := give_sound x t [i] e e1 F h hc (by simp) hF0 hf0 hx
          refine skip e1 F1 k1 k2 (fun n hn => k3 [n] ?_ ?_) hg
          · have := pre_sib (π := []) (i := i) (j := n) (Ne.symm hn); simpa using this
          · have := pre_sib (π := []) (i := n) (j := i) hn; simpa using this
  | [], [], _ :: _, _, _, _, _, _, _, _, _, hg => by simp [Env.gives] at hg
  | [], _ :: _, _, _, _, _, _, _, _, _, _, hg => by simp [Env.gives] at hg
  | _ :: _, [], _, _, _, _, _, _, _, _, _, hg => by simp [Env.gives] at hg
  | _ :: _, _ :: _, [], _, _, _, _, _, _, _, _, hg => by simp [Env.gives] at hg

end Go.Mch
/- Calls that are handed own memory, against the model's; boxes that keep a struct's names; what a slot names it takes. -/
namespace Go.Mch

mutual
theorem hole_leaf {e : Env} {r : Nat} {p : List Nat} {sz off len : Nat} : ∀ x : V, e.hole x = true → x.hasLeaf r p sz off len = true → e.isHole r p = true
  | .val _, _, h => by simp [V.hasLeaf] at h
  | .sref r' p' sz' off' len', h, hl => by
    simp only [V.hasLeaf, Bool.and_eq_true, beq_iff_eq] at hl
    simp only [Env.hole] at h
    obtain ⟨⟨⟨⟨rfl, rfl⟩, _⟩, _⟩, _⟩ := hl
    exact h
  | .pref .., _, h => by simp [V.hasLeaf] at h
  | .vagg vs, h, hl => by
    simp only [V.hasLeaf] at hl
    simp only [Env.hole] at h
    exact holeL_leaf vs h hl
  | .vtup _, h, _ => by simp [Env.hole] at h
  | .same _, h, _ => by simp [Env.hole] at h
  | .vfn _ _, h, _ => by simp [Env.hole] at h
theorem holeL_leaf {e : Env} {r : Nat} {p : List Nat} {sz off len : Nat} : ∀ xs : List V, e.holeL xs = true → V.hasLeafL r p sz off len xs = true → e.isHole r p = true
  | [], _, h => by simp [V.hasLeafL] at h
  | x :: xs, h, hl => by
    simp only [V.hasLeafL, Bool.or_eq_true] at hl
    simp only [Env.holeL, Bool.and_eq_true] at h
    rcases hl with hl | hl
    · exact hole_leaf x h.1 hl
    · exact holeL_leaf xs h.2 hl
end

theorem holes_leaf {e : Env} {r : Nat} {p : List Nat} {sz off len : Nat} : ∀ (xs : List V) (gs : List Bool), e.holes xs gs = true → leafOf xs gs r p sz off len = true → e.isHole r p = true
  | [], _, _, h => by simp [leafOf] at h
  | _ :: _, [], _, h => by simp [leafOf] at h
  | x :: xs, g :: gs, h, hl => by
    simp only [leafOf, Bool.or_eq_true, Bool.and_eq_true] at hl
    simp only [Env.holes, Bool.and_eq_true, Bool.or_eq_true, Bool.not_eq_true'] at h
    rcases hl with ⟨h1, h2⟩ | hl
    · rcases h.1 with h3 | h3
      · rw [h1] at h3; cases h3
      · exact hole_leaf x h3 h2
    · exact holes_leaf xs gs h.2 hl

theorem holes_get {e : Env} : ∀ (xs : List V) (gs : List Bool), e.holes xs gs = true → ∀ (j : Nat) (x : V), xs[j]? = some x → gs[j]? = some true → e.hole x = true
  | [], _, _, j, _, h, _ => by simp at h
  | _ :: _, [], _, j, _, _, h => by simp at h
  | x :: xs, g :: gs, h, 0, y, h1, h2 => by
    simp only [Env.holes, Bool.and_eq_true, Bool.or_eq_true, Bool.not_eq_true'] at h
    simp only [List.getElem?_cons_zero, Option.some.injEq] at h1 h2
    subst h1; subst h2
    rcases h.1 with h3 | h3
    · cases h3
    · exact h3
  | x :: xs, g :: gs, h, j + 1, y, h1, h2 => by
    simp only [Env.holes, Bool.and_eq_true] at h
    exact holes_get xs gs h.2 j y (by simpa using h1) (by simpa using h2)

theorem wholes_get {e : Env} : ∀ (xs : List V) (gs : List Bool), e.wholes xs gs = true → ∀ (j : Nat) (x : V), xs[j]? = some x → gs[j]? = some true → e.whole x = true
  | [], _, _, j, _, h, _ => by simp at h
  | _ :: _, [], _, j, _, _, h => by simp at h
  | x :: xs, g :: gs, h, 0, y, h1, h2 => by
    simp only [Env.wholes, Bool.and_eq_true, Bool.or_eq_true, Bool.not_eq_true'] at h
    simp only [List.getElem?_cons_zero, Option.some.injEq] at h1 h2
    subst h1; subst h2
    rcases h.1 with h3 | h3
    · cases h3
    · exact h3
  | x :: xs, g :: gs, h, j + 1, y, h1, h2 => by
    simp only [Env.wholes, Bool.and_eq_true] at h
    exact wholes_get xs gs h.2 j y (by simpa using h1) (by simpa using h2)

mutual
theorem again_arep {fm : Nat → Nat} {ok ok' : K → Nat → Prop} {e0 e : Env} {vl vl' : Vl} {w w' : World} {us : List V} {gs : List Bool} {e1 : Env} (hl : ∀ r p sz off len t, e0 r = some (.val t) → (leafOf us gs r p sz off len || (e1.tree r p).isSome) = true → nodeV w' (vl' r) p = nodeV w (vl r) p) :
    ∀ (x : V) (v : Value), arep fm ok e0 vl w v x → Env.again e1 e us gs x = true → arep fm ok' e vl' w' v x
  | .val _, _, _, h => by simp [Env.again] at h
  | .sref r p sz off len, v, h, ha => by
    simp only [arep] at h ⊢
    rw [Env.again, Bool.and_eq_true] at ha
    obtain ⟨h0, t, ts, h1, h2, h3, h4⟩ := h
    obtain ⟨ha1, ha2⟩ := ha
    split at ha2
    · rename_i sz' ts' htr
      simp only [Bool.and_eq_true, beq_iff_eq, decide_eq_true_eq] at ha2
      obtain ⟨rfl, hle⟩ := ha2
      obtain ⟨t', g1, g2⟩ := tree_some htr
      exact ⟨h0, t', ts', g1, g2, hle, by rw [hl r p _ off len t h1 ha1]; exact h4⟩
    · cases ha2
  | .pref .., _, _, h => by simp [Env.again] at h
  | .vagg xs, v, h, ha => by
    simp only [arep] at h ⊢
    simp only [Env.again] at ha
    obtain ⟨⟨cs, rfl, hs⟩, h⟩ := h
    exact ⟨⟨cs, rfl, hs⟩, againL_arep hl xs _ 0 h ha⟩
  | .vtup _, _, _, h => by simp [Env.again] at h
  | .same _, _, _, h => by simp [Env.again] at h
  | .vfn _ _, _, _, h => by simp [Env.again] at h
theorem againL_arep {fm : Nat → Nat} {ok ok' : K → Nat → Prop} {e0 e : Env} {vl vl' : Vl} {w w' : World} {us : List V} {gs : List Bool} {e1 : Env} (hl : ∀ r p sz off len t, e0 r = some (.val t) → (leafOf us gs r p sz off len || (e1.tree r p).isSome) = true → nodeV w' (vl' r) p = nodeV w (vl r) p) :
    ∀ (xs : List V) (g : Nat → Value) (i : Nat), arepL fm ok e0 vl w g i xs → Env.againL e1 e us gs xs = true → arepL fm ok' e vl' w' g i xs
  | [], _, _, _, _ => trivial
  | x :: xs, g, i, h, ha => by
    simp only [arepL] at h
    simp only [Env.againL, Bool.and_eq_true] at ha
    exact ⟨again_arep hl x _ h.1 ha.1, againL_arep hl xs g (i + 1) h.2 ha.2⟩
end

/-- A name laid into an empty slot whose value stays. -/
theorem addName {cx : Cx} {e : Env} {vl : Vl} {w : World} {q s : Nat} {F : T} {x : V} (h : R cx (e.add q (.val F)) vl w) (hc : Clr e q) (hs : s < q) (hes : e s = none) (hx : arep cx.fm (okR cx (Own (e.add q (.val F)) vl w)) (e.add q (.val F)) vl w (vl s) x) (hnq : x.hits q [] = false) :
    R cx ((e.put s x).add q (.val F)) vl w ∧ Clr (e.put s x) q := by
  have hsq : s ≠ q := by omega
  have hes' : (e.add q (.val F)) s = none := by rw [add_ne hsq]; exact hes
  have h1 := h.addA hes' hx
  have hxs : x.hits s [] = false := by
    cases hh : x.hits s [] with
    | false => rfl
    | true => obtain ⟨t, ht⟩ := arep_root x _ hx hh; rw [hes'] at ht; cases ht
  have hkill : ∀ s' y, e s' = some y → y.hits s [] = false := fun s' y hy => by
    cases hh : y.hits s [] with
    | false => rfl
    | true =>
      have hne : s' ≠ q := fun e' => by subst e'; rw [(hc s' (Nat.le_refl _)).1] at hy; cases hy
      obtain ⟨t, ht⟩ := h.root (s := s') (x := y) (by rw [add_ne hne]; exact hy) hh
      rw [hes'] at ht; cases ht
  have henv : (e.add q (.val F)).add s x = (e.put s x).add q (.val F) := by
    funext s'
    by_cases h2 : s' = s
    · subst h2; rw [add_self, add_ne hsq]; simp [Env.put, hxs]
    · rw [add_ne h2]
      by_cases h3 : s' = q
      · subst h3; rw [add_self, add_self]
      · rw [add_ne h3, add_ne h3]
        simp only [Env.put, if_neg h2, Env.kill]
        cases hy : e s' with
        | none => rfl
        | some y => simp [hkill s' y hy]
  rw [henv] at h1
  refine ⟨h1.congr fun s' y _ => ?_, fun j hj => ?_⟩
  · by_cases h2 : s' = s
    · subst h2; rw [vadd_self]
    · rw [vadd_ne h2]
  · refine ⟨by simp only [Env.put, Env.kill]; rw [if_neg (by omega), (hc j hj).1], fun s' y hy => ?_⟩
    simp only [Env.put, Env.kill] at hy
    split at hy
    · rw [hxs] at hy
      cases hy
      cases hh : x.hits j [] with
      | false => rfl
      | true =>
        by_cases hjq : j = q
        · subst hjq; rw [hnq] at hh; cases hh
        · obtain ⟨t, ht⟩ := arep_root x _ hx hh
          rw [add_ne hjq, (hc j hj).1] at ht; cases ht
    · cases hes2 : e s' with
      | none => rw [hes2] at hy; cases hy
      | some z =>
        rw [hes2] at hy
        simp only at hy
        split at hy
        · cases hy
        · cases hy; exact (hc j hj).2 s' _ hes2

theorem revive_sound {cx : Cx} {e0 : Env} {vl0 vl : Vl} {w w' : World} {q : Nat} {us : List V} {gs : List Bool} {F : T} {e1 : Env} (h0 : R cx e0 vl0 w) (hd : ∀ j, q ≤ j → e0 j = none) (hvl : ∀ s, s < q → vl s = vl0 s)
    (hl : ∀ r p sz off len, r < q → (leafOf us gs r p sz off len || (e1.tree r p).isSome) = true → nodeV w' (vl r) p = nodeV w (vl0 r) p) :
    ∀ (ks : List Nat) (e e3 : Env), R cx (e.add q (.val F)) vl w' → Clr e q → e0.revive e1 e us gs ks = some e3 → R cx (e3.add q (.val F)) vl w' ∧ Clr e3 q
  | [], e, e3, h, hc, hr => by
    simp only [Env.revive, Option.some.injEq] at hr
    subst hr
    exact ⟨h, hc⟩
  | s :: ks, e, e3, h, hc, hr => by
    simp only [Env.revive] at hr
    split at hr
    · rename_i x h1 h2
      split at hr
      · rename_i hag
        have hsq : s < q := by
          rcases Nat.lt_or_ge s q with h' | h'
          · exact h'
          · rw [hd s h'] at h1; cases h1
        have hx : arep cx.fm (okR cx (Own e0 vl0 w)) e0 vl0 w (vl0 s) x := by
          rcases h0.rep s x h1 with ⟨t, rfl, _⟩ | h'
          · simp [Env.again] at hag
          · exact h'
        have hlt : ∀ r t, e0 r = some (.val t) → r < q := fun r t ht => by
          rcases Nat.lt_or_ge r q with h' | h'
          · exact h'
          · rw [hd r h'] at ht; cases ht
        have hag2 : arep cx.fm (okR cx (Own (e.add q (.val F)) vl w')) e vl w' (vl0 s) x := again_arep (fun r p sz off len t ht hlf => hl r p sz off len (hlt r t ht) hlf) x _ hx hag
        have hnq : ∀ j, q ≤ j → x.hits j [] = false := fun j hj => by
          cases hh : x.hits j [] with
          | false => rfl
          | true => obtain ⟨t, ht⟩ := arep_root x _ hag2 hh; rw [(hc j hj).1] at ht; cases ht
        have hx2 : arep cx.fm (okR cx (Own (e.add q (.val F)) vl w')) (e.add q (.val F)) vl w' (vl s) x := by
          rw [hvl s hsq]
          refine arep_gen (fun _ _ _ h => h) x _ (fun r p hh => ?_) hag2
          have hne : r ≠ q := fun e' => by
            subst e'
            have h9 := hnq r (Nat.le_refl _)
            rw [isPrefixOf_trans_nil r p x hh] at h9; cases h9
          exact ⟨fun t k ts ht hp => ⟨t, ts, by rw [add_ne hne]; exact ht, hp, rfl, rfl⟩, fun _ ks hks => ⟨ks, by rw [add_ne hne]; exact hks, rfl⟩⟩
        obtain ⟨k1, k2⟩ := addName h hc hsq h2 hx2 (hnq q (Nat.le_refl _))
        exact revive_sound h0 hd hvl hl ks _ e3 k1 k2 hr
      · cases hr
    · exact revive_sound h0 hd hvl hl ks _ e3 h hc hr
    · cases hr

section
variable {P : Program} {cx : Cx} {nt : Nat} {Kt : Env → Prop} {o : Oper} {a : Act} {w : World} {e : Env} {d : Nat}

/-- The last part of a float lands in a slot; the rest of the float is let go. -/
theorem land_last {e3 : Env} {vl : Vl} {w' : World} {F r : T} {n : Nat} {v : Value} (hs : a.tmps.size = nt) (hf : a.defers = []) (h : R cx (e3.add nt (.val F)) vl w') (hc : Clr e3 nt) (hF : F.at [n] = some r) (hv : kid w' (vl nt) n = v)
    (hvl : ∀ s, s < nt → vl s = vlA a s) (dst : Option Nat) (hd : ∀ d, dst = some d → d < nt) : Rel cx nt (e3.setD dst (.val r)) (a.put dst v) w' := by
  cases dst with
  | none =>
    have hne : ∀ s x, e3 s = some x → s < nt := fun s x hx => by
      rcases Nat.lt_or_ge s nt with h' | h'
      · exact h'
      · rw [(hc s h').1] at hx; cases hx
    refine ⟨?_, fun j hj => (hc j hj).1, by simpa [Act.put] using hs, hf⟩
    have hE : e3.setD none (.val r) = e3 := rfl
    rw [hE]
    refine h.sub (fun s x hx => ?_) (fun s x r' hx hr => ?_) (fun s x hx => (hvl s (hne s x hx)).symm)
    · have := hne s x hx
      rw [add_ne (by omega)]; exact hx
    · have : r' ≠ nt := fun e1 => by subst e1; rw [(hc r' (Nat.le_refl _)).2 s x hx] at hr; cases hr
      rw [add_ne this]
  | some d =>
    have hlt := hd d rfl
    have h1 := h.movePart (r := nt) (d := nt + 1) (i := n) (p := []) (add_self ..) (by rw [add_ne (by omega)]; exact (hc (nt + 1) (by omega)).1) hF
    rw [setTree_add hc] at h1
    have h2 := h1.land (d := d) (hc.add _) (by omega)
    have hdom : ∀ j, nt ≤ j → (e3.put d (.val r)) j = none := fun j hj => by
      simp only [Env.put, Env.kill]
      rw [if_neg (by omega), (hc j hj).1]
    have hne : ∀ s x, (e3.put d (.val r)) s = some x → s < nt := fun s x hx => by
      rcases Nat.lt_or_ge s nt with h' | h'
      · exact h'
      · rw [hdom s h'] at hx; cases hx
    have heq : ∀ s, s ≠ nt → ((e3.add nt (.val (F.setAt [n] .gone))).put d (.val r)) s = (e3.put d (.val r)) s := fun s hsn => by
      simp only [Env.put, Env.kill, add_ne hsn]
    refine ⟨?_, hdom, by simpa [Act.put] using hs, hf⟩
    rw [vlA_put (by rw [hs]; exact hlt)]
    have hE : e3.setD (some d) (.val r) = e3.put d (.val r) := rfl
    rw [hE]
    refine h2.sub (fun s x hx => ?_) (fun s x r' hx hr => ?_) (fun s x hx => ?_)
    · have := hne s x hx
      rw [heq s (by omega)]; exact hx
    · have h3 : r' ≠ nt := fun e1 => by
        subst e1
        simp only [Env.put] at hx
        split at hx
        · simp only [V.hits] at hx; cases hx; simp [V.hits] at hr
        · simp only [Env.kill] at hx
          cases hes : e3 s with
          | none => rw [hes] at hx; cases hx
          | some y =>
            rw [hes] at hx
            simp only at hx
            split at hx
            · cases hx
            · cases hx; rw [(hc r' (Nat.le_refl _)).2 s x hes] at hr; cases hr
      rw [heq r' h3]
    · have hs' := hne s x hx
      by_cases hsd : s = d
      · subst hsd
        rw [vadd_self, vadd_self, vadd_self, ← hv]
        rfl
      · rw [vadd_ne hsd, vadd_ne hsd, vadd_ne (by omega)]
        exact (hvl s hs').symm

theorem good_callm {G : Rl} (hG : ∀ f args args' r, G f args args' r → Pact P cx.fm f args args' r) (hN : ∀ b, ¬ cx.N b) (h : Rel cx nt e a w) {f : Opd} {f' : Operand} {xs : List Opd} {gs : List Bool} {ks : List Nat} {ys : Array Operand} {ats : Array TypeId}
    (hop : o.op = .call ⟨.value f', ys, ats⟩) (hf : okOpd cx.fm f f' = true) (hxs : okOpds cx.fm xs ys.toList = true) (hd : ∀ d, o.dst = some d → d < nt)
    {id : Nat} {caps ts ts' : List T} {vs : List V} {r : T} {e1 e2 e3 : Env} (he : e.opd f = some (.val (.fn id caps))) (hv : e.opds xs = some vs) (hw : e.wholes vs gs = true) (ht : e.takeL vs = some (ts, e1)) (hh : e1.holes vs gs = true)
    (hcall : G id (T.lendL ts ++ T.eryL .old caps) (ts' ++ T.eryL .old caps) r) (hl : ts'.length = ts.length) (hg : e1.gives vs gs ts' = some e2) (hrv : e.revive e1 e2 vs gs ks = some e3) (hK : Kt (e3.setD o.dst (.val r))) : Good P cx nt Kt o a w := by
  obtain ⟨hfn, hfr⟩ := h.opd hf he
  simp only [Mch.rep] at hfr
  obtain ⟨⟨cs, hfv, hcs⟩, hno, hcaps⟩ := hfr
  obtain ⟨g1, g2⟩ := h.opds xs ys.toList hxs hv
  have hav := g2 (fun j => (ys.map a.eval).getD j undef) 0 (fun j hj => by
    simp only [Nat.zero_add, Array.getD_eq_getD_getElem?, List.getD_eq_getElem?_getD, Array.getElem?_map, List.getElem?_map, Array.getElem?_toList])
  obtain ⟨vl, hvl, ⟨us, hus, husz, hus2⟩, hR, hc, hlen, hown⟩ := takeL_sound vs _ 0 nt e (vlA a) h.r h.clr (Nat.le_refl _) (arwL_of h.dom vs _ 0 hav) ht
  have husE : us = ys.map a.eval := arr_eq (by simp only [Array.length_toList] at g1; rw [husz, g1]; simp) fun j hj => by
    have := hus2 j (by omega)
    rw [this, Nat.zero_add]
  subst husE
  have hcaps2 : repL cx.fm (okR cx (Own (e1.add nt (.val (.tup ts))) vl w)) w (fun j => cs.getD j undef) 0 caps := by
    rw [hfv] at hcaps
    exact repL_ok (fun k b hk _ ho => okR_mono (hown b) ho) caps _ 0 (fun b hb => by rw [cntL_noOwn w _ b caps 0 hno] at hb; omega) hcaps
  have hpact := hG _ _ _ _ hcall
  obtain ⟨fn, p1, p2, p3⟩ := hpact.1
  have hcore := callm_core hN hR hc hus hcs hno hcaps2 hpact hl
  have hrun : (execOp a.eval o).run P w = .ok (.enter (cx.fm id) (ys.map a.eval ++ cs)) w := by
    have p2' : fn.body ≠ none := fun h0 => by rw [h0] at p2; cases p2
    have p3' : fn.name ≠ "runtime.NumGoroutine" := fun h0 => by rw [h0] at p3; simp at p3
    simp [execOp, hop, resolve, Deferred.ofValue, hfv, invoke, callFunc, p1, p2', p3']
  intro Qx
  unfold Oper.wp
  rw [hrun, Oper.upon_enter]
  refine Calls.mono hcore fun en w' hbk => ?_
  obtain ⟨v, rfl, fs, hfl, hfs, hR2, hnode⟩ := hbk
  have hvl2 : ∀ s, s < nt → vadd vl nt (.tuple ((ys.map a.eval).push v)) s = vlA a s := fun s hs => by rw [vadd_ne (by omega)]; exact hvl s hs
  have hnode2 : ∀ r p, r < nt → e1.isHole r p = true → nodeV w' (vadd vl nt (.tuple ((ys.map a.eval).push v)) r) p = nodeV w (vlA a r) p := fun r p hr hi => by
    rw [vadd_ne (by omega), hvl r hr]
    cases p with
    | nil => rfl
    | cons i p =>
      simp only [Env.isHole] at hi
      split at hi
      · rename_i htr
        obtain ⟨t, k1, k2⟩ := tree_some htr
        have := hnode (i :: p) r t _ k1 k2
        rw [hvl r hr] at this
        exact this
      · cases hi
  have hshp : ∀ r p s ts t, e r = some (.val t) → t.at p = some (.mem .own s ts) → shp w (nodeV w (vlA a r) p) s ts.length := fun r p s ts t k1 k2 => by
    have := (focus p t _ (srep_val h.r k1) k2).1
    rw [rep_mem] at this
    exact this.1
  have hkid2 : ∀ j, j < vs.length → kid w' (vadd vl nt (.tuple ((ys.map a.eval).push v)) nt) j = (ys.map a.eval).getD j undef := fun j hj => by
    rw [vadd_self]
    simp only [kid, Array.getD_eq_getD_getElem?]
    rw [Array.getElem?_push, if_neg (by rw [husz]; omega)]
  obtain ⟨F', k1, k2, k3⟩ := gives_sound vs gs ts' 0 e1 e2 _ hR2 hc (fun j x t hj hjt hlx => by
      have hjl : j < ts'.length := by
        rcases Nat.lt_or_ge j ts'.length with h' | h'
        · exact h'
        · rw [List.getElem?_eq_none h'] at hjt; cases hjt
      have hjt2 : ∃ u, ts[j]? = some u := ⟨_, List.getElem?_eq_getElem (by omega)⟩
      obtain ⟨u, hu⟩ := hjt2
      have := hfs j u hu (takeL_get vs e ht j x u hj hu hlx)
      rw [Nat.zero_add]
      simp only [T.at, T.kids]
      rw [List.getElem?_append_left (by omega), this, hjt]
      rfl) (fun j x hj hgj => by
      have hjl : j < vs.length := by
        rcases Nat.lt_or_ge j vs.length with h' | h'
        · exact h'
        · rw [List.getElem?_eq_none h'] at hj; cases hj
      rw [Nat.zero_add, hkid2 j hjl]
      have hax := arepL_get vs 0 j hav hj
      rw [Nat.zero_add] at hax
      exact fits_of h.dom hnode2 hshp x _ hax (wholes_get vs gs hw j x hj hgj) (holes_get vs gs hh j x hj hgj)) hg
  obtain ⟨k4, k5⟩ := revive_sound (vl := vadd vl nt (.tuple ((ys.map a.eval).push v))) (us := vs) (gs := gs) h.r h.dom hvl2 (fun r p sz off len hr hlf => by
    rcases Bool.or_eq_true _ _ ▸ hlf with hlf | hlf
    · exact hnode2 r p hr (holes_leaf vs gs hh hlf)
    · obtain ⟨u, hu⟩ := Option.isSome_iff_exists.1 hlf
      obtain ⟨t, q1, q2⟩ := tree_some hu
      have := hnode p r t u q1 q2
      rw [vadd_ne (by omega), hvl r hr]
      rw [hvl r hr] at this
      exact this) ks e2 e3 k1 k2 hrv
  have hn : F'.at [ts.length] = some r := by
    rw [k3 ts.length (by omega)]
    simp only [T.at, T.kids]
    rw [List.getElem?_append_right (by omega), hfl]
    simp
  refine ⟨_, hK, land_last h.size h.defers k4 k5 hn ?_ hvl2 o.dst hd⟩
  rw [vadd_self]
  simp only [kid, Array.getD_eq_getD_getElem?]
  rw [Array.getElem?_push, if_pos (by omega)]
  rfl

theorem put_same {s : Nat} (hs : s < a.tmps.size) : a.put (some s) (vlA a s) = a := by
  have : a.tmps.setIfInBounds s (a.tmps.getD s undef) = a.tmps := by
    apply Array.ext_getElem?
    intro j
    rw [Array.getElem?_setIfInBounds]
    by_cases hj : s = j
    · subst hj
      rw [if_pos rfl, if_pos hs, Array.getD_eq_getD_getElem?, Array.getElem?_eq_getElem hs]
      rfl
    · rw [if_neg hj]
  show { a with tmps := a.tmps.setIfInBounds s (a.tmps.getD s undef) } = a
  rw [this]

/-- A slot takes what it names. -/
theorem Rel.settle (h : Rel cx nt e a w) {s : Nat} {e' : Env} (he : e.settle s = some e') : Rel cx nt e' a w := by
  unfold Env.settle at he
  cases hs : e s with
  | none => rw [hs] at he; cases he
  | some v =>
    rw [hs] at he
    simp only [Option.bind_some, Option.map_eq_some_iff] at he
    obtain ⟨⟨t, e1⟩, h1, rfl⟩ := he
    have hlt : s < nt := by
      rcases Nat.lt_or_ge s nt with h' | h'
      · exact h'
      · rw [h.dom s h'] at hs; cases hs
    have hx : AR cx e a w (vlA a s) v := by
      rcases h.r.rep s v hs with ⟨t', rfl, h2⟩ | h2
      · have hno : t'.noOwn = true := by
          simp only [Env.take] at h1
          split at h1
          · assumption
          · cases h1
        exact ⟨hno, h2⟩
      · exact h2
    obtain ⟨vl, k1, k2, k3, k4⟩ := h.take hx h1
    have k5 := Rel.land h.size h.defers k3 k4 k1 hlt
    rw [k2, put_same (by rw [h.size]; exact hlt)] at k5
    exact k5

theorem good_boxk {x' : Operand} {ty : TypeId} {s : Nat} {ts : List T} (hN : ∀ b, ¬ cx.N b) (h : Rel cx nt e a w) (hop : o.op = .box ty x') (ho : okOpd cx.fm (.t s) x' = true) (hd : o.dst = some d) (hlt : d < nt) (he : e s = some (.val (.agg ts))) (hsd : s ≠ d)
    (hcell : ts.all T.isCell = true) (hK : Kt (((e.del s).put d (.val (.mem .own none ts))).put s (.vagg (T.peekL d [] 0 ts)))) : Good P cx nt Kt o a w := by
  have hs : s < nt := by
    rcases Nat.lt_or_ge s nt with h' | h'
    · exact h'
    · rw [h.dom s h'] at he; cases he
  have hx' : a.eval x' = vlA a s := by
    cases x' <;> simp only [okOpd] at ho <;> try cases ho
    simp only [beq_iff_eq] at ho
    subst ho
    rfl
  have hrep := srep_val h.r he
  simp only [Mch.rep] at hrep
  obtain ⟨⟨cs, hcs, hcsz⟩, hrepL⟩ := hrep
  have h1 := h.r.moveRoot he (h.dom nt (Nat.le_refl _))
  have hc : Clr (e.del s) nt := clr_clear (p := []) h.clr hs
  obtain ⟨h5, h6, _⟩ := h1.cells hc hcell
  have hval : vlA a s = .agg cs := hcs
  rw [vadd_self, hval] at h5 h6
  simp only [Value.cells, T.cells] at h5 h6
  have h7 := h5.alloc (s := none) (v' := .pointer (some ⟨w.heap.size, 0, none⟩)) (arr := cs) (elem := ty) hc hN (vadd_self ..) (fun j hj => by
    rw [Array.getD_eq_getD_getElem?, Array.getElem?_eq_getElem (by omega)]
    rfl) rfl rfl rfl (by simp [roomN, h6])
  have h8 := Rel.land (a := a) h.size h.defers h7 hc (fun s hs => by rw [vadd_ne (by omega), vadd_ne (by omega), vadd_ne (by omega)]) hlt
  rw [vadd_self] at h8
  have hsz2 : s < (a.put (some d) (.pointer (some ⟨w.heap.size, 0, none⟩))).tmps.size := by
    simp only [Act.put, Array.size_setIfInBounds]
    rw [h.size]; exact hs
  have hvs : vlA (a.put (some d) (.pointer (some ⟨w.heap.size, 0, none⟩))) s = .agg cs := by
    rw [vlA_put (by rw [h.size]; exact hlt), vadd_ne hsd]; exact hval
  have hed : ((e.del s).put d (.val (.mem .own none ts))) d = some (.val (.mem .own none ts)) := by simp [Env.put, V.hits]
  have hrd := srep_val h8.r hed
  rw [rep_mem] at hrd
  have hpk := peekL_arep (vl := vlA (a.put (some d) (.pointer (some ⟨w.heap.size, 0, none⟩)))) hed ts [] (.mem .own none ts) rfl 0 (fun j u hj => by simpa [T.kids] using hj) hrd.2.2.2.2
  have h9 := h8.put hs (v := vlA (a.put (some d) (.pointer (some ⟨w.heap.size, 0, none⟩))) s) (x := .vagg (T.peekL d [] 0 ts)) (by
    simp only [AR, arep]
    refine ⟨⟨cs, hvs, by rw [hcsz, peekL_length]⟩, ?_⟩
    refine arepL_congr _ 0 (fun j _ hj => ?_) hpk
    rw [peekL_length, Nat.zero_add] at hj
    simp only [nodeV]
    have hvd : vlA (a.put (some d) (.pointer (some ⟨w.heap.size, 0, none⟩))) d = .pointer (some ⟨w.heap.size, 0, none⟩) := by
      rw [vlA_put (by rw [h.size]; exact hlt), vadd_self]
    rw [hvd, hvs]
    simp only [kid, Nat.zero_add]
    have : (w.alloc (.cells cs ty)).cell? ⟨w.heap.size, j, none⟩ = some (cs.getD j undef) := by
      simp only [World.cell?, heap_alloc_at]
      rw [Array.getD_eq_getD_getElem?, Array.getElem?_eq_getElem (by omega)]
      rfl
    rw [this]
    rfl)
  rw [put_same hsz2] at h9
  refine good_value (v := .pointer (some ⟨w.heap.size, 0, none⟩)) (w' := w.alloc (.cells cs ty)) ?_ hK (by rw [hd]; exact h9)
  simp only [execOp, hop, Instr.box, hx', hval]
  simp [newVar, newRow, Value.cells]

end
end Go.Mch
/- The first half of an exchange of two rows of a list. -/
namespace Go.Mch
section
variable {P : Program} {cx : Cx} {nt : Nat} {Kt : Env → Prop} {o : Oper} {a : Act} {w : World} {e : Env}

theorem tree_nil {e : Env} {r : Nat} {t : T} (h : e.tree r [] = some t) : e r = some (.val t) := by
  unfold Env.tree at h
  split at h
  · rename_i u hu
    simp only [T.at, Option.some.injEq] at h
    rw [← h]
    exact hu
  · cases h
theorem tree_one {e : Env} {r i : Nat} {sz : Option Nat} {ts : List T} {t : T} (h : e r = some (.val (.mem .own sz ts))) (hi : ts[i]? = some t) : e.tree r [i] = some t := by
  unfold Env.tree
  rw [h]
  simp [T.at, T.kids, hi]
theorem take_row {e : Env} {r i ly : Nat} {sz : Option Nat} {ts us : List T} (h : e r = some (.val (.mem .own sz ts))) (hi : ts[i]? = some (.mem .own (some 1) us)) (hl : ly = us.length) : e.take (.sref r [i] 1 0 ly) = some (.mem .own (some 1) us, e.setTree r [i] .gone) := by
  simp only [Env.take, tree_one h hi]
  subst hl
  simp [win, Env.clear]
theorem swp_eq {e : Env} {r i j s : Nat} {ts : List T} {A C : T} (er : e r = some (.val (.mem .own (some 1) ts))) (hsr : r ≠ s) (hij : i ≠ j) :
    (((e.setTree r [i] .gone).put s (.val C)).setTree r [j] .gone).setTree r [i] A = ((e.setTree r [i] A).setTree r [j] .gone).put s (.val C) := by
  funext k
  by_cases hks : k = s
  · subst hks
    have hkr : k ≠ r := fun h => hsr h.symm
    simp [Env.setTree, Env.put, Env.kill, hkr, V.hits]
  · by_cases hkr : k = r
    · subst hkr
      simp [Env.setTree, Env.put, Env.kill, hks, V.hits, er, T.setAt, T.withKids, T.kids, List.set_comm _ _ hij]
    · simp only [Env.setTree, Env.put, Env.kill, if_neg hkr, if_neg hks]
      cases hek : e k with
      | none => simp
      | some v =>
        simp only
        cases h1 : v.hits r [i] <;> cases h2 : v.hits r [j] <;> cases h3 : v.hits s [] <;> simp [h1, h2, h3]
theorem good_stsw {x y : Opd} {x' y' : Operand} {t : TypeId} {r i j lx ly s : Nat} {ts ui uj : List T} (h : Rel cx nt e a w) (hop : o.op = .store t x' y') (hsz : szOf P t = some 1)
    (hx : okOpd cx.fm x x' = true) (hy : okOpd cx.fm y y' = true) (hd : o.dst = none) (h1 : e.opd x = some (.pref r [] i)) (h2 : e.opd y = some (.sref r [j] 1 0 lx)) (hs : e s = some (.sref r [i] 1 0 ly)) (hsr : r ≠ s)
    (ht : e.tree r [] = some (.mem .own (some 1) ts)) (hi : ts[i]? = some (.mem .own (some 1) ui)) (hj : ts[j]? = some (.mem .own (some 1) uj)) (hlx : lx = uj.length) (hly : ly = ui.length) (hij : i ≠ j)
    (hK : Kt (((e.setTree r [i] (.mem .own (some 1) uj)).setTree r [j] .gone).put s (.val (.mem .own (some 1) ui)))) : Good P cx nt Kt o a w := by
  have er := tree_nil ht
  have hil : i < ts.length := by
    rcases Nat.lt_or_ge i ts.length with h' | h'
    · exact h'
    · rw [List.getElem?_eq_none h'] at hi; cases hi
  have hse : e.settle s = some ((e.setTree r [i] .gone).put s (.val (.mem .own (some 1) ui))) := by
    unfold Env.settle
    rw [hs]
    simp only [Option.bind_some, take_row er hi hly, Option.map_some]
  have h' := h.settle hse
  have e1r : ((e.setTree r [i] .gone).put s (.val (.mem .own (some 1) ui))) r = some (.val (.mem .own (some 1) (ts.set i .gone))) := by
    simp only [Env.put, if_neg hsr, Env.kill, setTree_self er]
    simp [V.hits, T.setAt, T.withKids, T.kids]
  have hj1 : (ts.set i .gone)[j]? = some (.mem .own (some 1) uj) := by rw [List.getElem?_set_ne hij]; exact hj
  have hax := h.opd hx h1
  have hav := h.opd hy h2
  simp only [AR, arep] at hax hav
  obtain ⟨t0, s0, ts0, k1, k2, k3, k4⟩ := hax
  obtain ⟨z0, t1, ts1, z1, z2, z3, z4⟩ := hav
  rw [er] at k1 z1
  cases k1
  cases z1
  simp only [T.at, Option.some.injEq] at k2
  cases k2
  simp only [T.at, T.kids, hj, Option.bind_some, Option.some.injEq] at z2
  cases z2
  refine good_stA (n := none) (v := .sref r [j] 1 0 lx) (t1 := .mem .own (some 1) uj) (e1 := ((e.setTree r [i] .gone).put s (.val (.mem .own (some 1) ui))).setTree r [j] .gone) (r := r) (p := []) (off := i) (s := some 1) (ts := (ts.set i .gone).set j .gone) h' hop hsz hd ?_ ?_ (take_row e1r hj1 hlx) ?_ rfl ?_ rfl ?_
  · simp only [AR, arep]
    exact ⟨_, _, _, e1r, rfl, by simpa using k3, k4⟩
  · simp only [AR, arep]
    exact ⟨z0, _, _, e1r, by simp [T.at, T.kids, hj1], z3, z4⟩
  · simp only [Env.tree, setTree_self e1r]
    simp [T.at, T.setAt, T.withKids, T.kids]
  · simp only [T.cells, List.length_cons, List.length_nil, List.length_set]; omega
  · simp only [T.cells, Env.puts, List.nil_append]
    rw [swp_eq er hsr hij]
    exact hK
theorem good_same {x y : Opd} {x' y' : Operand} {t : TypeId} {r i lx : Nat} {ts ui : List T} (h : Rel cx nt e a w) (hop : o.op = .store t x' y') (hsz : szOf P t = some 1)
    (hx : okOpd cx.fm x x' = true) (hy : okOpd cx.fm y y' = true) (hd : o.dst = none) (h1 : e.opd x = some (.pref r [] i)) (h2 : e.opd y = some (.sref r [i] 1 0 lx))
    (ht : e.tree r [] = some (.mem .own (some 1) ts)) (hi : ts[i]? = some (.mem .own (some 1) ui)) (hlx : lx = ui.length) (hK : Kt e) : Good P cx nt Kt o a w := by
  have er := tree_nil ht
  have hil : i < ts.length := by
    rcases Nat.lt_or_ge i ts.length with h' | h'
    · exact h'
    · rw [List.getElem?_eq_none h'] at hi; cases hi
  have hax := h.opd hx h1
  have hav := h.opd hy h2
  simp only [AR, arep] at hax hav
  obtain ⟨t0, s0, ts0, k1, k2, k3, k4⟩ := hax
  obtain ⟨z0, t1, ts1, z1, z2, z3, z4⟩ := hav
  have hn := (focus [] _ _ (srep_val h.r er) rfl).1
  have hc := (focus [i] _ _ (srep_val h.r er) (show T.at _ [i] = some (.mem .own (some 1) ui) by simp [T.at, T.kids, hi])).1
  rw [rep_mem] at hn hc
  obtain ⟨⟨⟨len0, n1, n2, _, n4⟩, _⟩, _, m3, _, _⟩ := hn
  obtain ⟨⟨⟨len1, c1, c2, _, _⟩, _⟩, _⟩ := hc
  obtain ⟨arr, elem, m4, m5⟩ := m3 rfl
  simp only [nodeV] at k4 z4 n1 n4 c1 m4 m5
  obtain ⟨o', w1, _, _, w4⟩ := z4
  have ho := w4 (.inr rfl)
  have hv : a.eval y' = kid w (vlA a r) i := by
    rw [w1, ho, c1]
    simp only [blk, ofs, capOf, Nat.zero_mul, Nat.add_zero, Nat.sub_zero]
    have : lx = len1 := by omega
    rw [this]
  have hfit : ofs (vlA a r) + i < arr.size := by
    omega
  have hkid : kid w (vlA a r) i = arr[ofs (vlA a r) + i] := by
    have h3 : kid w (vlA a r) i = (w.cell? ⟨blk (vlA a r), ofs (vlA a r) + i, none⟩).getD undef := (congrArg (fun u => kid w u i) n1).trans rfl
    rw [h3]
    have hcell : w.cell? ⟨blk (vlA a r), ofs (vlA a r) + i, none⟩ = some arr[ofs (vlA a r) + i] := by simp only [World.cell?, m4]; simp [hfit]
    rw [hcell]
    rfl
  have hcells : (a.eval y').cells = #[a.eval y'] := by rw [w1]; rfl
  refine good_skip (e' := e) (w' := w) ?_ hK ?_
  · have hrun := run_storeCells_at P (blk (vlA a r)) (ofs (vlA a r) + i) elem (a.eval y').cells.toList 0 arr w m4 (by rw [hcells]; simp only [List.length_cons, List.length_nil]; omega) (fun v hv => by
      rw [hcells] at hv
      simp only [List.mem_singleton] at hv
      subst hv
      rw [w1]; rfl)
    have hback : (arr.toList.take (ofs (vlA a r) + i + 0) ++ (a.eval y').cells.toList ++ arr.toList.drop (ofs (vlA a r) + i + 0 + (a.eval y').cells.toList.length)).toArray = arr := by
      rw [hcells, hv, hkid]
      apply Array.ext'
      have hl : ofs (vlA a r) + i < arr.toList.length := by simpa using hfit
      have hd := List.drop_eq_getElem_cons hl
      simp only [Nat.add_zero, List.length_cons, List.length_nil]
      have e2 : arr.toList[ofs (vlA a r) + i] = arr[ofs (vlA a r) + i] := by simp
      rw [e2] at hd
      rw [List.append_assoc]
      show arr.toList.take (ofs (vlA a r) + i) ++ (arr[ofs (vlA a r) + i] :: arr.toList.drop (ofs (vlA a r) + i + 1)) = arr.toList
      rw [← hd, List.take_append_drop]
    rw [hback, setRow_self w _ arr elem (0, 0) m4] at hrun
    have hcs : (a.eval y').cells.size = 1 := by rw [hcells]; rfl
    simp only [execOp, hop, Instr.storeAt, k4, Instr.sureAddr, storeVar, Sem.run_bind, Sem.run_pure, Result.andThen_ok, run_szOf hsz, hcs, ne_eq, not_true, if_false]
    rw [hrun]
    simp
  · rw [hd]
    exact h
end
end Go.Mch
/- A row that a slot owns goes into a list, and the slot keeps a name of it. -/
namespace Go.Mch
section
variable {P : Program} {cx : Cx} {nt : Nat} {Kt : Env → Prop} {o : Oper} {a : Act} {w : World} {e : Env} {d : Nat}

/-- What an operation leaves, when its run is known. -/
theorem good_out {v : Value} {w' : World} {K : Env → Prop} (hg : Good P cx nt K o a w) (hrun : (execOp a.eval o).run P w = .ok (.value v) w') : ∃ e', K e' ∧ Rel cx nt e' (a.put o.dst v) w' := by
  have := hg (fun _ _ _ => True)
  unfold Oper.wp at this
  rw [hrun] at this
  exact this

theorem cell_alloc {w : World} {arr : Array Value} {el : TypeId} {j : Nat} {u : Value} (h : arr[j]? = some u) : (w.alloc (.cells arr el)).cell? ⟨w.heap.size, j, none⟩ = some u := by
  simp only [World.cell?, heap_alloc_at, h]
  rfl

/-- A slice value that names all of a slot's row is the slot's value. -/
theorem row_val {n : Nat} {rs : List T} {v : Value} (h : Rel cx nt e a w) (he : e n = some (.val (.mem .own (some 1) rs))) (hv : AR cx e a w v (.sref n [] 1 0 rs.length)) : v = vlA a n := by
  have hr := srep_val h.r he
  rw [rep_mem] at hr
  obtain ⟨⟨⟨L, hL, hlen, _, _⟩, _⟩, _⟩ := hr
  simp only [AR, arep] at hv
  obtain ⟨_, t, ts, g1, g2, g3, o', g4, g5, g6, g7⟩ := hv
  have h0 := g7 (.inr rfl)
  simp only [nodeV] at g4 h0
  rw [Nat.zero_mul, Nat.add_zero] at h0
  rw [Nat.mul_one] at hlen
  rw [g4, h0, Nat.sub_zero, hlen]
  exact hL.symm

theorem good_bslk {x : Opd} {s n : Nat} {ps' : Array (Nat × Operand)} {t el : TypeId} {rs : List T} (hN : ∀ b, ¬ cx.N b) (h : Rel cx nt e a w) (hop : o.op = .buildSlice t n ps') (hel : elOf P t = some el) (hsz : szOf P el = some 1)
    (hz : (zeroOf P el).any (fun z => z.length == 1) = true) (hn : n ≤ 16777216) (hr : ps'.toList.map (·.1) = List.range n) (hps : okOpds cx.fm [x] (ps'.toList.map (·.2)) = true) (hd : o.dst = some d) (hlt : d < nt)
    (h1 : e.opd x = some (.sref s [] 1 0 rs.length)) (he : e s = some (.val (.mem .own (some 1) rs))) (hsd : s ≠ d)
    (hK : Kt (((e.del s).put d (.val (.mem .own (some 1) [.mem .own (some 1) rs]))).put s (.sref d [0] 1 0 rs.length))) : Good P cx nt Kt o a w := by
  have hs : s < nt := by
    rcases Nat.lt_or_ge s nt with h' | h'
    · exact h'
    · rw [h.dom s h'] at he; cases he
  -- one part
  obtain ⟨y, hy⟩ : ∃ y, ps'.toList = [(0, y)] ∧ n = 1 := by
    cases hp : ps'.toList with
    | nil => rw [hp] at hps; simp [okOpds] at hps
    | cons p l =>
      cases l with
      | cons => rw [hp] at hps; simp [okOpds] at hps
      | nil =>
        rw [hp] at hr
        cases n with
        | zero => simp at hr
        | succ n =>
          cases n with
          | succ n =>
            have := congrArg List.length hr
            simp at this
          | zero =>
            obtain ⟨i, y⟩ := p
            simp at hr
            exact ⟨y, by rw [hr], rfl⟩
  obtain ⟨hy, rfl⟩ := hy
  have hps2 := hps
  rw [hy] at hps2
  simp only [List.map_cons, List.map_nil, okOpds, Bool.and_true] at hps2
  have har := h.opd hps2 h1
  have hval := row_val h he har
  have hrep := srep_val h.r he
  rw [rep_mem] at hrep
  obtain ⟨⟨⟨L, hL, hlen, _, _⟩, _⟩, _⟩ := hrep
  rw [Nat.mul_one] at hlen
  -- the run
  have hps3 : ps' = #[(0, y)] := by
    apply Array.toList_inj.1
    rw [hy]
  have hu := elOf_spec hel
  obtain ⟨iz, hiz⟩ : ∃ i, P.info? el = some i := by
    unfold szOf at hsz
    cases hi : P.info? el with
    | none => rw [hi] at hsz; cases hsz
    | some i => exact ⟨i, rfl⟩
  obtain ⟨z, hzv⟩ : ∃ z, iz.zero = some z := by
    unfold zeroOf at hz
    rw [hiz] at hz
    cases hz' : iz.zero with
    | none => simp [hz'] at hz
    | some z => exact ⟨z, rfl⟩
  generalize hzc : (Array.range (1 * 1)).map (z.cells[· % z.cells.size]!) = cells0
  have hc0 : cells0.size = 1 := by rw [← hzc]; simp
  have hcell1 : (a.eval y).cells = #[a.eval y] := by rw [hval, hL]; rfl
  obtain ⟨out, f1, f2, f3⟩ := fill_ones [(0, a.eval y)] 0 cells0 rfl (fun p hp => by
    rw [List.mem_singleton] at hp
    subst hp
    exact hcell1) (by simp [hc0])
  have hout : out[0]? = some (a.eval y) := by
    rw [f3]
    simp
  have hrun : (execOp a.eval o).run P w = .ok (.value (.slice (some ⟨w.heap.size, 0, none⟩) 1 1)) (w.alloc (.cells out el)) := by
    have hbig : ¬ (1 * 1 > 2 ^ 24) := by omega
    have hbs : (Instr.buildSlice t 1 #[(0, a.eval y)]).run P w = .ok (.slice (some ⟨w.heap.size, 0, none⟩) 1 1) (w.alloc (.cells out el)) := by
      simp only [Instr.buildSlice, Sem.run_bind, run_und hu, Result.andThen_ok, run_szOf hsz]
      rw [if_neg hbig, if_neg (by omega)]
      simp only [Sem.run_bind, run_zero hiz hzv, Sem.run_pure, Result.andThen_ok]
      rw [hzc]
      rw [f1]
      simp [newRow]
    simp only [execOp, hop, hps3, List.map_toArray, List.map_cons, List.map_nil, Sem.run_bind, hbs, Result.andThen_ok, Sem.run_pure]
  have htk : e.takeL [.sref s [] 1 0 rs.length] = some ([.mem .own (some 1) rs], e.del s) := by
    simp [Env.takeL, Env.take, Env.tree, he, T.at, Env.clear, win]
  have hg := good_bsl (Kt := fun e' => e' = (e.del s).setD (some d) (.val (.mem .own (some 1) [.mem .own (some 1) rs]))) hN h hop hel hsz hz hn hr hps hd hlt (vs := [.sref s [] 1 0 rs.length]) (by simp [Env.opds, h1]) htk (by simp [T.isCell]) rfl
  obtain ⟨e', he', hrel⟩ := good_out hg hrun
  subst he'
  rw [hd] at hrel
  have hvs : vlA (a.put (some d) (.slice (some ⟨w.heap.size, 0, none⟩) 1 1)) s = a.eval y := by
    rw [vlA_put (by rw [h.size]; exact hlt), vadd_ne hsd]; exact hval.symm
  have hvd : vlA (a.put (some d) (.slice (some ⟨w.heap.size, 0, none⟩) 1 1)) d = .slice (some ⟨w.heap.size, 0, none⟩) 1 1 := by
    rw [vlA_put (by rw [h.size]; exact hlt), vadd_self]
  have hed : ((e.del s).setD (some d) (.val (.mem .own (some 1) [.mem .own (some 1) rs]))) d = some (.val (.mem .own (some 1) [.mem .own (some 1) rs])) := by simp [Env.setD, Env.put, V.hits]
  have hk : kid (w.alloc (.cells out el)) (.slice (some ⟨w.heap.size, 0, none⟩) 1 1) 0 = a.eval y := by
    show ((w.alloc (.cells out el)).cell? ⟨w.heap.size, 0 + 0, none⟩).getD undef = _
    rw [Nat.add_zero, cell_alloc hout]
    rfl
  have h9 := hrel.put hs (v := vlA (a.put (some d) (.slice (some ⟨w.heap.size, 0, none⟩) 1 1)) s) (x := .sref d [0] 1 0 rs.length) (by
    simp only [AR, arep]
    refine ⟨by omega, _, rs, hed, rfl, by simp, ?_⟩
    simp only [nodeV]
    rw [hvd, hvs, hk, hval]
    refine ⟨ofs (vlA a s), ?_, ?_, by simp, fun _ => by simp⟩
    · rw [Nat.sub_zero, hlen]; exact hL
    · rename_i hcap
      simp only [Nat.zero_add, hlen]
      exact hcap)
  have hsz2 : s < (a.put (some d) (.slice (some ⟨w.heap.size, 0, none⟩) 1 1)).tmps.size := by
    simp only [Act.put, Array.size_setIfInBounds]
    rw [h.size]; exact hs
  rw [put_same hsz2] at h9
  exact good_value hrun hK (by rw [hd]; exact h9)

/-- What is left to show when the run of an append is known: slot n names the row that was appended. -/
theorem appk_fin {n yy len : Nat} {rs : List T} {zs : List T} {e1 : Env} {v' : Value} {w' : World} (h : Rel cx nt e a w) (hd : o.dst = some d) (hlt : d < nt) (hn : e n = some (.sref yy [0] 1 0 rs.length)) (hnd : n ≠ d) (hlen : zs.length = len)
    (hg : Good P cx nt (fun e' => e' = e1.setD (some d) (.val (.mem .own (some 1) (zs ++ [.mem .own (some 1) rs])))) o a w) (hrun : (execOp a.eval o).run P w = .ok (.value v') w') (hk : kid w' v' len = kid w (vlA a yy) 0)
    (hK : Kt ((e1.put d (.val (.mem .own (some 1) (zs ++ [.mem .own (some 1) rs])))).put n (.sref d [len] 1 0 rs.length))) : Good P cx nt Kt o a w := by
  have hs : n < nt := by
    rcases Nat.lt_or_ge n nt with h' | h'
    · exact h'
    · rw [h.dom n h'] at hn; cases hn
  obtain ⟨e', he', hrel⟩ := good_out hg hrun
  subst he'
  rw [hd] at hrel
  have hal : arep cx.fm (okR cx (Own e (vlA a) w)) e (vlA a) w (vlA a n) (.sref yy [0] 1 0 rs.length) := by
    rcases h.r.rep n _ hn with ⟨t', h1, _⟩ | h2
    · cases h1
    · exact h2
  simp only [arep] at hal
  obtain ⟨_, t1, ts1, _, _, _, hw⟩ := hal
  have hvs : vlA (a.put (some d) v') n = vlA a n := by
    rw [vlA_put (by rw [h.size]; exact hlt), vadd_ne hnd]
  have hvd : vlA (a.put (some d) v') d = v' := by
    rw [vlA_put (by rw [h.size]; exact hlt), vadd_self]
  have hed : (e1.setD (some d) (.val (.mem .own (some 1) (zs ++ [.mem .own (some 1) rs])))) d = some (.val (.mem .own (some 1) (zs ++ [.mem .own (some 1) rs]))) := by simp [Env.setD, Env.put, V.hits]
  have h9 := hrel.put hs (v := vlA (a.put (some d) v') n) (x := .sref d [len] 1 0 rs.length) (by
    simp only [AR, arep]
    refine ⟨by omega, _, rs, hed, ?_, by simp, ?_⟩
    · simp only [T.at, T.kids]
      rw [List.getElem?_append_right (by omega), hlen, Nat.sub_self]
      rfl
    · simp only [nodeV] at hw ⊢
      rw [hvd, hvs, hk]
      exact hw)
  have hsz2 : n < (a.put (some d) v').tmps.size := by
    simp only [Act.put, Array.size_setIfInBounds]
    rw [h.size]; exact hs
  rw [put_same hsz2] at h9
  exact good_value hrun hK (by rw [hd]; exact h9)

theorem good_appk {by_ : Nat} {x y : Opd} {x' y' : Operand} {t u el : TypeId} {p : V} {z : Option (List T) × Env} {e1 : Env} {yy n : Nat} {rs : List T} (hN : ∀ b, ¬ cx.N b) (h : Rel cx nt e a w)
    (hop : o.op = .call ⟨.builtin .append, #[x', y'], #[t, u]⟩) (hel : elOf P t = some el) (hsz : szOf P el = some 1) (hzo : (zeroOf P el).any (fun z => z.length == 1) = true) (hby : byOf P el = some by_) (hb : by_ ≤ 32768 * 1)
    (hu : isSlice P u = true) (hx : okOpd cx.fm x x' = true) (hy : okOpd cx.fm y y' = true) (hd : o.dst = some d) (hlt : d < nt) (h1 : e.opd x = some p) (h2 : e.opd y = some (.sref yy [] 1 0 1)) (h3 : e.base 1 p = some z)
    (h4 : z.2.src true 1 (.sref yy [] 1 0 1) = some ([.mem .own (some 1) rs], e1)) (hn : e n = some (.sref yy [0] 1 0 rs.length)) (hnd : n ≠ d) (hl : (z.1.getD []).length + 1 ≤ roomy)
    (hK : Kt ((e1.put d (.val (.mem .own (some 1) (z.1.getD [] ++ [.mem .own (some 1) rs])))).put n (.sref d [(z.1.getD []).length] 1 0 rs.length))) : Good P cx nt Kt o a w := by
  have hut := elOf_spec hel
  obtain ⟨eu, heu⟩ := Option.isSome_iff_exists.1 hu
  have huu := elOf_spec heu
  obtain ⟨i, hi, hisz⟩ : ∃ i, P.info? el = some i ∧ i.size = 1 := by
    unfold szOf at hsz
    cases hi : P.info? el with
    | none => rw [hi] at hsz; cases hsz
    | some i => rw [hi] at hsz; exact ⟨i, rfl, by simpa using hsz⟩
  have hibt : i.bytes = by_ := by simpa [byOf, hi] using hby
  obtain ⟨zv, hzv⟩ : ∃ z, i.zero = some z := by
    unfold zeroOf at hzo
    rw [hi] at hzo
    cases hz' : i.zero with
    | none => simp [hz'] at hzo
    | some z => exact ⟨z, rfl⟩
  have hex := h.opd hx h1
  have hey := h.opd hy h2
  have hg := good_app (Kt := fun e' => e' = e1.setD (some d) (.val (.mem .own (some 1) (z.1.getD [] ++ [.mem .own (some 1) rs])))) hN h hop hel hsz hzo hby hb (by omega) hu hx hy hd hlt h1 h2 h3 h4 (by simpa using hl) (by simp [T.isCell]) (fun _ hh => by cases hh) (fun hz _ => by rw [hz]; rfl) (fun ts hz => by rw [hz]; rfl)
  -- the literal's one cell
  simp only [AR, arep] at hey
  obtain ⟨_, ty, tsy, y1, y2, y3, oy, y4, y5, y6, y7⟩ := hey
  simp only [T.at, Option.some.injEq] at y2
  subst y2
  have hry := srep_val h.r y1
  rw [rep_mem] at hry
  have hcy := cell_kid hry.1 (i := 0) (by omega)
  have ho := y7 (.inr rfl)
  simp only [nodeV] at y4 ho
  rw [Nat.zero_mul, Nat.add_zero] at ho
  rw [Nat.add_zero, ← ho] at hcy
  generalize hg0 : kid w (vlA a yy) 0 = g0 at hcy
  generalize hcapy : capOf (vlA a yy) - 0 = cy at y4
  have hcell1 : g0.oneCell' = true := by
    have hal : arep cx.fm (okR cx (Own e (vlA a) w)) e (vlA a) w (vlA a n) (.sref yy [0] 1 0 rs.length) := by
      rcases h.r.rep n _ hn with ⟨t', h1, _⟩ | h2
      · cases h1
      · exact h2
    simp only [arep] at hal
    obtain ⟨_, t1, ts1, q1, q2, _, _⟩ := hal
    rw [y1] at q1
    cases q1
    have q3 : tsy[0]? = some (.mem .own (some 1) ts1) := by
      simp only [T.at, T.kids] at q2
      cases hq : tsy[0]? with
      | none => rw [hq] at q2; cases q2
      | some c => rw [hq] at q2; exact congrArg some (Option.some.inj q2)
    have := repL_get tsy 0 0 hry.2.2.2.2 q3
    rw [Nat.add_zero, hg0] at this
    exact (isCell_oneCell this rfl).1
  have hfirst : ∀ w1 : World, (∀ ad, w1.cell? ad = w.cell? ad) → (Builtin.firstCells 1 1 (a.eval y')).run P w1 = .ok [g0].toArray w1 := fun w1 hw1 => by
    rw [y4]
    refine run_firstCells_some w1 1 1 _ 1 cy [g0] (by simp) fun j v hj => ?_
    cases j with
    | succ j => simp at hj
    | zero =>
      simp at hj
      subst hj
      rw [addr_add, Nat.add_zero, hw1]
      exact hcy
  have hlenY : ∀ w1 : World, (Builtin.lenOf (a.eval y')).run P w1 = .ok 1 w1 := fun w1 => by rw [y4]; rfl
  unfold Env.base at h3
  split at h3
  · -- onto nil
    cases h3
    have hvx := ar_sc hex
    have hge := grownCap_ge w (0 + 1) 0 el
    have hrun := run_app_grow (P := P) (w := w) (ty := o.type) (n := 0) (m := 1) (c := 0) (ad := none) (vy := a.eval y') (olds := []) (news := [g0]) hut huu hi hzv (hlenY w) (run_firstCells_none ..)
      (by rw [hisz]; exact hfirst w.drew fun _ => rfl) (by omega) (by omega) (by rw [hibt]; exact fit_bytes (sz := 1) (by unfold roomy; omega) hb (by omega))
    refine appk_fin (len := 0) h hd hlt hn hnd rfl hg (v' := .slice (some ⟨w.heap.size, 0, none⟩) (0 + 1) (grownCap w (0 + 1) 0 el)) (w' := w.drew.alloc (.cells (([] : List Value).toArray ++ [g0].toArray ++ Builtin.zeroCells zv.cells (grownCap w (0 + 1) 0 el - (0 + 1))) el)) ?_ ?_ hK
    · simp only [execOp, hop, resolve, invoke, builtin, List.map_toArray, List.map_cons, List.map_nil, hvx, Sem.run_bind, hrun, Result.andThen_ok, Sem.run_pure]
      try rfl
    · rw [hg0]
      show ((w.drew.alloc _).cell? ⟨w.drew.heap.size, 0 + 0, none⟩).getD undef = _
      rw [Nat.add_zero, cell_alloc (u := g0) (by
        rw [Array.getElem?_append_left (by simp)]
        simp)]
      rfl
  · -- onto own memory
    rename_i r pp sz0 off len
    split at h3
    · rename_i sz1 ts e' htake
      split at h3
      · rename_i hs1
        subst hs1
        cases h3
        simp only [Option.getD_some] at hl hg hK
        have htk := htake
        simp only [Env.take] at htk
        split at htk
        · rename_i szr tsr htr
          split at htk
          · rename_i hcond
            obtain ⟨hc1, hc2, hc3⟩ := hcond
            simp only [Option.some.injEq, Prod.mk.injEq, T.mem.injEq, true_and] at htk
            obtain ⟨⟨hsz0, hts⟩, _⟩ := htk
            subst hsz0
            subst hc1
            simp only [Nat.mul_one] at hc2 hts
            have htl : ts.length = len := by
              rw [← hts, win_length (by omega)]
            simp only [AR, arep] at hex
            obtain ⟨_, tr, tsx, x1, x2, x3, ox, x4, x5, x6, x7⟩ := hex
            have : e.tree r pp = some (.mem .own (some 1) tsx) := by simp [Env.tree, x1, x2]
            rw [htr] at this
            cases this
            have hnode := (focus pp tr _ (srep_val h.r x1) x2).1
            rw [rep_mem] at hnode
            obtain ⟨k1, _, k3, _, _⟩ := hnode
            obtain ⟨arr, elem, harr, hrm⟩ := k3 rfl
            simp only [Nat.mul_one] at hrm x6 x7
            generalize hnv : nodeV w (vlA a r) pp = nv at *
            by_cases hfit : len + 1 ≤ capOf nv - off
            · have hox := x7 (.inl (by omega))
              have hone : ∀ v ∈ [g0], v.oneCell' = true := fun v hv => by
                rw [List.mem_singleton] at hv
                subst hv
                exact hcell1
              have hst := run_storeCells_at P (blk nv) (ox + len) elem [g0] 0 arr w harr (by simp; omega) hone
              simp only [Nat.add_zero, List.length_singleton] at hst
              have hrun := run_app_room (P := P) (w := w) (ty := o.type) (n := len) (m := 1) (c := capOf nv - off) (ad := ⟨blk nv, ox, none⟩) (vy := a.eval y') (news := [g0]) hut huu hsz (hlenY w) (hfirst w fun _ => rfl) hfit (by rw [addr_add, Nat.mul_one]; exact hst)
              rw [← x4] at hrun
              refine appk_fin (len := len) h hd hlt hn hnd htl hg (v' := .slice (some ⟨blk nv, ox, none⟩) (len + 1) (capOf nv - off)) (w' := w.setRow (blk nv) (arr.toList.take (ox + len) ++ [g0] ++ arr.toList.drop (ox + len + 1)).toArray) ?_ ?_ (by rw [← htl]; exact hK)
              · simp only [execOp, hop, resolve, invoke, builtin, List.map_toArray, List.map_cons, List.map_nil, Sem.run_bind, Sem.run_pure, Result.andThen_ok, hrun]
              · rw [hg0]
                show ((w.setRow (blk nv) _).cell? ⟨blk nv, ox + len, none⟩).getD undef = _
                have hh := setRow_heap w (blk nv) arr (arr.toList.take (ox + len) ++ [g0] ++ arr.toList.drop (ox + len + 1)).toArray elem (0, 0) harr
                have hat : (arr.toList.take (ox + len) ++ [g0] ++ arr.toList.drop (ox + len + 1)).toArray[ox + len]? = some g0 := by
                  rw [List.getElem?_toArray, List.append_assoc, List.getElem?_append_right (List.length_take_le _ _), List.length_take, Nat.min_eq_left (by simp; omega), Nat.sub_self]
                  rfl
                simp only [World.cell?, hh]
                rw [hat]
                rfl
            · have hge := grownCap_ge w (len + 1) (capOf nv - off) el
              have holds : (Builtin.firstCells 1 len (.slice (some ⟨blk nv, ox, none⟩) len (capOf nv - off))).run P w.drew = .ok ((List.range len).map fun j => kid w nv (off + j)).toArray w.drew := by
                refine run_firstCells_some w.drew 1 len _ len _ _ (by simp) fun j v hj => ?_
                rw [List.getElem?_map] at hj
                rcases Nat.lt_or_ge j len with hlt | hge
                · rw [List.getElem?_range hlt] at hj
                  cases hj
                  have hox := x7 (.inl (by omega))
                  have hck := cell_kid k1 (i := off + j) (by omega)
                  rw [addr_add, hox, Nat.add_assoc]
                  exact hck
                · rw [List.getElem?_eq_none (by simpa using hge)] at hj
                  cases hj
              have hrun := run_app_grow (P := P) (w := w) (ty := o.type) (n := len) (m := 1) (c := capOf nv - off) (ad := some ⟨blk nv, ox, none⟩) (vy := a.eval y') (olds := (List.range len).map fun j => kid w nv (off + j)) (news := [g0]) hut huu hi hzv (hlenY w) (by rw [hisz]; exact holds)
                (by rw [hisz]; exact hfirst w.drew fun _ => rfl) (by omega) (by unfold roomy at hl; omega) (by rw [hibt]; exact fit_bytes (sz := 1) (by omega) hb (by omega))
              rw [← x4] at hrun
              refine appk_fin (len := len) h hd hlt hn hnd htl hg (v' := .slice (some ⟨w.heap.size, 0, none⟩) (len + 1) (grownCap w (len + 1) (capOf nv - off) el)) (w' := w.drew.alloc (.cells (((List.range len).map fun j => kid w nv (off + j)).toArray ++ [g0].toArray ++ Builtin.zeroCells zv.cells (grownCap w (len + 1) (capOf nv - off) el - (len + 1))) el)) ?_ ?_ (by rw [← htl]; exact hK)
              · simp only [execOp, hop, resolve, invoke, builtin, List.map_toArray, List.map_cons, List.map_nil, Sem.run_bind, Sem.run_pure, Result.andThen_ok, hrun]
              · rw [hg0]
                show ((w.drew.alloc _).cell? ⟨w.drew.heap.size, 0 + len, none⟩).getD undef = _
                rw [Nat.zero_add, cell_alloc (u := g0) (by
                  rw [Array.getElem?_append_left (by simp), Array.getElem?_append_right (by simp)]
                  simp)]
                rfl
          · cases htk
        · cases htk
      · cases h3
    · cases h3
  · cases h3
end
end Go.Mch
/- One operation of the compact code against the model's. -/
namespace Go.Mch

def okDst (nt : Nat) (q : Q) (d : Option Nat) : Bool :=
  match q with
  | .st .. => d.isNone
  | .sts .. => d.isNone
  | .stsw .. => d.isNone
  | .call .. => d.all (fun d => decide (d < nt))
  | .callm .. => d.all (fun d => decide (d < nt))
  | .freeze _ => false
  | .settle _ => false
  | .upd .. => d.isNone
  | _ => d.any (fun d => decide (d < nt))

section
variable {P : Program} {cx : Cx} {nt : Nat} {Kt : Env → Prop} {o : Oper} {a : Act} {w : World} {e : Env} {d : Nat} {G : Rl} {m : K}

theorem okDst_some {nt : Nat} {d : Option Nat} (h : d.any (fun d => decide (d < nt)) = true) : ∃ x, d = some x ∧ x < nt := by
  cases d with
  | none => simp at h
  | some x => exact ⟨x, rfl, by simpa using h⟩

theorem arr1 {α : Type} {as : Array α} {l : List α} (h : as.toList = l) : as = l.toArray := by rw [← h]

theorem okSet_spec {t : TypeId} (h : okSet P t = true) : ∃ kt vt, P.underlying t = some (.map kt vt) ∧ P.underlying kt = some .string ∧ (P.info? vt).bind (·.zero) = some (.bool false) := by
  unfold okSet at h
  split at h
  · rename_i kt vt hu
    simp only [Bool.and_eq_true] at h
    obtain ⟨h1, h2⟩ := h
    split at h1
    · split at h2
      · exact ⟨kt, vt, hu, by assumption, by assumption⟩
      · cases h2
    · cases h1
  · cases h

theorem okTrue {fm : Nat → Nat} {v : Operand} (h : okOpd fm (.c (.bool true)) v = true) : v = .const (.bool true) := by
  cases v <;> simp only [okOpd] at h <;> try cases h
  rename_i v'
  cases v' <;> simp_all [eqC]

theorem stepQ_sound (hG : ∀ f args args' r, G f args args' r → Pact P cx.fm f args args' r) (hN : ∀ b, ¬ cx.N b) (hm : m ≠ .own) (hm2 : m = .fresh → ∀ b, ¬ cx.M b) (h : Rel cx nt e a w)
    {q : Q} (hq : okQ P cx.fm q o.op = true) (hd : okDst nt q o.dst = true) (hs : stepQ G m o.dst q Kt e) : Good P cx nt Kt o a w := by
  generalize hop : o.op = op at hq
  unfold okQ at hq
  split at hq
  next x y =>
    obtain ⟨d, hdd, hlt⟩ := okDst_some hd
    simp only [stepQ, bindP, hdd] at hs
    obtain ⟨v, h1, hK⟩ := hs
    exact good_move h (.inl hop) hq hdd hlt h1 hK
  next x y =>
    obtain ⟨d, hdd, hlt⟩ := okDst_some hd
    simp only [stepQ, bindP, hdd] at hs
    obtain ⟨v, h1, hK⟩ := hs
    split at hK
    · exact good_move h (.inr hop) hq hdd hlt h1 hK
    · obtain ⟨y, h2, hK⟩ := hK
      exact good_asg h hop hq hdd hlt h1 h2 hK
  next x y =>
    obtain ⟨d, hdd, hlt⟩ := okDst_some hd
    simp only [stepQ, bindP, hdd] at hs
    obtain ⟨v, h1, h2, hK⟩ := hs
    exact good_move h (.inl hop) hq hdd hlt h1 hK
  next x y t x' y' =>
    have hdd : o.dst = none := by simpa [okDst] using hd
    simp only [stepQ, bindP] at hs
    simp only [Bool.and_eq_true, beq_iff_eq] at hq
    obtain ⟨p, h1, v, h2, hK⟩ := hs
    split at hK
    · split at hK
      · rename_i h4
        obtain ⟨h5, hK⟩ := hK
        exact good_st (n := none) h hop hq.1.1 hq.1.2 hq.2 hdd h1 h2 (t1 := .sc _) (e1 := e) rfl h4 rfl (by simp only [T.cells, List.length_cons, List.length_nil]; omega) rfl hK
      · exact hK.elim
    · exact hK.elim
  next x y s t x' y' =>
    have hdd : o.dst = none := by simpa [okDst] using hd
    simp only [stepQ, bindP] at hs
    simp only [Bool.and_eq_true, beq_iff_eq] at hq
    obtain ⟨av, h1, xv, h2, yv, h3, _, e', h4, hK⟩ := hs
    unfold Env.swp at h4
    split at h4
    · rename_i r i r1 j lx r2 i' ly
      split at h4
      · rename_i hc
        obtain ⟨rfl, rfl, rfl, hrs⟩ := hc
        split at h4
        · rename_i ts ht
          split at h4
          · rename_i ui uj hi hj
            split at h4
            · rename_i hl
              simp only [Option.some.injEq] at h4
              by_cases hij : i' = j
              · rw [if_pos hij] at h4
                subst h4
                subst hij
                exact good_same h hop hq.1.1 hq.1.2 hq.2 hdd h1 h2 ht hj hl.1 hK
              · rw [if_neg hij] at h4
                subst h4
                exact good_stsw h hop hq.1.1 hq.1.2 hq.2 hdd h1 h2 h3 hrs ht hi hj hl.1 hl.2 hij hK
            · cases h4
          · cases h4
        · cases h4
      · cases h4
    · cases h4
  next x y =>
    obtain ⟨d, hdd, hlt⟩ := okDst_some hd
    simp only [stepQ, bindP, hdd] at hs
    obtain ⟨v, h1, hK⟩ := hs
    exact good_move h (.inr hop) hq hdd hlt h1 hK
  next c x y c' x' y' =>
    obtain ⟨d, hdd, hlt⟩ := okDst_some hd
    simp only [stepQ, bindP, hdd] at hs
    simp only [Bool.and_eq_true] at hq
    obtain ⟨t, h1, v, h2, hK⟩ := hs
    exact good_pick h hop hq.1.1 hq.1.2 hq.2 hdd hlt h1 h2 hK
  next op x y op' t x' y' u =>
    obtain ⟨d, hdd, hlt⟩ := okDst_some hd
    simp only [stepQ, bindP, hdd] at hs
    simp only [Bool.and_eq_true, beq_iff_eq] at hq
    obtain ⟨p, h1, q, h2, v, h3, hK⟩ := hs
    obtain ⟨⟨rfl, hx⟩, hy⟩ := hq
    exact good_bin h hop hx hy hdd hlt h1 h2 h3 hK
  next neg x y op t x' y' u =>
    obtain ⟨d, hdd, hlt⟩ := okDst_some hd
    simp only [stepQ, bindP, hdd] at hs
    simp only [Bool.and_eq_true, beq_iff_eq] at hq
    obtain ⟨p, h1, q, h2, hK⟩ := hs
    obtain ⟨⟨⟨hn, ht⟩, hx⟩, hy⟩ := hq
    have ht' : P.underlying t = some .bool := by
      split at ht
      · assumption
      · cases ht
    exact good_beq h hop hn ht' hx hy hdd hlt h1 h2 hK
  next neg x op t x' y' u =>
    obtain ⟨d, hdd, hlt⟩ := okDst_some hd
    simp only [stepQ, bindP, hdd] at hs
    simp only [Bool.and_eq_true, beq_iff_eq] at hq
    obtain ⟨p, h1, hK⟩ := hs
    obtain ⟨⟨⟨hn, ht⟩, hx⟩, hy⟩ := hq
    exact good_isnil h hop hn ht hx hy hdd hlt h1 hK
  next op x op' t x' =>
    obtain ⟨d, hdd, hlt⟩ := okDst_some hd
    simp only [stepQ, bindP, hdd] at hs
    simp only [Bool.and_eq_true, beq_iff_eq] at hq
    obtain ⟨p, h1, v, h2, hK⟩ := hs
    obtain ⟨rfl, hx⟩ := hq
    exact good_un h hop hx hdd hlt h1 h2 hK
  next k x s t x' =>
    obtain ⟨d, hdd, hlt⟩ := okDst_some hd
    simp only [stepQ, bindP, hdd] at hs
    simp only [Bool.and_eq_true] at hq
    obtain ⟨n, h1, hK⟩ := hs
    obtain ⟨ht, hx⟩ := hq
    split at ht
    · rename_i hs' ht'
      simp only [beq_iff_eq] at ht
      subst ht
      exact good_conv h hop hs' ht' hx hdd hlt h1 hK
    · cases ht
  next x as ts =>
    obtain ⟨d, hdd, hlt⟩ := okDst_some hd
    simp only [stepQ, bindP, hdd] at hs
    split at hq
    · rename_i x' t has hts
      simp only [Bool.and_eq_true] at hq
      obtain ⟨n, h1, hK⟩ := hs
      exact good_len h (by rw [hop, arr1 has, arr1 hts]) hq.1 hq.2 hdd hlt h1 hK
    · cases hq
  next x as ts =>
    obtain ⟨d, hdd, hlt⟩ := okDst_some hd
    simp only [stepQ, bindP, hdd] at hs
    split at hq
    · rename_i x' t has hts
      simp only [Bool.and_eq_true] at hq
      obtain ⟨n, h1, hK⟩ := hs
      obtain ⟨ht, hx⟩ := hq
      have ht' : P.underlying t = some .string := by
        split at ht
        · assumption
        · cases ht
      exact good_slen h (by rw [hop, arr1 has, arr1 hts]) ht' hx hdd hlt h1 hK
    · cases hq
  next sz x i t x' i' =>
    obtain ⟨d, hdd, hlt⟩ := okDst_some hd
    simp only [stepQ, bindP, hdd] at hs
    simp only [Bool.and_eq_true, Option.any_eq_true, beq_iff_eq] at hq
    obtain ⟨p, h1, n, h2, v, h3, hK⟩ := hs
    obtain ⟨⟨⟨el, hel, hsz⟩, hx⟩, hi⟩ := hq
    exact good_idx h hop hel hsz hx hi hdd hlt h1 h2 h3 hK
  next x i t x' i' =>
    obtain ⟨d, hdd, hlt⟩ := okDst_some hd
    simp only [stepQ, bindP, hdd] at hs
    simp only [Bool.and_eq_true] at hq
    obtain ⟨p, h1, n, h2, hK⟩ := hs
    obtain ⟨⟨ht, hx⟩, hi⟩ := hq
    have ht' : P.underlying t = some .string := by
      split at ht
      · assumption
      · cases ht
    split at hK
    · obtain ⟨b, h3, hK⟩ := hK
      exact good_at h hop ht' hx hi hdd hlt h1 h2 h3 hK
    · exact hK.elim
  next off x t x' f =>
    obtain ⟨d, hdd, hlt⟩ := okDst_some hd
    simp only [stepQ, bindP, hdd] at hs
    simp only [Bool.and_eq_true, Option.any_eq_true, beq_iff_eq, bne_iff_ne, ne_eq] at hq
    obtain ⟨p, h1, v, h2, hK⟩ := hs
    obtain ⟨⟨fl, hf, rfl, n, hn, hn0⟩, hx⟩ := hq
    exact good_fld h hop hf hn hn0 hx hdd hlt h1 h2 hK
  next off n x t x' f =>
    obtain ⟨d, hdd, hlt⟩ := okDst_some hd
    simp only [stepQ, bindP, hdd] at hs
    simp only [Bool.and_eq_true, Option.any_eq_true, beq_iff_eq] at hq
    obtain ⟨p, h1, v, h2, hK⟩ := hs
    obtain ⟨⟨fl, hf, rfl, hn⟩, hx⟩ := hq
    exact good_fldv h hop hf hn hx hdd hlt h1 h2 hK
  next n x t x' =>
    obtain ⟨d, hdd, hlt⟩ := okDst_some hd
    simp only [stepQ, bindP, hdd] at hs
    simp only [Bool.and_eq_true] at hq
    obtain ⟨p, h1, v, h2, hK⟩ := hs
    exact good_ld h hop hq.1 hq.2 hdd hlt h1 h2 hK
  next n x y t x' y' =>
    have hdd : o.dst = none := by simpa [okDst] using hd
    simp only [stepQ, bindP] at hs
    simp only [Bool.and_eq_true, beq_iff_eq] at hq
    obtain ⟨p, h1, v, h2, z, h3, hK⟩ := hs
    split at hK
    · split at hK
      · rename_i h4
        obtain ⟨⟨h5, h6, h7⟩, hK⟩ := hK
        exact good_st h hop hq.1.1 hq.1.2 hq.2 hdd h1 h2 h3 h4 h5 h6 h7 hK
      · exact hK.elim
    · exact hK.elim
  next x x' =>
    obtain ⟨d, hdd, hlt⟩ := okDst_some hd
    simp only [stepQ, bindP, hdd] at hs
    obtain ⟨p, h1, hK⟩ := hs
    split at hK
    · exact good_nilck h hop hq hdd hlt h1 (.inl ⟨_, _, _, rfl⟩) hK
    · exact good_nilck h hop hq hdd hlt h1 (.inr ⟨_, _, rfl⟩) hK
    · exact hK.elim
  next zs t =>
    obtain ⟨d, hdd, hlt⟩ := okDst_some hd
    simp only [stepQ, hdd] at hs
    exact good_alloc hN h hop hq hdd hlt hs
  next x t x' =>
    obtain ⟨d, hdd, hlt⟩ := okDst_some hd
    simp only [stepQ, bindP, hdd] at hs
    obtain ⟨v, h1, z, h2, h3, hK⟩ := hs
    exact good_box hN h hop hq hdd hlt h1 h2 h3 hK
  next zs ps t ps' =>
    obtain ⟨d, hdd, hlt⟩ := okDst_some hd
    simp only [stepQ, bindP, hdd] at hs
    simp only [Bool.and_eq_true] at hq
    obtain ⟨vps, h1, vs, h2, hK⟩ := hs
    obtain ⟨hz, hu⟩ := hq
    split at hu
    · rename_i fs hu'
      simp only [Bool.and_eq_true] at hu
      exact good_build h hop hz hu' hu.1 hu.2 hdd hlt h1 h2 hK
    · rename_i el hu'
      obtain ⟨sz, hsz, hp⟩ := Option.any_eq_true _ _ |>.mp hu
      exact good_buildA h hop hz hu' hsz hp hdd hlt h1 h2 hK
    · cases hu
  next z n t l c =>
    obtain ⟨d, hdd, hlt⟩ := okDst_some hd
    simp only [stepQ, bindP, hdd] at hs
    simp only [Bool.and_eq_true, Option.any_eq_true, beq_iff_eq, decide_eq_true_eq] at hq
    obtain ⟨k, h1, ⟨h2, h3⟩, hK⟩ := hs
    obtain ⟨⟨⟨el, hel, ⟨hsz, hz⟩, b, hb, hb2⟩, hl⟩, hc⟩ := hq
    exact good_mks hN h hop hel hsz (by rw [Option.any_eq_true]; exact hz) hb hb2 hl hc hdd hlt h1 h2 h3 hK
  next ps t n ps' =>
    obtain ⟨d, hdd, hlt⟩ := okDst_some hd
    simp only [stepQ, bindP, hdd] at hs
    simp only [Bool.and_eq_true, Option.any_eq_true, beq_iff_eq, decide_eq_true_eq] at hq
    obtain ⟨vs, h1, y, h2, h3, hK⟩ := hs
    obtain ⟨⟨⟨⟨el, hel, hsz, hz⟩, hn⟩, hr⟩, hps⟩ := hq
    exact good_bsl hN h hop hel hsz (by rw [Option.any_eq_true]; obtain ⟨z, hz1, hz2⟩ := hz; exact ⟨z, hz1, by simpa using hz2⟩) hn hr hps hdd hlt h1 h2 h3 hK
  next mv sz x y as ts =>
    obtain ⟨d, hdd, hlt⟩ := okDst_some hd
    simp only [stepQ, bindP, hdd] at hs
    split at hq
    · rename_i x' y' t u has hts
      simp only [Bool.and_eq_true, Option.any_eq_true, beq_iff_eq, decide_eq_true_eq] at hq
      obtain ⟨p, h1, q, h2, z, h3, u', h4, ⟨h5, h6⟩, hK⟩ := hs
      obtain ⟨⟨⟨⟨⟨el, hel, ⟨hsz, hz⟩, b, hb, hb2⟩, hpos⟩, hu⟩, hx⟩, hy⟩ := hq
      refine good_app hN h (by rw [hop, arr1 has, arr1 hts]) hel hsz (by rw [Option.any_eq_true]; obtain ⟨z, hz1, hz2⟩ := hz; exact ⟨z, hz1, by simpa using hz2⟩) hb hb2 hpos hu hx hy hdd hlt h1 h2 h3 h4 h5 h6 (fun hz he => ?_) (fun hz he => ?_) (fun ts hz => ?_)
      · rw [hz] at hK; exact hK.1 he
      · rw [hz] at hK; exact hK.2 he
      · rw [hz] at hK; exact hK
    · cases hq
  next sz x lo hi t x' lo' hi' =>
    obtain ⟨d, hdd, hlt⟩ := okDst_some hd
    simp only [stepQ, bindP, hdd] at hs
    simp only [Bool.and_eq_true, Option.any_eq_true, beq_iff_eq, decide_eq_true_eq] at hq
    obtain ⟨p, h1, l, h2, hh, h3, v, h4, hK⟩ := hs
    obtain ⟨⟨⟨⟨⟨el, hel, hsz⟩, hpos⟩, hx⟩, hlo⟩, hhi⟩ := hq
    exact good_sl h hop hel hsz hpos hx hlo hhi hdd hlt h1 h2 h3 h4 hK
  next x i x' i' =>
    obtain ⟨d, hdd, hlt⟩ := okDst_some hd
    simp only [stepQ, bindP, hdd] at hs
    simp only [Bool.and_eq_true, beq_iff_eq] at hq
    obtain ⟨p, h1, v, h2, hK⟩ := hs
    obtain ⟨rfl, hx⟩ := hq
    exact good_ext h hop hx hdd hlt h1 h2 hK
  next f caps g first caps' =>
    obtain ⟨d, hdd, hlt⟩ := okDst_some hd
    simp only [stepQ, bindP, hdd] at hs
    simp only [Bool.and_eq_true, beq_iff_eq, List.isEmpty_iff] at hq
    obtain ⟨y, h1, hK⟩ := hs
    exact good_fnc hN hm hm2 h (by rw [hop, arr1 hq.2]) hq.1.1 hq.1.2 hdd hlt h1 hK
  next f x g first caps' =>
    obtain ⟨d, hdd, hlt⟩ := okDst_some hd
    simp only [stepQ, bindP, hdd] at hs
    simp only [Bool.and_eq_true, beq_iff_eq, List.isEmpty_iff] at hq
    obtain ⟨v, h1, r, h2, hK⟩ := hs
    exact good_fncl h (by rw [hop, arr1 hq.2]) hq.1.1 hq.1.2 hdd hlt h1 h2 hK
  next f args f' args' ats =>
    simp only [okDst] at hd
    simp only [stepQ, bindP] at hs
    simp only [Bool.and_eq_true] at hq
    obtain ⟨fv, h1, hK⟩ := hs
    split at hK
    · obtain ⟨ts, h2, ts', r, h3, h4, h5, e', h6, hK⟩ := hK
      exact good_call (fun f args args' r _ hg => hG f args args' r hg) hN h hop hq.1.1 hq.1.2 hq.2 (fun d hdd => by rw [hdd] at hd; simpa using hd) h1 h2 h3 (fun hl => (h5 hl).1) h6 hK
    · exact hK.elim
  next f args ks f' args' ats =>
    simp only [okDst] at hd
    simp only [stepQ, bindP] at hs
    simp only [Bool.and_eq_true] at hq
    obtain ⟨fv, h1, hK⟩ := hs
    split at hK
    · obtain ⟨vs, h2, h3, y, h4, h5, ts', r, h6, h7, e2, h8, e3, h9, hK⟩ := hK
      exact good_callm hG hN h hop hq.1 hq.2 (fun d hdd => by rw [hdd] at hd; simpa using hd) h1 h2 h3 h4 h5 h6 h7 h8 h9 hK
    · exact hK.elim
  next s t x' =>
    obtain ⟨d, hdd, hlt⟩ := okDst_some hd
    simp only [stepQ, bindP, hdd] at hs
    obtain ⟨v, h1, hK⟩ := hs
    split at hK
    · rename_i ts d' hd'
      cases hd'
      obtain ⟨⟨h2, h3⟩, hK⟩ := hK
      exact good_boxk hN h hop hq hdd hlt h1 h2 h3 hK
    · exact hK.elim
  next x s t n ps' =>
    obtain ⟨d, hdd, hlt⟩ := okDst_some hd
    simp only [stepQ, bindP, hdd] at hs
    simp only [Bool.and_eq_true, Option.any_eq_true, beq_iff_eq, decide_eq_true_eq] at hq
    obtain ⟨⟨⟨⟨el, hel, hsz, hz⟩, hn⟩, hr⟩, hps⟩ := hq
    obtain ⟨v, h1, u, h2, hK⟩ := hs
    split at hK
    · rename_i r l rs d' hd'
      cases hd'
      obtain ⟨⟨h3, h4, h5⟩, hK⟩ := hK
      subst h3
      subst h4
      exact good_bslk hN h hop hel hsz (by rw [Option.any_eq_true]; obtain ⟨z, hz1, hz2⟩ := hz; exact ⟨z, hz1, by simpa using hz2⟩) hn hr hps hdd hlt h1 h2 h5 hK
    · exact hK.elim
  next x y s as ts =>
    obtain ⟨d, hdd, hlt⟩ := okDst_some hd
    split at hq
    · rename_i x' y' t u has hts
      simp only [stepQ, bindP, hdd] at hs
      simp only [Bool.and_eq_true, Option.any_eq_true, beq_iff_eq, decide_eq_true_eq] at hq
      obtain ⟨p, h1, q, h2, z, h3, u', h4, v, h5, hK⟩ := hs
      split at hK
      · rename_i yy yy' l rs d' hu' hd'
        cases hd'
        obtain ⟨⟨k1, k2, k3, k4⟩, hK⟩ := hK
        subst k1
        subst k2
        obtain ⟨us, e1⟩ := u'
        simp only at hu' hK
        subst hu'
        obtain ⟨⟨⟨⟨⟨el, hel, ⟨hsz, hz⟩, b, hb, hb2⟩, _⟩, hu⟩, hx⟩, hy⟩ := hq
        exact good_appk hN h (by rw [hop, arr1 has, arr1 hts]) hel hsz (by rw [Option.any_eq_true]; obtain ⟨z, hz1, hz2⟩ := hz; exact ⟨z, hz1, by simpa using hz2⟩) hb hb2 hu hx hy hdd hlt h1 h2 h3 h4 h5 k3 k4 hK
      · exact hK.elim
    · cases hq
  next mx x y b as ts =>
    obtain ⟨d, hdd, hlt⟩ := okDst_some hd
    simp only [stepQ, bindP, hdd] at hs
    simp only [Bool.and_eq_true, beq_iff_eq] at hq
    obtain ⟨hb, hq⟩ := hq
    split at hq
    · rename_i x' y' has
      simp only [Bool.and_eq_true] at hq
      obtain ⟨p, h1, q, h2, v, h3, hK⟩ := hs
      exact good_mm h (by rw [hop, arr1 has]) hb hq.1 hq.2 hdd hlt h1 h2 h3 hK
    · cases hq
  next x as ts =>
    obtain ⟨d, hdd, hlt⟩ := okDst_some hd
    simp only [stepQ, bindP, hdd] at hs
    split at hq
    · rename_i x' t has hts
      simp only [Bool.and_eq_true] at hq
      obtain ⟨p, h1, v, h2, hK⟩ := hs
      exact good_cap0 h (by rw [hop, arr1 has, arr1 hts]) hq.1 hq.2 hdd hlt h1 h2 hK
    · cases hq
  next x s t x' =>
    obtain ⟨d, hdd, hlt⟩ := okDst_some hd
    simp only [stepQ, bindP, hdd] at hs
    simp only [Bool.and_eq_true, Option.any_eq_true] at hq
    obtain ⟨⟨el, hel, hm'⟩, hx⟩ := hq
    obtain ⟨p, h1, v, h2, hK⟩ := hs
    split at hm'
    · rename_i hu1 hu2
      exact good_bstr h hop (elOf_spec hel) hu1 hu2 hx hdd hlt h1 h2 hK
    · cases hm'
  next sz fr fo ps t n ps' =>
    obtain ⟨d, hdd, hlt⟩ := okDst_some hd
    simp only [stepQ, bindP, hdd] at hs
    simp only [Bool.and_eq_true, Option.any_eq_true, beq_iff_eq, decide_eq_true_eq] at hq
    obtain ⟨vs, h1, y, h2, h3, hK⟩ := hs
    obtain ⟨⟨⟨⟨⟨el, hel, hsz, hz⟩, hpos⟩, hn⟩, hr⟩, hps⟩ := hq
    exact good_bsls hN hm hm2 h hop hel hsz hpos (by rw [Option.any_eq_true]; obtain ⟨z, hz1, hz2⟩ := hz; exact ⟨z, hz1, by simpa using hz2⟩) hn hr hps hdd hlt h1 h2 h3 hK
  next sz ps t n ps' =>
    obtain ⟨d, hdd, hlt⟩ := okDst_some hd
    simp only [stepQ, bindP, hdd] at hs
    simp only [Bool.and_eq_true, Option.any_eq_true, beq_iff_eq, decide_eq_true_eq] at hq
    obtain ⟨vs, h1, ts, h2, hK⟩ := hs
    obtain ⟨⟨⟨⟨⟨el, hel, hsz, hz⟩, hpos⟩, hn⟩, hr⟩, hps⟩ := hq
    obtain ⟨us, c1, c2, c3⟩ := cells_spec e vs h2
    subst c3
    exact good_bsls (fr := false) (fo := false) hN hm hm2 h hop hel hsz hpos (by rw [Option.any_eq_true]; obtain ⟨z, hz1, hz2⟩ := hz; exact ⟨z, hz1, by simpa using hz2⟩) hn hr hps hdd hlt h1 c1 c2 hK
  next sz len x i t x' i' =>
    obtain ⟨d, hdd, hlt⟩ := okDst_some hd
    simp only [stepQ, bindP, hdd] at hs
    simp only [Bool.and_eq_true, decide_eq_true_eq] at hq
    obtain ⟨⟨⟨hu, hpos⟩, hx⟩, hi⟩ := hq
    obtain ⟨p, h1, n, h2, v, h3, hK⟩ := hs
    split at hu
    · rename_i len' el hu'
      simp only [Bool.and_eq_true, beq_iff_eq] at hu
      obtain ⟨⟨rfl, hsz⟩, hag⟩ := hu
      exact good_arr h hop hu' hsz hag hx hi hpos hdd hlt h1 h2 h3 hK
    · cases hu
  next off x t x' i' =>
    obtain ⟨d, hdd, hlt⟩ := okDst_some hd
    simp only [stepQ, bindP, hdd] at hs
    simp only [Bool.and_eq_true] at hq
    obtain ⟨hu, hx⟩ := hq
    obtain ⟨p, h1, v, h3, hK⟩ := hs
    split at hu
    · rename_i len el k i hu'
      simp only [Bool.and_eq_true, decide_eq_true_eq, Option.any_eq_true, beq_iff_eq] at hu
      obtain ⟨⟨h4, h5⟩, sz, hsz, rfl⟩ := hu
      exact good_fldA h hop hu' hsz h4 h5 hx hdd hlt h1 h3 hK
    · cases hu
  next t =>
    obtain ⟨d, hdd, hlt⟩ := okDst_some hd
    simp only [stepQ, hdd] at hs
    exact good_mkset hN h hop hdd hlt hs
  next s t n ps' =>
    obtain ⟨d, hdd, hlt⟩ := okDst_some hd
    simp only [stepQ, bindP, hdd] at hs
    simp only [Bool.and_eq_true, Option.any_eq_true, beq_iff_eq, decide_eq_true_eq] at hq
    obtain ⟨v, h1, h2⟩ := hs
    obtain ⟨⟨⟨⟨el, hel, hsz, hz⟩, hn⟩, hr⟩, hps⟩ := hq
    split at h2
    · rename_i k ts
      obtain ⟨⟨_, hk, hmul⟩, hK⟩ := h2
      have hpk : e.opds [.t s] = some [.sref s [] k 0 (ts.length / k)] := by simp [Env.opds, Env.opd, Env.peek, h1, T.peek]
      have htk : e.takeL [.sref s [] k 0 (ts.length / k)] = some ([.mem .own (some k) ts], e.del s) := by
        have htr : e.tree s [] = some (.mem .own (some k) ts) := by simp [Env.tree, h1, T.at]
        simp [Env.takeL, Env.take, htr, hk, hmul, win, Env.clear]
      exact good_bsl hN h hop hel hsz (by rw [Option.any_eq_true]; obtain ⟨z, hz1, hz2⟩ := hz; exact ⟨z, hz1, by simpa using hz2⟩) hn hr hps hdd hlt hpk htk rfl hK
    · exact h2.elim
  next z x n as ts =>
    obtain ⟨d, hdd, hlt⟩ := okDst_some hd
    simp only [stepQ, bindP, hdd] at hs
    split at hq
    · rename_i x' n' t u has hts
      simp only [Bool.and_eq_true] at hq
      obtain ⟨⟨⟨hu, he⟩, hx⟩, hn⟩ := hq
      simp only [Option.any_eq_true, Bool.and_eq_true, beq_iff_eq, decide_eq_true_eq] at he
      obtain ⟨el, hel, ⟨hsz, hz⟩, b, hb, hb2⟩ := he
      obtain ⟨v, h1, k, h2, h3⟩ := hs
      split at h3
      · obtain ⟨⟨h0, h4⟩, hK⟩ := h3
        split at hu
        · rename_i ku hku
          exact good_apz hN h (by rw [hop, arr1 has, arr1 hts]) hel hku hsz (by rw [Option.any_eq_true]; exact hz) hb hb2 hx hn hdd hlt h1 h2 h0 h4 hK
        · cases hu
      · exact h3.elim
    · cases hq
  next x k t x' k' =>
    obtain ⟨d, hdd, hlt⟩ := okDst_some hd
    simp only [stepQ, bindP, hdd] at hs
    simp only [Bool.and_eq_true] at hq
    obtain ⟨⟨ht, hx⟩, hk⟩ := hq
    obtain ⟨v, h1, s, h2, z, h3, hK⟩ := hs
    obtain ⟨kt, vt, hu, hkt, hz⟩ := okSet_spec ht
    exact good_look h hop hu hkt hz hx hk hdd hlt h1 h2 h3 hK
  next x k t m' k' v' =>
    have hdd : o.dst = none := by simpa [okDst] using hd
    simp only [stepQ, bindP] at hs
    simp only [Bool.and_eq_true] at hq
    obtain ⟨⟨⟨ht, hx⟩, hk⟩, hv⟩ := hq
    obtain ⟨v, h1, s, h2, z, h3, hK⟩ := hs
    obtain ⟨kt, vt, hu, hkt, hz⟩ := okSet_spec ht
    obtain rfl := okTrue hv
    exact good_upd h (.inl hop) hu hkt hx hk hdd h1 h2 h3 hK
  next x k t m' k' v' =>
    have hdd : o.dst = none := by simpa [okDst] using hd
    simp only [stepQ, bindP] at hs
    simp only [Bool.and_eq_true] at hq
    obtain ⟨⟨⟨ht, hx⟩, hk⟩, hv⟩ := hq
    obtain ⟨v, h1, s, h2, z, h3, hK⟩ := hs
    obtain ⟨kt, vt, hu, hkt, hz⟩ := okSet_spec ht
    obtain rfl := okTrue hv
    exact good_upd h (.inr hop) hu hkt hx hk hdd h1 h2 h3 hK
  next => cases hq

end
end Go.Mch
/- Rows of operations against the model's. -/
namespace Go.Mch

def okG (ops : Array Oper) : Option (Nat × Bool) → Option (Nat × Bool) → Bool
  | none, none => true
  | some (s, b), some (j, b') => ((ops[j]?).bind (·.dst)) == some s && b == b'
  | _, _ => false

def okO (P : Program) (fm : Nat → Nat) (nt : Nat) (ops : Array Oper) (o : O) (x : Oper) : Bool :=
  o.d == x.dst && okG ops o.g x.guard && okDst nt o.q x.dst && okQ P fm o.q x.op

/-- A row of operations, with freezes between. -/
def okOps (P : Program) (fm : Nat → Nat) (nt : Nat) (ops : Array Oper) : List O → List Oper → Bool
  | [], [] => true
  | ⟨d, g, .freeze _⟩ :: l, xs => d.isNone && g.isNone && okOps P fm nt ops l xs
  | ⟨d, g, .settle _⟩ :: l, xs => d.isNone && g.isNone && okOps P fm nt ops l xs
  | o :: l, x :: xs => okO P fm nt ops o x && okOps P fm nt ops l xs
  | _, _ => false

section
variable {P : Program} {cx : Cx} {nt : Nat} {Kt : Env → Prop} {a : Act} {w : World} {e : Env} {G : Rl} {m : K}

theorem Rel.putU (h : Rel cx nt e a w) {d : Option Nat} (hd : d.all (fun d => decide (d < nt)) = true) : Rel cx nt (e.setD d undefV) (a.put d undef) w := by
  cases d with
  | none => exact h
  | some d => exact h.put (by simpa using hd) ⟨rfl, rfl⟩

theorem okDst_all {q : Q} {d : Option Nat} (h : okDst nt q d = true) : d.all (fun d => decide (d < nt)) = true := by
  cases d with
  | none => rfl
  | some d =>
    unfold okDst at h
    split at h <;> simp_all

/-- An operation does what it should, or is passed over. -/
def Does (P : Program) (ops : Array Oper) (cx : Cx) (nt : Nat) (K : Env → Prop) (x : Oper) (a : Act) (w : World) : Prop :=
  if Region.wanted x (yielded ops a.tmps) then Good P cx nt K x a w else ∃ e', K e' ∧ Rel cx nt e' (a.put x.dst undef) w

theorem stepO_sound (hG : ∀ f args args' r, G f args args' r → Pact P cx.fm f args args' r) (hN : ∀ b, ¬ cx.N b) (hm : m ≠ .own) (hm2 : m = .fresh → ∀ b, ¬ cx.M b) {ops : Array Oper} (h : Rel cx nt e a w)
    {o : O} {x : Oper} (ho : okO P cx.fm nt ops o x = true) (hs : stepO G m o Kt e) : Does P ops cx nt Kt x a w := by
  simp only [okO, Bool.and_eq_true, beq_iff_eq] at ho
  obtain ⟨⟨⟨hd, hg⟩, hdst⟩, hq⟩ := ho
  obtain ⟨d, g, q⟩ := o
  simp only at hd hg hq hdst
  subst hd
  unfold Does
  unfold stepO at hs
  cases g with
  | none =>
    simp only at hs
    have hxg : x.guard = none := by
      cases hh : x.guard with
      | none => rfl
      | some y => rw [hh] at hg; simp [okG] at hg
    simp only [Region.wanted, hxg, if_true]
    exact stepQ_sound hG hN hm hm2 h hq hdst hs
  | some sb =>
    obtain ⟨s, b⟩ := sb
    simp only at hs
    cases hxg : x.guard with
    | none => rw [hxg] at hg; simp [okG] at hg
    | some jb =>
      obtain ⟨j, b'⟩ := jb
      rw [hxg] at hg
      simp only [okG, Bool.and_eq_true, beq_iff_eq] at hg
      obtain ⟨hj, rfl⟩ := hg
      have hval : ∀ t, e s = some (.val t) → s < nt ∧ Mch.rep cx.fm (okR cx (Own e (vlA a) w)) w (vlA a s) t := fun t ht => by
        refine ⟨?_, srep_val h.r ht⟩
        rcases Nat.lt_or_ge s nt with h' | h'
        · exact h'
        · rw [h.dom s h'] at ht; cases ht
      have hy : ∀ t, e s = some (.val t) → yielded ops a.tmps j = match vlA a s with | .bool b => some b | _ => none := fun t ht => by
        obtain ⟨hlt, _⟩ := hval t ht
        have hlt' : s < a.tmps.size := by rw [h.size]; exact hlt
        simp only [yielded, hj, Option.bind_some, vlA, Array.getD_eq_getD_getElem?, Array.getElem?_eq_getElem hlt', Option.getD_some]
        cases a.tmps[s] <;> rfl
      split at hs
      · rename_i b' hes
        obtain ⟨_, hr⟩ := hval _ hes
        have hv : vlA a s = .bool b' := hr.1
        simp only [Region.wanted, hxg, hy _ hes, hv]
        by_cases hb : b' = b
        · rw [if_pos hb] at hs
          rw [if_pos (by simp [hb])]
          exact stepQ_sound hG hN hm hm2 h hq hdst hs
        · rw [if_neg hb] at hs
          rw [if_neg (by simpa using hb)]
          exact ⟨_, hs, h.putU (okDst_all hdst)⟩
      · rename_i hes
        obtain ⟨_, hr⟩ := hval _ hes
        have hv : vlA a s = undef := hr
        have hu : (match vlA a s with | .bool b => some b | _ => none) = (none : Option Bool) := by rw [hv]; rfl
        simp only [Region.wanted, hxg, hy _ hes, hu]
        rw [if_neg (by simp)]
        exact ⟨_, hs, h.putU (okDst_all hdst)⟩
      · exact hs.elim

/-- These slots hold what they held. -/
def Fx (fx : List Nat) (f0 : Vl) (a : Act) : Prop := ∀ s, s ∈ fx → vlA a s = f0 s

def offO (fx : List Nat) (o : O) : Bool := o.d.all fun d => !fx.contains d

theorem wp_put {o : Oper} {K : Act → World → Prop} {Q : Exit → Act → World → Prop} (h : o.wp P a w K Q) : o.wp P a w (fun a' w' => K a' w' ∧ ∃ v ds, a' = ({ a with defers := ds }).put o.dst v) Q := by
  unfold Oper.wp at *
  generalize (execOp a.eval o).run P w = r at *
  cases r with
  | ok n w' =>
    cases n <;> simp only [Oper.upon] at h ⊢ <;>
      first
        | exact ⟨h, _, a.defers, rfl⟩
        | exact ⟨h, _, _, rfl⟩
        | exact Calls.mono h (fun e w'' he => by cases e <;> first | exact ⟨he, _, a.defers, rfl⟩ | exact he)
        | exact Rows.mono h (fun _ _ he => ⟨he, _, a.defers, rfl⟩)
  | halt x w' => cases x <;> simp only [Oper.upon] at h ⊢ <;> exact h

theorem Fx.put {fx : List Nat} {f0 : Vl} (h : Fx fx f0 a) {d : Option Nat} (hd : d.all (fun d => !fx.contains d) = true) (v : Value) (ds : List Deferred) : Fx fx f0 (({ a with defers := ds }).put d v) := by
  intro s hs
  rw [← h s hs]
  cases d with
  | none => rfl
  | some d =>
    have hne : s ≠ d := fun e' => by subst e'; simp [hs] at hd
    simp only [vlA, Act.put, Array.getD_eq_getD_getElem?]
    rw [Array.getElem?_setIfInBounds_ne (Ne.symm hne)]

theorem row_sound (hG : ∀ f args args' r, G f args args' r → Pact P cx.fm f args args' r) (hN : ∀ b, ¬ cx.N b) (hm : m ≠ .own) (hm2 : m = .fresh → ∀ b, ¬ cx.M b) {ops : Array Oper} {Q : Exit → Act → World → Prop} {fx : List Nat} {f0 : Vl}
    (hQ : ∀ e a w, Kt e → Rel cx nt e a w → Fx fx f0 a → Q .normal a w) : ∀ (l : List O) (xs : List Oper) (i : Nat) (e : Env) (a : Act) (w : World), okOps P cx.fm nt ops l xs = true → l.all (offO fx) = true → Fx fx f0 a → (∀ j, j < xs.length → ops[i + j]? = xs[j]?) →
      Rel cx nt e a w → wpL G m l Kt e → wpOps P ops Q (List.range' i xs.length) a w
  | [], [], i, e, a, w, _, _, hf, _, h, hw => hQ e a w hw h hf
  | [], _ :: _, _, _, _, _, ho, _, _, _, _, _ => by simp [okOps] at ho
  | ⟨d, g, q⟩ :: l, xs, i, e, a, w, ho, hof, hf, hx, h, hw => by
    simp only [List.all_cons, Bool.and_eq_true] at hof
    by_cases hfr : ∃ s, q = .freeze s
    · obtain ⟨s, rfl⟩ := hfr
      simp only [okOps, Bool.and_eq_true, Option.isNone_iff_eq_none] at ho
      obtain ⟨⟨rfl, rfl⟩, ho⟩ := ho
      simp only [wpL, stepO, stepQ, bindP] at hw
      obtain ⟨e', h1, h2⟩ := hw
      exact row_sound hG hN hm hm2 hQ l xs i e' a w ho (by simpa using hof.2) hf hx (h.freeze hN hm hm2 h1) h2
    by_cases hfr2 : ∃ s, q = .settle s
    · obtain ⟨s, rfl⟩ := hfr2
      simp only [okOps, Bool.and_eq_true, Option.isNone_iff_eq_none] at ho
      obtain ⟨⟨rfl, rfl⟩, ho⟩ := ho
      simp only [wpL, stepO, stepQ, bindP] at hw
      obtain ⟨e', h1, h2⟩ := hw
      exact row_sound hG hN hm hm2 hQ l xs i e' a w ho (by simpa using hof.2) hf hx (h.settle h1) h2
    · cases xs with
      | nil => cases q <;> first | (simp [okOps] at ho; done) | exact (hfr ⟨_, rfl⟩).elim | exact (hfr2 ⟨_, rfl⟩).elim
      | cons x xs =>
        have ho' : okO P cx.fm nt ops ⟨d, g, q⟩ x = true ∧ okOps P cx.fm nt ops l xs = true := by
          cases q <;> first | (simp only [okOps, Bool.and_eq_true] at ho; exact ho) | exact (hfr ⟨_, rfl⟩).elim | exact (hfr2 ⟨_, rfl⟩).elim
        have hstep := stepO_sound hG hN hm hm2 h ho'.1 hw
        have hi : ops[i]? = some x := by have := hx 0 (by simp); simpa using this
        have hdx : x.dst.all (fun d => !fx.contains d) = true := by
          have h1 := ho'.1
          simp only [okO, Bool.and_eq_true, beq_iff_eq] at h1
          rw [← h1.1.1.1]
          exact hof.1
        have hrec : ∀ e a w, wpL G m l Kt e → Rel cx nt e a w → Fx fx f0 a → wpOps P ops Q (List.range' (i + 1) xs.length) a w := fun e a w he hr hf =>
          row_sound hG hN hm hm2 hQ l xs (i + 1) e a w ho'.2 (by simpa using hof.2) hf (fun j hj => by
            have := hx (j + 1) (by simpa using hj)
            rw [show i + 1 + j = i + (j + 1) from by omega, this]
            rfl) hr he
        simp only [List.length_cons, List.range'_succ, wpOps, hi]
        unfold Does at hstep
        split
        · rename_i hwt
          rw [if_pos hwt] at hstep
          exact .inl (Oper.wp_mono (fun a' w' ⟨⟨e', h1, h2⟩, v, ds, h3⟩ => hrec e' a' w' h1 h2 (h3 ▸ hf.put hdx v ds)) (wp_put (hstep Q)))
        · rename_i hwt
          rw [if_neg hwt] at hstep
          obtain ⟨e', h1, h2⟩ := hstep
          exact hrec e' _ w h1 h2 (hf.put hdx undef a.defers)

end
end Go.Mch
/- Operations that only read and make one value: what they do does not hang on their order. -/
namespace Go.Mch

def Q.simple : Q → Bool
  | .mv _ | .mvw _ | .pick .. | .bin .. | .beq .. | .isnil .. | .un .. | .conv .. | .len _ | .slen _ | .idx .. | .at .. | .fld .. | .fldv .. | .ld .. | .nilck _ | .alloc _ | .build .. | .mks .. | .bslv .. | .sl .. | .ext .. | .mm .. => true
  | .call _ args => args.all (fun x => x.2 == .r)
  | _ => false

theorem binV_sc {op : BinOp} {x y v : V} (h : binV op x y = some v) : (∃ z, v = .val (.sc z)) ∧ (∃ a, x = .val (.sc a)) ∧ ∃ b, y = .val (.sc b) := by
  unfold binV at h
  split at h
  · split at h
    · rw [Option.map_eq_some_iff] at h; obtain ⟨z, _, rfl⟩ := h; exact ⟨⟨z, rfl⟩, ⟨_, rfl⟩, ⟨_, rfl⟩⟩
    · rw [Option.map_eq_some_iff] at h; obtain ⟨z, _, rfl⟩ := h; exact ⟨⟨z, rfl⟩, ⟨_, rfl⟩, ⟨_, rfl⟩⟩
  · cases h
/-- The value that a simple operation makes. -/
def Q.val (G : Rl) (q : Q) (e : Env) (v : V) : Prop :=
  match q with
  | .mv x => e.opd x = some v
  | .mvw x => e.opd x = some v ∧ v.rootly = true
  | .pick c a b => ∃ t, (e.opd c).bind asB = some t ∧ e.opd (if t then a else b) = some v
  | .bin op x y => ∃ a, e.opd x = some a ∧ ∃ b, e.opd y = some b ∧ binV op a b = some v
  | .beq neg x y => ∃ a, (e.opd x).bind asB = some a ∧ ∃ b, (e.opd y).bind asB = some b ∧ v = .val (.sc (.bool ((a == b) != neg)))
  | .isnil neg x => ∃ b, (e.opd x).bind V.isNil = some b ∧ v = .val (.sc (.bool (b != neg)))
  | .un op x => ∃ a, e.opd x = some a ∧ unV op a = some v
  | .conv k x => ∃ n, (e.opd x).bind asI = some n ∧ v = .val (.sc (.int k (k.wrap n)))
  | .len x => ∃ n, (e.opd x).bind lenV = some n ∧ v = .val (.sc (.int .i64 n))
  | .slen x => ∃ n, (e.opd x).bind slenV = some n ∧ v = .val (.sc (.int .i64 n))
  | .idx sz x i => ∃ a, e.opd x = some a ∧ ∃ n, (e.opd i).bind asI = some n ∧ idxV sz a n = some v
  | .at x i => ∃ a, e.opd x = some a ∧ ∃ n, (e.opd i).bind asI = some n ∧ (match a with
      | .val (.sc (.string s)) => ∃ b, (if 0 ≤ n then s[n.toNat]? else none) = some b ∧ v = .val (.sc (.int .u8 b.toNat))
      | _ => False)
  | .fld off x => ∃ a, e.opd x = some a ∧ e.fld off a = some v
  | .fldv off n x => ∃ a, e.opd x = some a ∧ fldvV off n a = some v
  | .ld n a => ∃ p, e.opd a = some p ∧ e.ld n p = some v
  | .nilck x => ∃ a, e.opd x = some a ∧ v = a ∧ (match a with
      | .pref .. => True
      | .val (.mem _ none _) => True
      | _ => False)
  | .alloc zs => v = .val (.mem .own none (zs.map .sc))
  | .build zs parts => ∃ ps, e.parts parts = some ps ∧ ∃ vs, fillV (zs.map fun z => .val (.sc z)) ps = some vs ∧ v = .vagg vs
  | .mks z n => ∃ k, (e.opd n).bind asI = some k ∧ (0 ≤ k ∧ k ≤ (roomy : Int)) ∧ v = .val (.mem .own (some 1) (List.replicate k.toNat (.sc z)))
  | .sl sz x lo hi => ∃ a, e.opd x = some a ∧ ∃ l, e.optI lo = some l ∧ ∃ h, e.optI hi = some h ∧ slV sz a l h = some v
  | .ext x i => ∃ a, e.opd x = some a ∧ extV i a = some v
  | .bslv sz ps => ∃ vs, e.opds ps = some vs ∧ ∃ ts, V.cells sz vs = some ts ∧ v = .val (.mem .own (some sz) ts)
  | .mm mx x y => ∃ a, e.opd x = some a ∧ ∃ b, e.opd y = some b ∧ mmV mx a b = some v
  | .call f args => ∃ id caps, e.opd f = some (.val (.fn id caps)) ∧ ∃ ts, e.args args = some ts ∧ ∃ ts' r, G id (ts ++ T.eryL .old caps) (ts' ++ T.eryL .old caps) r ∧ ts'.length = ts.length ∧ (e.lends args = true → r.noOld = true ∧ args.all (fun x => x.2 == .r) = true) ∧ v = .val r ∧ args.length = ts'.length
  | _ => False

theorem back_r' : ∀ (xs : List (Opd × Mode)) (ts : List T) {e : Env}, xs.all (fun x => x.2 == .r) = true → xs.length = ts.length → e.back xs ts = some e
  | [], [], _, _, _ => rfl
  | (x, md) :: xs, t :: ts, e, hm, h => by
    simp only [List.all_cons, Bool.and_eq_true, beq_iff_eq] at hm
    obtain ⟨rfl, hm⟩ := hm
    simp only [Env.back]
    exact back_r' xs ts (by simpa using hm) (by simpa using h)
  | [], _ :: _, _, _, h => by simp at h
  | _ :: _, [], _, _, h => by simp at h

theorem back_len : ∀ (xs : List (Opd × Mode)) (ts : List T) {e e' : Env}, e.back xs ts = some e' → xs.all (fun x => x.2 == .r) = true → xs.length = ts.length
  | [], [], _, _, _, _ => rfl
  | (x, md) :: xs, t :: ts, e, e', h, hm => by
    simp only [List.all_cons, Bool.and_eq_true, beq_iff_eq] at hm
    obtain ⟨rfl, hm⟩ := hm
    simp only [Env.back] at h
    simp [back_len xs ts h (by simpa using hm)]
  | [], _ :: _, _, _, h, _ => by simp [Env.back] at h
  | (_, .r) :: _, [], _, _, h, _ => by simp [Env.back] at h
  | (_, .w) :: _, [], _, _, h, _ => by simp [Env.back] at h
  | (_, .m) :: _, [], _, _, h, _ => by simp [Env.back] at h

theorem step_val {G : Rl} {m : K} {d : Option Nat} {q : Q} {Kt : Env → Prop} {e : Env} (hq : q.simple = true) : stepQ G m d q Kt e ↔ ∃ v, q.val G e v ∧ Kt (e.setD d v) := by
  cases q <;> simp only [Q.simple] at hq <;> first | (cases hq; done) | skip
  case mv => exact Iff.rfl
  case mvw => exact ⟨fun ⟨v, h1, h2, h3⟩ => ⟨v, ⟨h1, h2⟩, h3⟩, fun ⟨v, ⟨h1, h2⟩, h3⟩ => ⟨v, h1, h2, h3⟩⟩
  case pick =>
    exact ⟨fun ⟨t, h1, v, h2, h3⟩ => ⟨v, ⟨t, h1, h2⟩, h3⟩, fun ⟨v, ⟨t, h1, h2⟩, h3⟩ => ⟨t, h1, v, h2, h3⟩⟩
  case bin => exact ⟨fun ⟨a, h1, b, h2, v, h3, h4⟩ => ⟨v, ⟨a, h1, b, h2, h3⟩, h4⟩, fun ⟨v, ⟨a, h1, b, h2, h3⟩, h4⟩ => ⟨a, h1, b, h2, v, h3, h4⟩⟩
  case beq => exact ⟨fun ⟨a, h1, b, h2, h3⟩ => ⟨_, ⟨a, h1, b, h2, rfl⟩, h3⟩, fun ⟨v, ⟨a, h1, b, h2, h3⟩, h4⟩ => ⟨a, h1, b, h2, by subst h3; exact h4⟩⟩
  case isnil => exact ⟨fun ⟨a, h1, h3⟩ => ⟨_, ⟨a, h1, rfl⟩, h3⟩, fun ⟨v, ⟨a, h1, h3⟩, h4⟩ => ⟨a, h1, by subst h3; exact h4⟩⟩
  case bslv => exact ⟨fun ⟨a, h1, b, h2, h3⟩ => ⟨_, ⟨a, h1, b, h2, rfl⟩, h3⟩, fun ⟨v, ⟨a, h1, b, h2, h3⟩, h4⟩ => ⟨a, h1, b, h2, by subst h3; exact h4⟩⟩
  case mm => exact ⟨fun ⟨a, h1, b, h2, v, h3, h4⟩ => ⟨v, ⟨a, h1, b, h2, h3⟩, h4⟩, fun ⟨v, ⟨a, h1, b, h2, h3⟩, h4⟩ => ⟨a, h1, b, h2, v, h3, h4⟩⟩
  case un => exact ⟨fun ⟨a, h1, v, h3, h4⟩ => ⟨v, ⟨a, h1, h3⟩, h4⟩, fun ⟨v, ⟨a, h1, h3⟩, h4⟩ => ⟨a, h1, v, h3, h4⟩⟩
  case conv => exact ⟨fun ⟨a, h1, h3⟩ => ⟨_, ⟨a, h1, rfl⟩, h3⟩, fun ⟨v, ⟨a, h1, h3⟩, h4⟩ => ⟨a, h1, by subst h3; exact h4⟩⟩
  case len => exact ⟨fun ⟨a, h1, h3⟩ => ⟨_, ⟨a, h1, rfl⟩, h3⟩, fun ⟨v, ⟨a, h1, h3⟩, h4⟩ => ⟨a, h1, by subst h3; exact h4⟩⟩
  case slen => exact ⟨fun ⟨a, h1, h3⟩ => ⟨_, ⟨a, h1, rfl⟩, h3⟩, fun ⟨v, ⟨a, h1, h3⟩, h4⟩ => ⟨a, h1, by subst h3; exact h4⟩⟩
  case idx => exact ⟨fun ⟨a, h1, b, h2, v, h3, h4⟩ => ⟨v, ⟨a, h1, b, h2, h3⟩, h4⟩, fun ⟨v, ⟨a, h1, b, h2, h3⟩, h4⟩ => ⟨a, h1, b, h2, v, h3, h4⟩⟩
  case fld => exact ⟨fun ⟨a, h1, v, h3, h4⟩ => ⟨v, ⟨a, h1, h3⟩, h4⟩, fun ⟨v, ⟨a, h1, h3⟩, h4⟩ => ⟨a, h1, v, h3, h4⟩⟩
  case fldv => exact ⟨fun ⟨a, h1, v, h3, h4⟩ => ⟨v, ⟨a, h1, h3⟩, h4⟩, fun ⟨v, ⟨a, h1, h3⟩, h4⟩ => ⟨a, h1, v, h3, h4⟩⟩
  case ld => exact ⟨fun ⟨a, h1, v, h3, h4⟩ => ⟨v, ⟨a, h1, h3⟩, h4⟩, fun ⟨v, ⟨a, h1, h3⟩, h4⟩ => ⟨a, h1, v, h3, h4⟩⟩
  case nilck =>
    constructor
    · rintro ⟨a, h1, h3⟩
      split at h3
      · exact ⟨_, ⟨_, h1, rfl, trivial⟩, h3⟩
      · exact ⟨_, ⟨_, h1, rfl, trivial⟩, h3⟩
      · exact h3.elim
    · rintro ⟨v, ⟨a, h1, rfl, h3⟩, h4⟩
      refine ⟨v, h1, ?_⟩
      split at h3
      · exact h4
      · exact h4
      · exact h3.elim
  case alloc => exact ⟨fun h => ⟨_, rfl, h⟩, fun ⟨v, h1, h2⟩ => by subst h1; exact h2⟩
  case build => exact ⟨fun ⟨a, h1, b, h2, h3⟩ => ⟨_, ⟨a, h1, b, h2, rfl⟩, h3⟩, fun ⟨v, ⟨a, h1, b, h2, h3⟩, h4⟩ => ⟨a, h1, b, h2, by subst h3; exact h4⟩⟩
  case mks => exact ⟨fun ⟨a, h1, h2, h3⟩ => ⟨_, ⟨a, h1, h2, rfl⟩, h3⟩, fun ⟨v, ⟨a, h1, h2, h3⟩, h4⟩ => ⟨a, h1, h2, by subst h3; exact h4⟩⟩
  case sl => exact ⟨fun ⟨a, h1, b, h2, c, h3, v, h4, h5⟩ => ⟨v, ⟨a, h1, b, h2, c, h3, h4⟩, h5⟩, fun ⟨v, ⟨a, h1, b, h2, c, h3, h4⟩, h5⟩ => ⟨a, h1, b, h2, c, h3, v, h4, h5⟩⟩
  case ext => exact ⟨fun ⟨a, h1, v, h3, h4⟩ => ⟨v, ⟨a, h1, h3⟩, h4⟩, fun ⟨v, ⟨a, h1, h3⟩, h4⟩ => ⟨a, h1, v, h3, h4⟩⟩
  case call f args =>
    constructor
    · rintro ⟨fv, h1, h2⟩
      split at h2
      · obtain ⟨ts, h3, ts', r, h4, h5, h6, e', h7, h8⟩ := h2
        have := back_r args ts' hq h7
        subst this
        exact ⟨_, ⟨_, _, h1, ts, h3, ts', r, h4, h5, h6, rfl, back_len args ts' h7 hq⟩, h8⟩
      · exact h2.elim
    · rintro ⟨v, ⟨id, caps, h1, ts, h3, ts', r, h4, h5, h6, rfl, h7⟩, h8⟩
      exact ⟨_, h1, ts, h3, ts', r, h4, h5, h6, e, back_r' args ts' hq h7, h8⟩
  constructor
  · rintro ⟨a, h1, n, h2, h3⟩
    split at h3
    · obtain ⟨b, h4, h5⟩ := h3
      exact ⟨_, ⟨_, h1, n, h2, b, h4, rfl⟩, h5⟩
    · exact h3.elim
  · rintro ⟨v, ⟨a, h1, n, h2, h3⟩, h4⟩
    refine ⟨a, h1, n, h2, ?_⟩
    split at h3
    · obtain ⟨b, h5, rfl⟩ := h3
      exact ⟨b, h5, h4⟩
    · exact h3.elim

/-! ### What is not read may turn -/

/-- Slot d is not there, or new: nobody else names it. -/
def Off (e e' : Env) (d : Nat) : Prop := (∀ s, s ≠ d → e' s = e s) ∧ ∀ s x, s ≠ d → e s = some x → x.hits d [] = false

theorem Off.symm {e e' : Env} {d : Nat} (h : Off e e' d) : Off e' e d := ⟨fun s hs => (h.1 s hs).symm, fun s x hs hx => h.2 s x hs (by rw [← h.1 s hs]; exact hx)⟩

mutual
theorem peek_hits {s d : Nat} (hs : s ≠ d) : ∀ (t : T) (p : List Nat), (t.peek s p).hits d [] = false
  | .sc _, _ => rfl
  | .gone, _ => rfl
  | .nul, _ => rfl
  | .fn _ _, _ => rfl
  | .agg ts, p => by simp only [T.peek, V.hits]; exact peekL_hits hs ts p 0
  | .tup ts, p => by simp only [T.peek, V.hits]; exact peekL_hits hs ts p 0
  | .mem k s' ts, p => by
    cases k <;> cases s' <;> simp [T.peek, Ne.symm hs]
  | .set ks, p => by
    simp only [T.peek]
    split
    · simp only [V.hits, beq_eq_false_iff_ne.2 (Ne.symm hs), Bool.false_and]
    · rfl
theorem peekL_hits {s d : Nat} (hs : s ≠ d) : ∀ (ts : List T) (p : List Nat) (i : Nat), V.hitsL d [] (T.peekL s p i ts) = false
  | [], _, _ => rfl
  | t :: ts, p, i => by simp only [T.peekL, V.hitsL, peek_hits hs t, peekL_hits hs ts, Bool.or_self]
end

def Opd.is (d : Nat) : Opd → Bool
  | .t n => n == d
  | _ => false

theorem opd_off {e e' : Env} {d : Nat} (h : Off e e' d) {x : Opd} (hx : x.is d = false) : e'.opd x = e.opd x := by
  cases x with
  | t n =>
    have hn : n ≠ d := by simpa [Opd.is] using hx
    simp only [Env.opd, Env.peek, h.1 n hn]
  | _ => rfl

theorem opd_hits {e e' : Env} {d : Nat} (h : Off e e' d) {x : Opd} (hx : x.is d = false) {v : V} (hv : e.opd x = some v) : v.hits d [] = false := by
  cases x with
  | t n =>
    have hn : n ≠ d := by simpa [Opd.is] using hx
    simp only [Env.opd, Env.peek] at hv
    split at hv
    · cases hv; exact peek_hits hn _ _
    · exact h.2 n v hn hv
  | c v => simp only [Env.opd, Option.some.injEq] at hv; subst hv; rfl
  | f id => simp only [Env.opd, Option.some.injEq] at hv; subst hv; rfl

theorem tree_off {e e' : Env} {d : Nat} (h : Off e e' d) {r : Nat} {p : List Nat} (hr : r ≠ d) : e'.tree r p = e.tree r p := by
  simp only [Env.tree, h.1 r hr]

theorem hits_ne {r d : Nat} {p : List Nat} (h : (d == r && List.isPrefixOf [] p) = false) : r ≠ d := fun e => by subst e; simp at h

theorem fld_off {e e' : Env} {d : Nat} (h : Off e e' d) {off : Nat} {v : V} (hv : v.hits d [] = false) : e'.fld off v = e.fld off v := by
  cases v with
  | pref r p o =>
    have hr : r ≠ d := hits_ne hv
    simp only [Env.fld, tree_off h hr]
  | val t => cases t <;> try rfl
             rename_i k s ts; cases s <;> rfl
  | _ => rfl

theorem ld_off {e e' : Env} {d : Nat} (h : Off e e' d) {n : Option Nat} {v : V} (hv : v.hits d [] = false) : e'.ld n v = e.ld n v := by
  cases v with
  | pref r p o =>
    have hr : r ≠ d := hits_ne hv
    simp only [Env.ld, tree_off h hr]
  | val t => cases t <;> try rfl
             rename_i k s ts; cases s <;> rfl
  | _ => rfl

mutual
theorem res_off {e e' : Env} {d : Nat} (h : Off e e' d) : ∀ v : V, v.hits d [] = false → e'.res v = e.res v
  | .val _, _ => rfl
  | .sref r p _ _ _, hv => by
    have hr : r ≠ d := hits_ne hv
    simp only [Env.res, tree_off h hr]
  | .pref r p _, hv => by
    have hr : r ≠ d := hits_ne hv
    simp only [Env.res, tree_off h hr]
  | .vagg vs, hv => by
    simp only [V.hits] at hv
    simp only [Env.res, resL_off h vs hv]
  | .vtup vs, hv => by
    simp only [V.hits] at hv
    simp only [Env.res, resL_off h vs hv]
  | .same _, _ => rfl
  | .vfn f r, hv => by
    have hr : r ≠ d := fun e => by subst e; simp [V.hits] at hv
    simp only [Env.res, tree_off h hr]
theorem resL_off {e e' : Env} {d : Nat} (h : Off e e' d) : ∀ vs : List V, V.hitsL d [] vs = false → e'.resL vs = e.resL vs
  | [], _ => rfl
  | v :: vs, hv => by
    simp only [V.hitsL, Bool.or_eq_false_iff] at hv
    simp only [Env.resL, res_off h v hv.1, resL_off h vs hv.2]
end

theorem args_off {e e' : Env} {d : Nat} (h : Off e e' d) : ∀ xs : List (Opd × Mode), xs.all (fun x => !x.1.is d) = true → xs.all (fun x => x.2 == .r) = true → e'.args xs = e.args xs ∧ e'.lends xs = e.lends xs
  | [], _, _ => ⟨rfl, rfl⟩
  | (x, md) :: xs, h1, h2 => by
    simp only [List.all_cons, Bool.and_eq_true, beq_iff_eq, Bool.not_eq_true'] at h1 h2
    obtain ⟨rfl, h2⟩ := h2
    obtain ⟨r1, r2⟩ := args_off h xs (by simpa using h1.2) (by simpa using h2)
    have ho := opd_off h h1.1
    simp only [Env.args, Env.lends, ho, r1, r2]
    refine ⟨?_, trivial⟩
    cases hv : e.opd x with
    | none => rfl
    | some v => simp only [Option.bind_some, res_off h v (opd_hits h h1.1 hv)]

theorem parts_off {e e' : Env} {d : Nat} (h : Off e e' d) : ∀ xs : List (Nat × Nat × Opd), xs.all (fun x => !x.2.2.is d) = true → e'.parts xs = e.parts xs
  | [], _ => rfl
  | (i, n, x) :: xs, h1 => by
    simp only [List.all_cons, Bool.and_eq_true, Bool.not_eq_true'] at h1
    simp only [Env.parts, opd_off h h1.1, parts_off h xs (by simpa using h1.2)]

theorem opds_off {e e' : Env} {d : Nat} (h : Off e e' d) : ∀ xs : List Opd, xs.all (fun x => !x.is d) = true → e'.opds xs = e.opds xs
  | [], _ => rfl
  | x :: xs, h1 => by
    simp only [List.all_cons, Bool.and_eq_true, Bool.not_eq_true'] at h1
    simp only [Env.opds, opd_off h h1.1, opds_off h xs (by simpa using h1.2)]

def optIs (d : Nat) : Option Opd → Bool
  | none => false
  | some x => x.is d

theorem optI_off {e e' : Env} {d : Nat} (h : Off e e' d) {x : Option Opd} (hx : optIs d x = false) : e'.optI x = e.optI x := by
  cases x with
  | none => rfl
  | some x => simp only [Env.optI, opd_off h (x := x) hx]

/-- Does it read slot d? -/
def Q.reads (d : Nat) : Q → Bool
  | .mv x | .mvw x | .un _ x | .conv _ x | .len x | .slen x | .fld _ x | .fldv _ _ x | .ld _ x | .nilck x | .ext x _ | .isnil _ x | .mks _ x | .asg x | .box x => x.is d
  | .pick c a b => c.is d || a.is d || b.is d
  | .bin _ x y | .beq _ x y | .mm _ x y | .idx _ x y | .at x y | .st _ x y | .sts x y | .app _ _ x y => x.is d || y.is d
  | .stsw a x y => a.is d || x.is d || y == d
  | .sl _ x lo hi => x.is d || optIs d lo || optIs d hi
  | .build _ ps => !ps.all (fun x => !x.2.2.is d)
  | .call f args => f.is d || !args.all (fun x => !x.1.is d)
  | .bsl1 n => n == d
  | .bsls _ _ _ ps | .bslv _ ps => !ps.all (fun x => !x.is d)
  | .alloc _ => false
  | _ => true

theorem val_off {G : Rl} {e e' : Env} {d : Nat} (h : Off e e' d) {q : Q} (hq : q.simple = true) (hr : q.reads d = false) {v : V} (hv : q.val G e v) : q.val G e' v := by
  cases q <;> simp only [Q.simple] at hq <;> first | (cases hq; done) | skip
  case mv => simp only [Q.reads] at hr; simp only [Q.val] at hv ⊢; rw [opd_off h hr]; exact hv
  case mvw => simp only [Q.reads] at hr; simp only [Q.val] at hv ⊢; rw [opd_off h hr]; exact hv
  case pick c x y =>
    simp only [Q.reads, Bool.or_eq_false_iff] at hr
    simp only [Q.val] at hv ⊢
    obtain ⟨t, h1, h2⟩ := hv
    refine ⟨t, by rw [opd_off h hr.1.1]; exact h1, ?_⟩
    cases t
    · simp only [Bool.false_eq_true, if_false] at h2 ⊢; rw [opd_off h hr.2]; exact h2
    · simp only [if_true] at h2 ⊢; rw [opd_off h hr.1.2]; exact h2
  case bin => simp only [Q.reads, Bool.or_eq_false_iff] at hr; simp only [Q.val] at hv ⊢; rw [opd_off h hr.1, opd_off h hr.2]; exact hv
  case beq => simp only [Q.reads, Bool.or_eq_false_iff] at hr; simp only [Q.val] at hv ⊢; rw [opd_off h hr.1, opd_off h hr.2]; exact hv
  case bslv =>
    simp only [Q.reads, Bool.not_eq_false'] at hr
    simp only [Q.val] at hv ⊢
    rw [opds_off h _ hr]; exact hv
  case mm => simp only [Q.reads, Bool.or_eq_false_iff] at hr; simp only [Q.val] at hv ⊢; rw [opd_off h hr.1, opd_off h hr.2]; exact hv
  case isnil => simp only [Q.reads] at hr; simp only [Q.val] at hv ⊢; rw [opd_off h hr]; exact hv
  case un => simp only [Q.reads] at hr; simp only [Q.val] at hv ⊢; rw [opd_off h hr]; exact hv
  case conv => simp only [Q.reads] at hr; simp only [Q.val] at hv ⊢; rw [opd_off h hr]; exact hv
  case len => simp only [Q.reads] at hr; simp only [Q.val] at hv ⊢; rw [opd_off h hr]; exact hv
  case slen => simp only [Q.reads] at hr; simp only [Q.val] at hv ⊢; rw [opd_off h hr]; exact hv
  case idx => simp only [Q.reads, Bool.or_eq_false_iff] at hr; simp only [Q.val] at hv ⊢; rw [opd_off h hr.1, opd_off h hr.2]; exact hv
  case fld =>
    simp only [Q.reads] at hr
    simp only [Q.val] at hv ⊢
    rw [opd_off h hr]
    obtain ⟨a, h1, h2⟩ := hv
    exact ⟨a, h1, by rw [fld_off h (opd_hits h hr h1)]; exact h2⟩
  case fldv => simp only [Q.reads] at hr; simp only [Q.val] at hv ⊢; rw [opd_off h hr]; exact hv
  case ld =>
    simp only [Q.reads] at hr
    simp only [Q.val] at hv ⊢
    rw [opd_off h hr]
    obtain ⟨a, h1, h2⟩ := hv
    exact ⟨a, h1, by rw [ld_off h (opd_hits h hr h1)]; exact h2⟩
  case nilck => simp only [Q.reads] at hr; simp only [Q.val] at hv ⊢; rw [opd_off h hr]; exact hv
  case alloc => exact hv
  case build =>
    simp only [Q.reads, Bool.not_eq_false'] at hr
    simp only [Q.val] at hv ⊢
    rw [parts_off h _ hr]; exact hv
  case mks => simp only [Q.reads] at hr; simp only [Q.val] at hv ⊢; rw [opd_off h hr]; exact hv
  case sl =>
    simp only [Q.reads, Bool.or_eq_false_iff] at hr
    simp only [Q.val] at hv ⊢
    rw [opd_off h hr.1.1, optI_off h hr.1.2, optI_off h hr.2]; exact hv
  case ext => simp only [Q.reads] at hr; simp only [Q.val] at hv ⊢; rw [opd_off h hr]; exact hv
  case call f args =>
    simp only [Q.reads, Bool.or_eq_false_iff, Bool.not_eq_false'] at hr
    simp only [Q.val] at hv ⊢
    obtain ⟨h1, h2⟩ := args_off h args hr.2 hq
    rw [opd_off h hr.1, h1, h2]
    exact hv
  simp only [Q.reads, Bool.or_eq_false_iff] at hr; simp only [Q.val] at hv ⊢; rw [opd_off h hr.1, opd_off h hr.2]; exact hv

end Go.Mch
/- Regions that draw their order: what is not ordered commutes. -/
namespace Go.Mch

mutual
theorem peek_noOwn {s d : Nat} : ∀ (t : T) (p : List Nat), t.noOwn = true → (t.peek s p).hits d [] = false
  | .sc _, _, _ => rfl
  | .gone, _, _ => rfl
  | .nul, _, _ => rfl
  | .fn _ _, _, _ => rfl
  | .agg ts, p, h => by simp only [T.noOwn] at h; simp only [T.peek, V.hits]; exact peekL_noOwn ts p 0 h
  | .tup ts, p, h => by simp only [T.noOwn] at h; simp only [T.peek, V.hits]; exact peekL_noOwn ts p 0 h
  | .mem k s' ts, p, h => by
    cases k <;> cases s' <;> simp_all [T.peek, T.noOwn]
theorem peekL_noOwn {s d : Nat} : ∀ (ts : List T) (p : List Nat) (i : Nat), T.noOwnL ts = true → V.hitsL d [] (T.peekL s p i ts) = false
  | [], _, _, _ => rfl
  | t :: ts, p, i, h => by
    simp only [T.noOwnL, Bool.and_eq_true] at h
    simp only [T.peekL, V.hitsL, peek_noOwn t _ h.1, peekL_noOwn ts _ _ h.2, Bool.or_self]
end

/-- Slots that own nothing, and that nobody names. -/
def Fresh (D : Nat → Prop) (e : Env) : Prop := ∀ d, D d → (∀ z, e d = some z → ∃ t, z = .val t ∧ t.noOwn = true) ∧ ∀ s x, e s = some x → x.hits d [] = false

theorem Fresh.opd {D : Nat → Prop} {e : Env} (h : Fresh D e) {d : Nat} (hd : D d) {x : Opd} {v : V} (hv : e.opd x = some v) : v.hits d [] = false := by
  cases x with
  | t n =>
    simp only [Env.opd, Env.peek] at hv
    split at hv
    · rename_i t ht
      cases hv
      by_cases hn : n = d
      · subst hn
        obtain ⟨u, hu, hn⟩ := (h n hd).1 _ ht
        cases hu
        exact peek_noOwn _ _ hn
      · exact peek_hits hn _ _
    · exact (h d hd).2 n v hv
  | c v => simp only [Env.opd, Option.some.injEq] at hv; subst hv; rfl
  | f id => simp only [Env.opd, Option.some.injEq] at hv; subst hv; rfl

theorem Fresh.setD {D : Nat → Prop} {e : Env} (h : Fresh D e) {d : Option Nat} (hd : ∀ x, d = some x → ¬ D x) {v : V} (hv : ∀ d, D d → v.hits d [] = false) : Fresh D (e.setD d v) := by
  cases d with
  | none => exact h
  | some x =>
    intro d' hd'
    have hne : d' ≠ x := fun e' => hd x rfl (e' ▸ hd')
    obtain ⟨h1, h2⟩ := h d' hd'
    refine ⟨fun t ht => ?_, fun s y hy => ?_⟩
    · simp only [Env.setD, Env.put, if_neg hne, Env.kill] at ht
      cases hes : e d' with
      | none => rw [hes] at ht; cases ht
      | some z =>
        rw [hes] at ht
        simp only at ht
        split at ht
        · cases ht
        · cases ht; exact h1 _ hes
    simp only [Env.setD, Env.put] at hy
    split at hy
    · split at hy
      · cases hy
      · cases hy; exact hv d' hd'
    · simp only [Env.kill] at hy
      cases hes : e s with
      | none => rw [hes] at hy; cases hy
      | some z =>
        rw [hes] at hy
        simp only at hy
        split at hy
        · cases hy
        · cases hy; exact h2 s _ hes

theorem Fresh.of_some {D : Nat → Prop} {e e1 : Env} (h : Fresh D e) (h1 : ∀ s x, e1 s = some x → e s = some x ∨ ((∃ t, x = .val t) ∧ ∃ t, e s = some (.val t) ∧ t.noOwn = false)) : Fresh D e1 := by
  intro d hd
  obtain ⟨g1, g2⟩ := h d hd
  refine ⟨fun t ht => ?_, fun s x hx => ?_⟩
  · rcases h1 d _ ht with h2 | ⟨_, t', h2, h3⟩
    · exact g1 t h2
    · obtain ⟨u, hu, hn⟩ := g1 _ h2
      cases hu
      rw [hn] at h3; cases h3
  · rcases h1 s x hx with h2 | ⟨⟨t, rfl⟩, _⟩
    · exact g2 s x h2
    · rfl

theorem fillV_hits {d : Nat} : ∀ (ps : List (Nat × Nat × V)) (vs out : List V), fillV vs ps = some out → V.hitsL d [] vs = false → (∀ p, p ∈ ps → p.2.2.hits d [] = false) → V.hitsL d [] out = false
  | [], vs, out, h, h1, _ => by simp only [fillV, Option.some.injEq] at h; subst h; exact h1
  | (i, n, x) :: ps, vs, out, h, h1, h2 => by
    have hL : ∀ vs : List V, V.hitsL d [] vs = false ↔ ∀ v, v ∈ vs → v.hits d [] = false := by
      intro vs
      induction vs with
      | nil => simp [V.hitsL]
      | cons v vs ih => simp [V.hitsL, ih]
    have hx := h2 (i, n, x) (by simp)
    simp only at hx
    have hseg : ∀ us : List V, V.hitsL d [] us = false → V.hitsL d [] (vs.take i ++ us ++ vs.drop (i + n)) = false := by
      intro us hus
      rw [hL] at h1 hus ⊢
      intro v hv
      simp only [List.mem_append] at hv
      rcases hv with (hv | hv) | hv
      · exact h1 v (List.mem_of_mem_take hv)
      · exact hus v hv
      · exact h1 v (List.mem_of_mem_drop hv)
    have hrec : ∀ us : List V, V.hitsL d [] us = false → fillV (vs.take i ++ us ++ vs.drop (i + n)) ps = some out → V.hitsL d [] out = false := fun us hus hf =>
      fillV_hits ps _ out hf (hseg us hus) fun p hp => h2 p (by simp [hp])
    have one : fillV (vs.take i ++ [x] ++ vs.drop (i + n)) ps = some out → V.hitsL d [] out = false := hrec [x] (by simp [V.hitsL, hx])
    cases x with
    | vagg us =>
      simp only [fillV] at h
      split at h
      · exact hrec us (by simpa [V.hits] using hx) h
      · cases h
    | vtup us => simp [fillV] at h
    | same r => simp [fillV] at h
    | vfn f r => simp [fillV] at h
    | sref r p sz off len =>
      simp only [fillV] at h
      split at h
      · exact one h
      · cases h
    | pref r p off =>
      simp only [fillV] at h
      split at h
      · exact one h
      · cases h
    | val t =>
      cases t <;> simp only [fillV] at h <;> first | (cases h; done) | (split at h <;> first | exact one h | (cases h; done))

theorem parts_mem {e : Env} : ∀ (xs : List (Nat × Nat × Opd)) {ps : List (Nat × Nat × V)}, e.parts xs = some ps → ∀ p, p ∈ ps → ∃ x, e.opd x = some p.2.2
  | [], ps, h, p, hp => by simp only [Env.parts, Option.some.injEq] at h; subst h; simp at hp
  | (i, n, x) :: xs, ps, h, p, hp => by
    simp only [Env.parts] at h
    cases hx : e.opd x with
    | none => rw [hx] at h; cases h
    | some v =>
      rw [hx] at h
      simp only [Option.bind_some, Option.map_eq_some_iff] at h
      obtain ⟨ps', h1, rfl⟩ := h
      rcases List.mem_cons.1 hp with rfl | hp
      · exact ⟨x, hx⟩
      · exact parts_mem xs h1 p hp

theorem hitsL_mem {d : Nat} : ∀ {vs : List V} {v : V}, V.hitsL d [] vs = false → v ∈ vs → v.hits d [] = false
  | u :: vs, v, h, hv => by
    simp only [V.hitsL, Bool.or_eq_false_iff] at h
    rcases List.mem_cons.1 hv with rfl | hv
    · exact h.1
    · exact hitsL_mem h.2 hv

theorem hitsL_of {d : Nat} : ∀ {vs : List V}, (∀ v, v ∈ vs → v.hits d [] = false) → V.hitsL d [] vs = false
  | [], _ => rfl
  | v :: vs, h => by simp only [V.hitsL, h v (by simp), hitsL_of (vs := vs) fun v hv => h v (by simp [hv]), Bool.or_self]

/-- What a simple operation makes names nothing that is fresh. -/
theorem val_hits {G : Rl} {e : Env} {D : Nat → Prop} (h : Fresh D e) {d : Nat} (hd : D d) {q : Q} {v : V} (hv : q.val G e v) : v.hits d [] = false := by
  cases q <;> simp only [Q.val] at hv <;> try exact hv.elim
  case mv => exact h.opd hd hv
  case mvw => exact h.opd hd hv.1
  case pick => obtain ⟨t, _, h2⟩ := hv; exact h.opd hd h2
  case bin =>
    obtain ⟨a, _, b, _, h3⟩ := hv
    obtain ⟨⟨_, rfl⟩, _, _⟩ := binV_sc h3
    rfl
  case beq => obtain ⟨a, _, b, _, rfl⟩ := hv; rfl
  case isnil => obtain ⟨b, _, rfl⟩ := hv; rfl
  case un =>
    obtain ⟨a, _, h3⟩ := hv
    unfold unV at h3
    split at h3
    · split at h3
      · cases h3; rfl
      · cases h3
    · split at h3
      · rw [Option.map_eq_some_iff] at h3; obtain ⟨_, _, rfl⟩ := h3; rfl
      · cases h3
    · cases h3
  case conv => obtain ⟨b, _, rfl⟩ := hv; rfl
  case len => obtain ⟨b, _, rfl⟩ := hv; rfl
  case slen => obtain ⟨b, _, rfl⟩ := hv; rfl
  case idx =>
    obtain ⟨a, h1, n, _, h3⟩ := hv
    have h4 := h.opd hd h1
    unfold idxV at h3
    split at h3
    · split at h3
      · cases h3; rfl
      · cases h3
    · split at h3
      · cases h3; exact h4
      · cases h3
    · cases h3
  case fld =>
    obtain ⟨a, h1, h3⟩ := hv
    have h4 := h.opd hd h1
    unfold Env.fld at h3
    split at h3
    · split at h3
      · cases h3; rfl
      · cases h3
    · split at h3
      · split at h3
        · cases h3; exact h4
        · cases h3
      · cases h3
    · cases h3
  case fldv =>
    obtain ⟨a, h1, h3⟩ := hv
    have h4 := h.opd hd h1
    unfold fldvV at h3
    split at h3
    · simp only [V.hits] at h4
      split at h3
      · exact hitsL_mem h4 (List.mem_of_getElem? h3)
      · split at h3
        · cases h3
          simp only [V.hits]
          exact hitsL_of fun v hv => hitsL_mem h4 (List.mem_of_mem_drop (List.mem_of_mem_take hv))
        · cases h3
    · cases h3
  case ld =>
    obtain ⟨a, h1, h3⟩ := hv
    have h4 := h.opd hd h1
    unfold Env.ld at h3
    split at h3
    · split at h3
      · rw [Option.map_eq_some_iff] at h3; obtain ⟨_, _, rfl⟩ := h3; rfl
      · split at h3
        · cases h3
          simp only [V.hits]
          exact hitsL_of fun v hv => by obtain ⟨t, _, rfl⟩ := List.mem_map.1 hv; rfl
        · cases h3
    · have hr := hits_ne h4
      split at h3
      · split at h3
        · rw [Option.map_eq_some_iff] at h3; obtain ⟨_, _, rfl⟩ := h3; exact peek_hits hr _ _
        · split at h3
          · cases h3; simp only [V.hits]; exact peekL_hits hr _ _ _
          · cases h3
      · cases h3
    · cases h3
  case nilck => obtain ⟨a, h1, rfl, _⟩ := hv; exact h.opd hd h1
  case alloc => subst hv; rfl
  case build =>
    obtain ⟨ps, h1, vs, h2, rfl⟩ := hv
    simp only [V.hits]
    refine fillV_hits ps _ vs h2 (hitsL_of fun v hv => by obtain ⟨t, _, rfl⟩ := List.mem_map.1 hv; rfl) fun p hp => ?_
    obtain ⟨x, hx⟩ := parts_mem _ h1 p hp
    exact h.opd hd hx
  case mks => obtain ⟨k, _, _, rfl⟩ := hv; rfl
  case sl =>
    obtain ⟨a, h1, l, _, hh, _, h3⟩ := hv
    have h4 := h.opd hd h1
    unfold slV at h3
    split at h3
    · simp only at h3
      split at h3
      · cases h3; rfl
      · cases h3
    · simp only at h3
      split at h3
      · cases h3; exact h4
      · cases h3
    · split at h3
      · cases h3; rfl
      · cases h3
    · cases h3
  case bslv => obtain ⟨_, _, _, _, rfl⟩ := hv; rfl
  case mm =>
    obtain ⟨a, _, b, _, h3⟩ := hv
    unfold mmV at h3
    split at h3
    · split at h3
      · cases h3; rfl
      · cases h3
    · cases h3
  case ext =>
    obtain ⟨a, h1, h3⟩ := hv
    have h4 := h.opd hd h1
    unfold extV at h3
    split at h3
    · simp only [V.hits] at h4
      exact hitsL_mem h4 (List.mem_of_getElem? h3)
    · cases h3
  case call =>
    obtain ⟨_, _, _, _, _, _, _, _, _, _, rfl, _⟩ := hv
    rfl
  obtain ⟨a, h1, n, _, h3⟩ := hv
  split at h3
  · obtain ⟨b, _, rfl⟩ := h3; rfl
  · exact h3.elim

end Go.Mch
/- Regions that draw their order: every order does what the written one does. -/
namespace Go.Mch

/-- e1 has what e has; where e has own memory, perhaps another tree. -/
def Less (e e1 : Env) : Prop := ∀ s x, e1 s = some x → e s = some x ∨ ((∃ t, x = .val t) ∧ ∃ t, e s = some (.val t) ∧ t.noOwn = false)

theorem Less.refl (e : Env) : Less e e := fun _ _ h => .inl h
theorem Less.trans {e e1 e2 : Env} (h1 : Less e e1) (h2 : Less e1 e2) : Less e e2 := fun s x hx => by
  rcases h2 s x hx with h | ⟨ht, t, hy, hn⟩
  · exact h1 s x h
  · rcases h1 s _ hy with h | ⟨_, t', hz, hn'⟩
    · exact .inr ⟨ht, t, h, hn⟩
    · exact .inr ⟨ht, t', hz, hn'⟩

theorem less_del (e : Env) (r : Nat) : Less e (e.del r) := fun _ _ h => .inl (del_some h).2.1

theorem noOwn_kids {t : T} (h : t.noOwn = true) : T.noOwnL t.kids = true := by
  cases t with
  | mem k s ts => cases k <;> simp_all [T.noOwn, T.kids]
  | agg ts => simpa [T.noOwn, T.kids] using h
  | tup ts => simpa [T.noOwn, T.kids] using h
  | _ => rfl

theorem at_noOwn : ∀ (p : List Nat) {t u : T}, t.noOwn = true → t.at p = some u → u.noOwn = true
  | [], t, u, h, hp => by simp only [T.at, Option.some.injEq] at hp; subst hp; exact h
  | i :: p, t, u, h, hp => by
    simp only [T.at] at hp
    cases hi : t.kids[i]? with
    | none => rw [hi] at hp; cases hp
    | some c =>
      rw [hi] at hp
      exact at_noOwn p (noOwnL_get (noOwn_kids h) hi) hp

theorem tree_own {e : Env} {r : Nat} {p : List Nat} {s : Option Nat} {ts : List T} (h : e.tree r p = some (.mem .own s ts)) : ∃ t, e r = some (.val t) ∧ t.noOwn = false := by
  obtain ⟨t, h1, h2⟩ := tree_some h
  refine ⟨t, h1, ?_⟩
  cases hn : t.noOwn with
  | false => rfl
  | true => have := at_noOwn p hn h2; simp [T.noOwn] at this

theorem less_clear {e : Env} {r : Nat} {p : List Nat} {s : Option Nat} {ts : List T} (h : e.tree r p = some (.mem .own s ts)) : Less e (e.clear r p) := by
  obtain ⟨t, h1, h2⟩ := tree_own h
  cases p with
  | nil => exact less_del e r
  | cons i p =>
    intro s' y hy
    rcases setTree_some h1 hy with ⟨rfl, rfl⟩ | ⟨_, h4, _⟩
    · exact .inr ⟨⟨_, rfl⟩, t, h1, h2⟩
    · exact .inl h4

mutual
theorem less_take : ∀ (v : V) (e : Env) {t : T} {e1 : Env}, e.take v = some (t, e1) → Less e e1
  | .val u, e, t, e1, h => by
    simp only [Env.take] at h
    split at h
    · cases h; exact Less.refl e
    · cases h
  | .sref r p sz off len, e, t, e1, h => by
    simp only [Env.take] at h
    split at h
    · rename_i htr
      split at h
      · cases h; exact less_clear htr
      · cases h
    · cases h
  | .pref r p off, e, t, e1, h => by
    simp only [Env.take] at h
    split at h
    · rename_i htr
      split at h
      · cases h; exact less_clear htr
      · cases h
    · cases h
  | .vagg vs, e, t, e1, h => by
    simp only [Env.take] at h
    cases htl : e.takeL vs with
    | none => rw [htl] at h; cases h
    | some y => rw [htl] at h; cases h; exact less_takeL vs e htl
  | .vtup vs, e, t, e1, h => by
    simp only [Env.take] at h
    cases htl : e.takeL vs with
    | none => rw [htl] at h; cases h
    | some y => rw [htl] at h; cases h; exact less_takeL vs e htl
  | .vfn _ _, e, t, e1, h => by simp [Env.take] at h
  | .same r, e, t, e1, h => by
    simp only [Env.take] at h
    split at h
    · cases h; exact less_del e r
    · cases h
theorem less_takeL : ∀ (vs : List V) (e : Env) {ts : List T} {e1 : Env}, e.takeL vs = some (ts, e1) → Less e e1
  | [], e, ts, e1, h => by simp only [Env.takeL] at h; cases h; exact Less.refl e
  | v :: vs, e, ts, e1, h => by
    simp only [Env.takeL] at h
    cases hta : e.take v with
    | none => rw [hta] at h; cases h
    | some y =>
      rw [hta] at h
      simp only [Option.bind_some] at h
      cases htl : y.2.takeL vs with
      | none => rw [htl] at h; cases h
      | some z => rw [htl] at h; cases h; exact (less_take v e hta).trans (less_takeL vs y.2 htl)
end

theorem less_puts {us : List T} {e : Env} {r : Nat} {p : List Nat} {off : Nat} {s : Option Nat} {ts : List T} (h : e.tree r p = some (.mem .own s ts)) (hl : off + us.length ≤ ts.length) : Less e (e.puts r p off us) := by
  obtain ⟨t, h1, h2⟩ := tree_some h
  obtain ⟨t', h1', h3⟩ := tree_own h
  rw [h1] at h1'
  cases h1'
  obtain ⟨q1, q2⟩ := puts_spec us e r p off t s ts h1 h2 hl
  intro s' y hy
  by_cases hs : s' = r
  · subst hs
    rw [q1] at hy
    cases hy
    exact .inr ⟨⟨_, rfl⟩, t, h1, h3⟩
  · exact .inl (q2 s' y hs hy).1

theorem less_freeze {e e' : Env} {k : K} {s : Nat} (hk : k ≠ .own) (h : e.freeze k s = some e') : Less e e' := fun x y hy => by
  obtain ⟨t, h1, h2, h3⟩ := freeze_some h
  by_cases hx : x = s
  · subst hx
    rw [h2] at hy
    cases hy
    cases hn : t.noOwn with
    | true => rw [frz_noOwn hk t hn]; exact .inl h1
    | false => exact .inr ⟨⟨_, rfl⟩, t, h1, hn⟩
  · exact .inl (h3 x y hx hy).1

theorem less_caps {k : K} (hk : k ≠ .own) : ∀ (xs : List Opd) (e : Env) {ts : List T} {e' : Env}, Env.caps k e xs = some (ts, e') → Less e e'
  | [], e, ts, e', h => by simp only [Env.caps] at h; cases h; exact Less.refl e
  | x :: xs, e, ts, e', h => by
    simp only [Env.caps] at h
    cases hx : e.opd x with
    | none => rw [hx] at h; cases h
    | some v =>
      rw [hx] at h
      simp only [Option.bind_some] at h
      split at h
      · split at h
        · cases hc : Env.caps k e xs with
          | none => rw [hc] at h; cases h
          | some z => rw [hc] at h; cases h; exact less_caps hk xs e hc
        · cases h
      · rename_i r
        cases hf : e.freeze k r with
        | none => rw [hf] at h; cases h
        | some e1 =>
          rw [hf] at h
          simp only [Option.bind_some] at h
          split at h
          · cases hc : Env.caps k e1 xs with
            | none => rw [hc] at h; cases h
            | some z => rw [hc] at h; cases h; exact (less_freeze hk hf).trans (less_caps hk xs e1 hc)
          · cases h
      · cases h

theorem less_base {e : Env} {sz : Nat} {x : V} {z : Option (List T) × Env} (h : e.base sz x = some z) : Less e z.2 := by
  unfold Env.base at h
  split at h
  · cases h; exact Less.refl e
  · split at h
    · rename_i ht
      split at h
      · cases h; exact less_take _ e ht
      · cases h
    · cases h
  · cases h

theorem less_src {e e1 : Env} {mv : Bool} {sz : Nat} {x : V} {us : List T} (h : e.src mv sz x = some (us, e1)) : Less e e1 := by
  rcases src_frame h with rfl | ⟨r, rfl⟩
  · exact Less.refl _
  · exact less_del e r

theorem Fresh.less {D : Nat → Prop} {e e1 : Env} (h : Fresh D e) (h1 : Less e e1) : Fresh D e1 := h.of_some h1

def Q.rOnly : Q → Bool
  | .call _ args => args.all (fun x => x.2 == .r)
  | .callm .. => false
  | .boxk _ => false
  | .settle _ => false
  | .bslk .. => false
  | .appk .. => false
  | .fncl .. => false
  | .cap0 _ => false
  | .bstr _ => false
  | .arr .. => false
  | .mkset => false
  | .apz .. => false
  | .look .. => false
  | .upd .. => false
  | _ => true

/-- What an exchange leaves in the frame. -/
theorem swp_spec {e e' : Env} {y : Nat} {av xv yv : V} (h : e.swp y av xv yv = some e') : ∃ r i j lx ly ts ui uj, av = .pref r [] i ∧ xv = .sref r [j] 1 0 lx ∧ yv = .sref r [i] 1 0 ly ∧ r ≠ y ∧ e.tree r [] = some (.mem .own (some 1) ts) ∧ ts[i]? = some (.mem .own (some 1) ui) ∧ ts[j]? = some (.mem .own (some 1) uj) ∧ (lx = uj.length ∧ ly = ui.length) ∧
    e' = if i = j then e else ((e.setTree r [i] (.mem .own (some 1) uj)).setTree r [j] .gone).put y (.val (.mem .own (some 1) ui)) := by
  unfold Env.swp at h
  split at h
  · rename_i r i r1 j lx r2 i' ly
    split at h
    · rename_i hc
      obtain ⟨rfl, rfl, rfl, hrs⟩ := hc
      split at h
      · rename_i ts ht
        split at h
        · rename_i ui uj hi hj
          split at h
          · rename_i hl
            simp only [Option.some.injEq] at h
            exact ⟨_, _, j, lx, ly, ts, ui, uj, rfl, rfl, rfl, hrs, ht, hi, hj, hl, h.symm⟩
          · cases h
        · cases h
      · cases h
    · cases h
  · cases h
theorem less_setTree {e : Env} {r : Nat} {p : List Nat} {x : T} {s : Option Nat} {ts : List T} {off : Nat} (h : e.tree r p = some (.mem .own s ts)) (hl : off < ts.length) : Less e (e.setTree r (p ++ [off]) x) := by
  have := less_puts (off := off) (us := [x]) h (by simp only [List.length_cons, List.length_nil]; omega)
  exact this
theorem swp_fresh {D : Nat → Prop} {e e' : Env} {y : Nat} {av xv yv : V} (h : Fresh D e) (hy : e y = some yv) (hs : e.swp y av xv yv = some e') : Fresh D e' := by
  obtain ⟨r, i, j, lx, ly, ts, ui, uj, rfl, rfl, rfl, hry, ht, hi, hj, _, rfl⟩ := swp_spec hs
  split
  · exact h
  · have hil : i < ts.length := by
      rcases Nat.lt_or_ge i ts.length with h' | h'
      · exact h'
      · rw [List.getElem?_eq_none h'] at hi; cases hi
    have hjl : j < ts.length := by
      rcases Nat.lt_or_ge j ts.length with h' | h'
      · exact h'
      · rw [List.getElem?_eq_none h'] at hj; cases hj
    have er := tree_nil ht
    have l1 : Less e (e.setTree r [i] (.mem .own (some 1) uj)) := less_setTree (p := []) ht hil
    have ht1 : (e.setTree r [i] (.mem .own (some 1) uj)).tree r [] = some (.mem .own (some 1) (ts.set i (.mem .own (some 1) uj))) := by
      simp only [Env.tree, setTree_self er]
      simp [T.at, T.setAt, T.withKids, T.kids]
    have l2 : Less (e.setTree r [i] (.mem .own (some 1) uj)) ((e.setTree r [i] (.mem .own (some 1) uj)).setTree r [j] .gone) := less_setTree (p := []) ht1 (by simpa using hjl)
    have hf := h.less (l1.trans l2)
    refine hf.setD (d := some y) (fun x hx hD => ?_) (fun _ _ => rfl)
    cases hx
    obtain ⟨t, h1, _⟩ := (h y hD).1 _ hy
    cases h1
theorem fresh_stepQ {G : Rl} {m : K} (hm : m ≠ .own) {d : Option Nat} {q : Q} {Kt : Env → Prop} {e : Env} {D : Nat → Prop} (h : Fresh D e) (hd : ∀ x, d = some x → ¬ D x) (hr : q.rOnly = true) (hs : stepQ G m d q Kt e) : stepQ G m d q (fun e' => Kt e' ∧ Fresh D e') e := by
  by_cases hq : q.simple = true
  · rw [step_val hq] at hs ⊢
    obtain ⟨v, h1, h2⟩ := hs
    exact ⟨v, h1, h2, h.setD hd fun d hd => val_hits h hd h1⟩
  · have hval : ∀ (e1 : Env) (t : T), Less e e1 → Fresh D (e1.setD d (.val t)) := fun e1 t hl => (h.less hl).setD hd fun _ _ => rfl
    cases q <;> simp only [Q.simple, not_true] at hq <;> simp only [stepQ, bindP] at hs ⊢
    case callm => simp [Q.rOnly] at hr
    case boxk => simp [Q.rOnly] at hr
    case settle => simp [Q.rOnly] at hr
    case cap0 => simp [Q.rOnly] at hr
    case bstr => simp [Q.rOnly] at hr
    case arr => simp [Q.rOnly] at hr
    case mkset => simp [Q.rOnly] at hr
    case apz => simp [Q.rOnly] at hr
    case bsl1 n =>
      obtain ⟨v, h1, h2⟩ := hs
      refine ⟨v, h1, ?_⟩
      split at h2
      · exact ⟨h2.1, h2.2, hval _ _ (less_del e n)⟩
      · exact h2.elim
    case look => simp [Q.rOnly] at hr
    case upd => simp [Q.rOnly] at hr
    case bsls =>
      obtain ⟨v, h1, y, h2, h3, hK⟩ := hs
      exact ⟨v, h1, y, h2, h3, hK, hval _ _ (less_takeL _ e h2)⟩
    case asg =>
      obtain ⟨v, h1, hK⟩ := hs
      refine ⟨v, h1, ?_⟩
      split at hK
      · exact ⟨hK, hval e _ (Less.refl e)⟩
      · obtain ⟨y, h2, hK⟩ := hK
        exact ⟨y, h2, hK, hval _ _ (less_take _ e h2)⟩
    case st =>
      obtain ⟨a, h1, v, h2, y, h3, hK⟩ := hs
      refine ⟨a, h1, v, h2, y, h3, ?_⟩
      split at hK
      · split at hK
        · exact ⟨hK.1, hK.2, h.less ((less_take _ e h3).trans (less_puts (by assumption) hK.1.2.1))⟩
        · exact hK.elim
      · exact hK.elim
    case sts =>
      obtain ⟨a, h1, v, h2, hK⟩ := hs
      refine ⟨a, h1, v, h2, ?_⟩
      split at hK
      · rename_i off z
        split at hK
        · rename_i htr
          refine ⟨hK.1, hK.2, h.less ?_⟩
          have := less_puts (off := off) (us := [.sc z]) htr (by have := hK.1; simp only [List.length_cons, List.length_nil]; omega)
          exact this
        · exact hK.elim
      · exact hK.elim
    case stsw xa xx y =>
      obtain ⟨av, h1, xv, h2, yv, h3, h4, e', h5, hK⟩ := hs
      refine ⟨av, h1, xv, h2, yv, h3, h4, e', h5, hK, ?_⟩
      exact swp_fresh h h3 h5
    case box =>
      obtain ⟨v, h1, y, h2, h3, hK⟩ := hs
      exact ⟨v, h1, y, h2, h3, hK, hval _ _ (less_take _ e h2)⟩
    case bsl =>
      obtain ⟨v, h1, y, h2, h3, hK⟩ := hs
      exact ⟨v, h1, y, h2, h3, hK, hval _ _ (less_takeL _ e h2)⟩
    case app =>
      obtain ⟨a, h1, b, h2, z, h3, u, h4, h5, hK⟩ := hs
      refine ⟨a, h1, b, h2, z, h3, u, h4, h5, ?_⟩
      have hl : Less e u.2 := (less_base h3).trans (less_src h4)
      split at hK
      · exact ⟨fun hh => ⟨hK.1 hh, hval _ _ hl⟩, fun hh => ⟨hK.2 hh, hval _ _ hl⟩⟩
      · exact ⟨hK, hval _ _ hl⟩
    case fncl => simp [Q.rOnly] at hr
    case bslk => simp [Q.rOnly] at hr
    case appk => simp [Q.rOnly] at hr
    case fnc =>
      obtain ⟨y, h1, hK⟩ := hs
      exact ⟨y, h1, hK, hval _ _ (less_caps hm _ e h1)⟩
    case call => exact absurd hr hq
    case freeze =>
      obtain ⟨e', h1, hK⟩ := hs
      exact ⟨e', h1, hK, h.less (less_freeze hm h1)⟩

theorem fresh_stepO {G : Rl} {m : K} (hm : m ≠ .own) {o : O} {Kt : Env → Prop} {e : Env} {D : Nat → Prop} (h : Fresh D e) (hd : ∀ x, o.d = some x → ¬ D x) (hr : o.q.rOnly = true) (hs : stepO G m o Kt e) : stepO G m o (fun e' => Kt e' ∧ Fresh D e') e := by
  unfold stepO at hs ⊢
  cases ho : o.g with
  | none => rw [ho] at hs; exact fresh_stepQ hm h hd hr hs
  | some sb =>
    rw [ho] at hs
    simp only at hs ⊢
    split at hs
    · rename_i b' hes
      by_cases hb : b' = sb.2
      · rw [if_pos hb] at hs
        show (if b' = sb.2 then _ else _)
        rw [if_pos hb]; exact fresh_stepQ hm h hd hr hs
      · rw [if_neg hb] at hs
        show (if b' = sb.2 then _ else _)
        rw [if_neg hb]; exact ⟨hs, h.setD hd fun _ _ => rfl⟩
    · exact ⟨hs, h.setD hd fun _ _ => rfl⟩
    · exact hs.elim

/-! ### Simple operations change places -/

def O.val (G : Rl) (o : O) (e : Env) (v : V) : Prop :=
  match o.g with
  | none => o.q.val G e v
  | some (s, b) =>
    match e s with
    | some (.val (.sc (.bool b'))) => if b' = b then o.q.val G e v else v = undefV
    | some (.val .nul) => v = undefV
    | _ => False

theorem stepO_val {G : Rl} {m : K} {o : O} {Kt : Env → Prop} {e : Env} (hq : o.q.simple = true) : stepO G m o Kt e ↔ ∃ v, o.val G e v ∧ Kt (e.setD o.d v) := by
  unfold stepO O.val
  cases ho : o.g with
  | none => exact step_val hq
  | some sb =>
    simp only
    constructor
    · intro hs
      split at hs
      · rename_i b' hes
        simp only [hes]
        by_cases hb : b' = sb.2
        · rw [if_pos hb] at hs
          obtain ⟨v, h1, h2⟩ := (step_val hq).1 hs
          exact ⟨v, by rw [if_pos hb]; exact h1, h2⟩
        · rw [if_neg hb] at hs
          exact ⟨undefV, by rw [if_neg hb], hs⟩
      · rename_i hes
        simp only [hes]
        exact ⟨undefV, rfl, hs⟩
      · exact hs.elim
    · rintro ⟨v, h1, h2⟩
      split at h1
      · rename_i b' hes
        simp only [hes]
        by_cases hb : b' = sb.2
        · rw [if_pos hb] at h1
          rw [if_pos hb]
          exact (step_val hq).2 ⟨v, h1, h2⟩
        · rw [if_neg hb] at h1
          rw [if_neg hb]
          subst h1; exact h2
      · rename_i hes
        simp only [hes]
        subst h1; exact h2
      · exact h1.elim

def O.reads (d : Nat) (o : O) : Bool := o.q.reads d || (match o.g with | some (s, _) => s == d | none => false)

theorem oval_off {G : Rl} {e e' : Env} {d : Nat} (h : Off e e' d) {o : O} (hq : o.q.simple = true) (hr : o.reads d = false) {v : V} (hv : o.val G e v) : o.val G e' v := by
  simp only [O.reads, Bool.or_eq_false_iff] at hr
  unfold O.val at hv ⊢
  cases ho : o.g with
  | none => rw [ho] at hv; exact val_off h hq hr.1 hv
  | some sb =>
    rw [ho] at hv hr
    simp only [beq_eq_false_iff_ne, ne_eq] at hv hr ⊢
    rw [h.1 sb.1 hr.2]
    split at hv
    · split at hv
      · rename_i hb; rw [if_pos hb]; exact val_off h hq hr.1 hv
      · rename_i hb; rw [if_neg hb]; exact hv
    · exact hv
    · exact hv.elim

theorem oval_hits {G : Rl} {e : Env} {D : Nat → Prop} (h : Fresh D e) {d : Nat} (hd : D d) {o : O} {v : V} (hv : o.val G e v) : v.hits d [] = false := by
  unfold O.val at hv
  split at hv
  · exact val_hits h hd hv
  · split at hv
    · split at hv
      · exact val_hits h hd hv
      · subst hv; rfl
    · subst hv; rfl
    · exact hv.elim

theorem setD_off {D : Nat → Prop} {e : Env} (h : Fresh D e) {d : Nat} (hd : D d) (v : V) : Off e (e.setD (some d) v) d := by
  obtain ⟨h1, h2⟩ := h d hd
  refine ⟨fun s hs => ?_, fun s x _ hx => h2 s x hx⟩
  simp only [Env.setD, Env.put, if_neg hs, Env.kill]
  cases hes : e s with
  | none => rfl
  | some y => simp [h2 s y hes]

/-- A light operation goes behind a store of a scalar. -/
def commutesS (x y : O) : Bool :=
  (match x.q with | .mvw _ => true | .bin .. => true | _ => false) && (match y.q with | .sts .. => true | _ => false) && x.g.isNone && y.g.isNone && (match x.d with | some d => !y.reads d && y.d != some d | none => false)

def commutesP (x y : O) : Bool :=
  x.q.simple && y.q.simple &&
  (match x.d with | some d => !y.reads d && y.d != some d | none => true) &&
  (match y.d with | some d => !x.reads d | none => true)

/-- A simple operation goes behind one that takes what a slot owns. -/
def commutesB (x y : O) : Bool :=
  x.q.simple && x.g.isNone && y.g.isNone &&
  (match x.d, y.d, y.q with | some dx, some dy, .bsl1 n => dx != dy && dx != n && dy != n && !x.q.reads n && !x.q.reads dy | _, _, _ => false)

/-- A light operation goes behind the first half of an exchange. -/
def commutesW (x y : O) : Bool :=
  (match x.q with | .mvw _ => true | .bin .. => true | _ => false) && (match y.q with | .stsw .. => true | _ => false) && x.g.isNone && y.g.isNone && (match x.d with | some d => !y.reads d && y.d != some d | none => false)

def commutes (x y : O) : Bool := commutesP x y || commutesS x y || commutesB x y || commutesW x y

mutual
theorem rootly_hits {r i : Nat} {p : List Nat} : ∀ v : V, v.rootly = true → v.hits r (p ++ [i]) = false
  | .val _, _ => rfl
  | .sref r' q _ _ _, h => by
    simp only [V.rootly, List.isEmpty_iff] at h
    subst h
    simp only [V.hits, Bool.and_eq_false_iff]
    right
    cases p <;> rfl
  | .pref r' q _, h => by
    simp only [V.rootly, List.isEmpty_iff] at h
    subst h
    simp only [V.hits, Bool.and_eq_false_iff]
    right
    cases p <;> rfl
  | .vagg vs, h => by simp only [V.rootly] at h; simp only [V.hits]; exact rootlyL_hits vs h
  | .vtup vs, h => by simp only [V.rootly] at h; simp only [V.hits]; exact rootlyL_hits vs h
theorem rootlyL_hits {r i : Nat} {p : List Nat} : ∀ vs : List V, V.rootlyL vs = true → V.hitsL r (p ++ [i]) vs = false
  | [], _ => rfl
  | v :: vs, h => by
    simp only [V.rootlyL, Bool.and_eq_true] at h
    simp only [V.hitsL, rootly_hits v h.1, rootlyL_hits vs h.2, Bool.or_self]
end

theorem peekL_set {r : Nat} {q : List Nat} : ∀ (ts : List T) (k i : Nat) (c c' : T), ts[i]? = some c → c'.peek r (q ++ [k + i]) = c.peek r (q ++ [k + i]) → T.peekL r q k (ts.set i c') = T.peekL r q k ts
  | [], _, _, _, _, h, _ => by simp at h
  | t :: ts, k, 0, c, c', h, h2 => by
    simp only [List.getElem?_cons_zero, Option.some.injEq] at h
    subst h
    simp only [Nat.add_zero] at h2
    simp only [List.set_cons_zero, T.peekL, h2]
  | t :: ts, k, i + 1, c, c', h, h2 => by
    simp only [List.set_cons_succ, T.peekL]
    rw [peekL_set ts (k + 1) i c c' (by simpa using h) (by rwa [show k + 1 + i = k + (i + 1) from by omega])]

theorem peek_setAt {r off : Nat} {x : T} {s : Option Nat} {ts : List T} : ∀ (p : List Nat) (t : T) (q : List Nat), t.at p = some (.mem .own s ts) → (t.setAt (p ++ [off]) x).peek r q = t.peek r q
  | [], t, q, h => by
    simp only [T.at, Option.some.injEq] at h
    subst h
    cases s <;> simp [T.setAt, T.peek]
  | i :: p, t, q, h => by
    simp only [T.at] at h
    cases hi : t.kids[i]? with
    | none => rw [hi] at h; cases h
    | some c =>
      rw [hi] at h
      simp only [Option.bind_some] at h
      have hgd : t.kids.getD i .gone = c := by rw [List.getD_eq_getElem?_getD, hi]; rfl
      cases t with
      | mem k s' us =>
        cases k
        · cases s' <;> simp [T.peek]
        · simp [T.kids] at hi
        · simp [T.kids] at hi
      | agg us =>
        simp only [T.kids] at hi hgd
        simp only [List.cons_append, T.setAt, T.withKids, T.kids, T.peek, hgd]
        rw [peekL_set us 0 i c _ hi (peek_setAt p c _ h)]
      | tup us =>
        simp only [T.kids] at hi hgd
        simp only [List.cons_append, T.setAt, T.withKids, T.kids, T.peek, hgd]
        rw [peekL_set us 0 i c _ hi (peek_setAt p c _ h)]
      | _ => simp [T.kids] at hi

theorem opd_store {e : Env} {r off : Nat} {p : List Nat} {s : Option Nat} {ts : List T} {z : T} (ht : e.tree r p = some (.mem .own s ts)) {x : Opd} {v : V} (hv : e.opd x = some v) (hr : v.rootly = true) : (e.setTree r (p ++ [off]) z).opd x = some v := by
  obtain ⟨t, h1, h2⟩ := tree_some ht
  cases x with
  | t n =>
    simp only [Env.opd, Env.peek] at hv ⊢
    by_cases hn : n = r
    · subst hn
      rw [setTree_self h1]
      rw [h1] at hv
      simp only [Option.some.injEq] at hv ⊢
      rw [← hv]
      exact peek_setAt p t [] h2
    · split at hv
      · rename_i u hu
        rw [setTree_ne hn hu rfl]
        exact hv
      · rename_i hne
        rw [setTree_ne hn hv (rootly_hits v hr)]
        split
        · rename_i u hu; cases hu; exact (hne u hv).elim
        · rfl
  | c u => exact hv
  | f id => exact hv

theorem light_simple {q : Q} (h : (match q with | .mvw _ => true | .bin .. => true | _ => false) = true) : q.simple = true := by
  cases q <;> first | rfl | cases h

theorem swapS {G : Rl} {m : K} {x y : O} {Kt : Env → Prop} {e : Env} {D : Nat → Prop} (h : Fresh D e) (hx : ∀ d, x.d = some d → D d) (hc : commutesS x y = true) (hs : stepO G m x (stepO G m y Kt) e) : stepO G m y (stepO G m x Kt) e := by
  obtain ⟨xd, xg, xq⟩ := x
  obtain ⟨yd, yg, yq⟩ := y
  simp only [commutesS, Bool.and_eq_true, Option.isNone_iff_eq_none] at hc
  obtain ⟨⟨⟨⟨c1, c2⟩, rfl⟩, rfl⟩, c3⟩ := hc
  cases xd with
  | none => simp at c3
  | some d =>
    simp only [Bool.and_eq_true, Bool.not_eq_true', bne_iff_ne, ne_eq] at c3
    have hD : D d := hx d rfl
    have hsim : xq.simple = true := light_simple c1
    simp only [stepO] at hs ⊢
    rw [step_val hsim] at hs
    obtain ⟨v, hv, hy⟩ := hs
    have hroot : v.rootly = true := by
      cases xq <;> simp only at c1 <;> try cases c1
      · rename_i op a b
        simp only [Q.val] at hv
        obtain ⟨a, _, b, _, h3⟩ := hv
        obtain ⟨⟨_, rfl⟩, _, _⟩ := binV_sc h3
        rfl
      · exact hv.2
    have hvd : v.hits d [] = false := val_hits h hD hv
    cases yq <;> simp only at c2 <;> try cases c2
    rename_i a z
    have hre : (Q.sts a z).reads d = false := by
      have := c3.1
      simp only [O.reads, Bool.or_false] at this
      exact this
    simp only [Q.reads, Bool.or_eq_false_iff] at hre
    have hoff : Off (e.setD (some d) v) e d := (setD_off h hD v).symm
    simp only [stepQ, bindP] at hy ⊢
    obtain ⟨av, h1, zv, h2, h3⟩ := hy
    rw [← opd_off hoff hre.1] at h1
    rw [← opd_off hoff hre.2] at h2
    refine ⟨av, h1, zv, h2, ?_⟩
    split at h3
    · rename_i r p off z
      have hrd : r ≠ d := by
        have := opd_hits hoff.symm hre.1 h1
        exact hits_ne this
      rw [← tree_off hoff hrd] at h3
      split at h3
      · rename_i ts htr
        refine ⟨h3.1, ?_⟩
        simp only [stepO]
        rw [step_val hsim]
        refine ⟨v, ?_, ?_⟩
        · cases xq <;> simp only at c1 <;> try cases c1
          · rename_i op a b
            simp only [Q.val] at hv ⊢
            obtain ⟨a', k1, b', k2, k3⟩ := hv
            have ha : a'.rootly = true ∧ b'.rootly = true := by
              obtain ⟨_, ⟨_, rfl⟩, _, rfl⟩ := binV_sc k3
              exact ⟨rfl, rfl⟩
            exact ⟨a', opd_store htr k1 ha.1, b', opd_store htr k2 ha.2, k3⟩
          · exact ⟨opd_store htr hv.1 hroot, hroot⟩
        · have henv : (e.setD (some d) v).setTree r (p ++ [off]) (.sc z) = (e.setTree r (p ++ [off]) (.sc z)).setD (some d) v := by
            obtain ⟨t, q1, q2⟩ := tree_some htr
            have hkr : (e.setD (some d) v) r = some (.val t) := by rw [hoff.symm.1 r hrd]; exact q1
            funext s
            by_cases hsr : s = r
            · subst hsr
              rw [setTree_self hkr]
              simp only [Env.setD, Env.put, if_neg hrd, Env.kill, setTree_self q1]
              simp [V.hits]
            · simp only [Env.setTree, if_neg hsr]
              by_cases hsd : s = d
              · subst hsd
                simp [Env.setD, Env.put, Env.kill, hvd, rootly_hits v hroot]
              · simp only [Env.setD, Env.put, if_neg hsd, Env.kill, if_neg hsr, Env.setTree]
                cases hes : e s with
                | none => rfl
                | some u =>
                  simp only
                  cases hu1 : u.hits d [] <;> cases hu2 : u.hits r (p ++ [off]) <;> simp [hu1, hu2]
          rw [← henv]
          exact h3.2
      · exact h3.elim
    · exact h3.elim

theorem setD_swap {D : Nat → Prop} {e : Env} (h : Fresh D e) {d1 d2 : Nat} (hd1 : D d1) (hd2 : D d2) (hne : d1 ≠ d2) {v1 v2 : V} (h11 : v1.hits d1 [] = false) (h12 : v1.hits d2 [] = false) (h21 : v2.hits d1 [] = false) (h22 : v2.hits d2 [] = false) :
    (e.setD (some d1) v1).setD (some d2) v2 = (e.setD (some d2) v2).setD (some d1) v1 := by
  have o1 := (setD_off h hd1 v1).1
  have o2 := (setD_off h hd2 v2).1
  funext s
  have e1 : (e.put d1 v1) d1 = some v1 := by simp [Env.put, h11]
  have e2 : (e.put d2 v2) d2 = some v2 := by simp [Env.put, h22]
  by_cases hs1 : s = d1
  · subst hs1
    have r : ((e.setD (some d2) v2).setD (some s) v1) s = some v1 := by simp [Env.setD, Env.put, h11]
    rw [r]
    show (if s = d2 then _ else (e.put s v1).kill d2 [] s) = _
    rw [if_neg hne]
    simp only [Env.kill, e1, h12, Bool.false_eq_true, if_false]
  · by_cases hs2 : s = d2
    · subst hs2
      have r : ((e.setD (some d1) v1).setD (some s) v2) s = some v2 := by simp [Env.setD, Env.put, h22]
      rw [r]
      show _ = (if s = d1 then _ else (e.put s v2).kill d1 [] s)
      rw [if_neg (Ne.symm hne)]
      simp only [Env.kill, e2, h21, Bool.false_eq_true, if_false]
    · show (if s = d2 then _ else (e.setD (some d1) v1).kill d2 [] s) = (if s = d1 then _ else (e.setD (some d2) v2).kill d1 [] s)
      rw [if_neg hs2, if_neg hs1]
      simp only [Env.kill, o1 s hs1, o2 s hs2]
      cases hes : e s with
      | none => rfl
      | some y => simp [(h d1 hd1).2 s y hes, (h d2 hd2).2 s y hes]

theorem swapB {G : Rl} {m : K} {x y : O} {Kt : Env → Prop} {e : Env} {D : Nat → Prop} (h : Fresh D e) (hx : ∀ d, x.d = some d → D d) (hy : ∀ d, y.d = some d → D d) (hc : commutesB x y = true) (hs : stepO G m x (stepO G m y Kt) e) : stepO G m y (stepO G m x Kt) e := by
  obtain ⟨xd, xg, xq⟩ := x
  obtain ⟨yd, yg, yq⟩ := y
  simp only [commutesB, Bool.and_eq_true, Option.isNone_iff_eq_none] at hc
  obtain ⟨⟨⟨c1, rfl⟩, rfl⟩, c3⟩ := hc
  split at c3
  · rename_i dx dy n
    simp only [Bool.and_eq_true, bne_iff_ne, ne_eq, Bool.not_eq_true'] at c3
    obtain ⟨⟨⟨⟨n1, n2⟩, n3⟩, r1⟩, r2⟩ := c3
    have hDx : D dx := hx dx rfl
    have hDy : D dy := hy dy rfl
    simp only [stepO] at hs ⊢
    rw [step_val c1] at hs
    obtain ⟨v, hv, hb⟩ := hs
    have hvx : v.hits dx [] = false := val_hits h hDx hv
    have hvy : v.hits dy [] = false := val_hits h hDy hv
    have hoff := setD_off h hDx v
    simp only [stepQ, bindP] at hb ⊢
    obtain ⟨u, g1, g2⟩ := hb
    rw [hoff.1 n (Ne.symm n2)] at g1
    refine ⟨u, g1, ?_⟩
    split at g2
    · rename_i k ts
      obtain ⟨⟨l1, l2⟩, hK⟩ := g2
      have hex : (e.setD (some dx) v) dx = some v := by simp [Env.setD, Env.put, hvx]
      have hvn : v.hits n [] = false := by
        have := congrFun l1 dx
        simp only [Env.kill, hex] at this
        cases hh : v.hits n [] with
        | false => rfl
        | true => rw [hh] at this; simp at this
      have lone : ∀ s z, e s = some z → z.hits n [] = false := fun s z hz => by
        by_cases hsx : s = dx
        · subst hsx
          obtain ⟨t, rfl, _⟩ := (h s hDx).1 z hz
          rfl
        · have := congrFun l1 s
          simp only [Env.kill, hoff.1 s hsx, hz] at this
          cases hh : z.hits n [] with
          | false => rfl
          | true => rw [hh] at this; simp at this
      have hkill : e.kill n [] = e := by
        funext s
        simp only [Env.kill]
        cases hes : e s with
        | none => rfl
        | some z => simp [lone s z hes]
      have hdel : ∀ s, s ≠ n → (e.del n) s = e s := fun s hs => by
        simp only [Env.del, if_neg hs, Env.kill]
        cases hes : e s with
        | none => rfl
        | some z => simp [lone s z hes]
      refine ⟨⟨hkill, l2⟩, ?_⟩
      have hfd : Fresh D (e.del n) := h.less (less_del e n)
      have hv1 : xq.val G (e.del n) v := val_off (d := n) ⟨fun s hs => hdel s hs, fun s z _ hz => lone s z hz⟩ c1 r1 hv
      have hv2 := val_off (setD_off hfd hDy (.val (.mem .own (some 1) [.mem .own (some k) ts]))) c1 r2 hv1
      show stepQ G m (some dx) xq Kt _
      rw [step_val c1]
      refine ⟨v, hv2, ?_⟩
      have e1 : (e.del n).setD (some dx) v = (e.setD (some dx) v).del n := by
        funext s
        by_cases hsx : s = dx
        · subst hsx
          simp [Env.setD, Env.put, Env.del, n2, Env.kill, hvx, hvn]
        · by_cases hsn : s = n
          · subst hsn
            simp [Env.setD, Env.put, Env.del, hsx, Env.kill]
          · simp only [Env.setD, Env.put, if_neg hsx, Env.kill, Env.del, if_neg hsn]
            cases hes : e s with
            | none => rfl
            | some z => simp [lone s z hes, (h dx hDx).2 s z hes]
      rw [setD_swap hfd hDy hDx (Ne.symm n1) rfl rfl hvy hvx, e1]
      exact hK
    · exact g2.elim
  · cases c3

theorem setD_tree {D : Nat → Prop} {e : Env} (h : Fresh D e) {d r i : Nat} (hD : D d) (hrd : r ≠ d) {t x : T} (er : e r = some (.val t)) {v : V} (hvd : v.hits d [] = false) (hroot : v.rootly = true) :
    (e.setD (some d) v).setTree r [i] x = (e.setTree r [i] x).setD (some d) v := by
  have hoff : Off (e.setD (some d) v) e d := (setD_off h hD v).symm
  have hkr : (e.setD (some d) v) r = some (.val t) := by rw [hoff.symm.1 r hrd]; exact er
  funext s
  by_cases hsr : s = r
  · subst hsr
    rw [setTree_self hkr]
    simp only [Env.setD, Env.put, if_neg hrd, Env.kill, setTree_self er]
    simp [V.hits]
  · simp only [Env.setTree, if_neg hsr]
    by_cases hsd : s = d
    · subst hsd
      have := rootly_hits (r := r) (i := i) (p := []) v hroot
      simp only [List.nil_append] at this
      simp [Env.setD, Env.put, Env.kill, hvd, this]
    · simp only [Env.setD, Env.put, if_neg hsd, Env.kill, if_neg hsr, Env.setTree]
      cases hes : e s with
      | none => rfl
      | some u =>
        simp only
        cases hu1 : u.hits d [] <;> cases hu2 : u.hits r [i] <;> simp [hu1, hu2]
theorem setD_put {e : Env} {d y : Nat} (hyd : y ≠ d) {c : T} {v : V} (hvd : v.hits d [] = false) (hvy : v.hits y [] = false) : (e.setD (some d) v).put y (.val c) = (e.put y (.val c)).setD (some d) v := by
  funext s
  by_cases hsy : s = y
  · subst hsy
    simp [Env.setD, Env.put, hyd, Env.kill, V.hits]
  · by_cases hsd : s = d
    · subst hsd
      simp [Env.setD, Env.put, hsy, Env.kill, hvd, hvy]
    · simp only [Env.setD, Env.put, if_neg hsd, if_neg hsy, Env.kill]
      cases hes : e s with
      | none => rfl
      | some u =>
        simp only
        cases hu1 : u.hits d [] <;> cases hu2 : u.hits y [] <;> simp [hu1, hu2]
theorem opd_put {e : Env} {y : Nat} {c : T} {x : Opd} {v : V} (hv : e.opd x = some v) (hx : x.is y = false) (hvy : v.hits y [] = false) : (e.put y (.val c)).opd x = some v := by
  cases x with
  | t n =>
    have hn : n ≠ y := by simpa [Opd.is] using hx
    simp only [Env.opd, Env.peek] at hv ⊢
    simp only [Env.put, if_neg hn, Env.kill]
    split at hv
    · rename_i u hu
      rw [hu]
      simpa [V.hits] using hv
    · rename_i hne
      rw [hv]
      simp only [hvy, Bool.false_eq_true, if_false]
      split
      · rename_i u hu; cases hu; exact (hne u hv).elim
      · rfl
  | c u => exact hv
  | f id => exact hv

theorem swapW {G : Rl} {m : K} {x y : O} {Kt : Env → Prop} {e : Env} {D : Nat → Prop} (h : Fresh D e) (hx : ∀ d, x.d = some d → D d) (hc : commutesW x y = true) (hs : stepO G m x (stepO G m y Kt) e) : stepO G m y (stepO G m x Kt) e := by
  obtain ⟨xd, xg, xq⟩ := x
  obtain ⟨yd, yg, yq⟩ := y
  simp only [commutesW, Bool.and_eq_true, Option.isNone_iff_eq_none] at hc
  obtain ⟨⟨⟨⟨c1, c2⟩, rfl⟩, rfl⟩, c3⟩ := hc
  cases xd with
  | none => simp at c3
  | some d =>
    simp only [Bool.and_eq_true, Bool.not_eq_true', bne_iff_ne, ne_eq] at c3
    have hD : D d := hx d rfl
    have hsim : xq.simple = true := light_simple c1
    simp only [stepO] at hs ⊢
    rw [step_val hsim] at hs
    obtain ⟨v, hv, hy⟩ := hs
    have hroot : v.rootly = true := by
      cases xq <;> simp only at c1 <;> try cases c1
      · rename_i op a b
        simp only [Q.val] at hv
        obtain ⟨a, _, b, _, h3⟩ := hv
        obtain ⟨⟨_, rfl⟩, _, _⟩ := binV_sc h3
        rfl
      · exact hv.2
    have hvd : v.hits d [] = false := val_hits h hD hv
    cases yq <;> simp only at c2 <;> try cases c2
    rename_i ya yx ys
    have hre : (Q.stsw ya yx ys).reads d = false := by
      have := c3.1
      simp only [O.reads, Bool.or_false] at this
      exact this
    simp only [Q.reads, Bool.or_eq_false_iff, beq_eq_false_iff_ne, ne_eq] at hre
    have hoff : Off (e.setD (some d) v) e d := (setD_off h hD v).symm
    simp only [stepQ, bindP] at hy ⊢
    obtain ⟨av, h1, xv, h2, yv, h3, hk, e1, h4, hK⟩ := hy
    rw [← opd_off hoff hre.1.1] at h1
    rw [← opd_off hoff hre.1.2] at h2
    rw [← hoff.1 ys hre.2] at h3
    obtain ⟨r, i, j, lx, ly, ts, ui, uj, rfl, rfl, rfl, hry, ht, hi, hj, hl, rfl⟩ := swp_spec h4
    have hrd : r ≠ d := by
      intro hh
      have := (h d hD).2 _ _ h3
      subst hh
      simp [V.hits] at this
    rw [← tree_off hoff hrd] at ht
    have er := tree_nil ht
    have hvy : v.hits ys [] = false := by
      have hkd := congrFun hk d
      have hed : (e.setD (some d) v) d = some v := by simp [Env.setD, Env.put, hvd]
      simp only [Env.kill, hed] at hkd
      cases hh : v.hits ys [] with
      | false => rfl
      | true => rw [hh] at hkd; simp at hkd
    have hk' : e.kill ys [] = e := by
      funext s
      by_cases hsd : s = d
      · subst hsd
        simp only [Env.kill]
        cases hes : e s with
        | none => rfl
        | some z =>
          obtain ⟨t, rfl, _⟩ := (h s hD).1 z hes
          simp [V.hits]
      · have := congrFun hk s
        simp only [Env.kill] at this ⊢
        rw [← hoff.1 s hsd] at this
        exact this
    have hswp : e.swp ys (.pref r [] i) (.sref r [j] 1 0 lx) (.sref r [i] 1 0 ly) = some (if i = j then e else ((e.setTree r [i] (.mem .own (some 1) uj)).setTree r [j] .gone).put ys (.val (.mem .own (some 1) ui))) := by
      simp only [Env.swp, ht, hi, hj]
      simp [hry, hl]
    refine ⟨_, h1, _, h2, _, h3, hk', _, hswp, ?_⟩
    simp only [stepO]
    rw [step_val hsim]
    by_cases hij : i = j
    · rw [if_pos hij] at hK ⊢
      exact ⟨v, hv, hK⟩
    · rw [if_neg hij] at hK ⊢
      have ht1 : (e.setTree r [i] (.mem .own (some 1) uj)).tree r [] = some (.mem .own (some 1) (ts.set i (.mem .own (some 1) uj))) := by
        simp only [Env.tree, setTree_self er]
        simp [T.at, T.setAt, T.withKids, T.kids]
      have er1 := tree_nil ht1
      have hil : i < ts.length := by
        rcases Nat.lt_or_ge i ts.length with h' | h'
        · exact h'
        · rw [List.getElem?_eq_none h'] at hi; cases hi
      have hf1 : Fresh D (e.setTree r [i] (.mem .own (some 1) uj)) := h.less (less_setTree (p := []) ht hil)
      have hopd : ∀ {z : Opd} {u : V}, e.opd z = some u → u.rootly = true → u.hits ys [] = false → ((((e.setTree r [i] (.mem .own (some 1) uj)).setTree r [j] .gone).put ys (.val (.mem .own (some 1) ui))).opd z = some u) := fun {z u} hz hu huy => by
        have o1 := opd_store (off := i) (z := .mem .own (some 1) uj) ht hz hu
        have o2 := opd_store (off := j) (z := .gone) ht1 o1 hu
        refine opd_put o2 ?_ huy
        cases z with
        | t n =>
          by_cases hn : n = ys
          · subst hn
            simp only [Env.opd, Env.peek, h3] at hz
            cases hz
            simp [V.rootly] at hu
          · simpa [Opd.is] using hn
        | c _ => rfl
        | f _ => rfl
      refine ⟨v, ?_, ?_⟩
      · cases xq <;> simp only at c1 <;> try cases c1
        · rename_i op a b
          simp only [Q.val] at hv ⊢
          obtain ⟨a', k1, b', k2, k3⟩ := hv
          have ha : (a'.rootly = true ∧ a'.hits ys [] = false) ∧ b'.rootly = true ∧ b'.hits ys [] = false := by
            obtain ⟨_, ⟨_, rfl⟩, _, rfl⟩ := binV_sc k3
            exact ⟨⟨rfl, rfl⟩, rfl, rfl⟩
          exact ⟨a', hopd k1 ha.1.1 ha.1.2, b', hopd k2 ha.2.1 ha.2.2, k3⟩
        · exact ⟨hopd hv.1 hroot hvy, hroot⟩
      · have q1 := setD_tree h hD hrd (x := .mem .own (some 1) uj) (i := i) er hvd hroot
        have q2 := setD_tree hf1 hD hrd (x := .gone) (i := j) er1 hvd hroot
        rw [q1, q2, setD_put hre.2 hvd hvy] at hK
        exact hK

theorem swapO {G : Rl} {m : K} {x y : O} {Kt : Env → Prop} {e : Env} {D : Nat → Prop} (h : Fresh D e) (hx : ∀ d, x.d = some d → D d) (hy : ∀ d, y.d = some d → D d) (hc : commutes x y = true) (hs : stepO G m x (stepO G m y Kt) e) : stepO G m y (stepO G m x Kt) e := by
  simp only [commutes, Bool.or_eq_true] at hc
  rcases hc with ((hc | hc) | hc) | hc
  case inr => exact swapW h hx hc hs
  case inl.inr => exact swapB h hx hy hc hs
  case inl.inl.inr => exact swapS h hx hc hs
  simp only [commutesP, Bool.and_eq_true] at hc
  obtain ⟨⟨⟨qx, qy⟩, c1⟩, c2⟩ := hc
  rw [stepO_val qx] at hs
  obtain ⟨vx, h1, h2⟩ := hs
  rw [stepO_val qy] at h2
  obtain ⟨vy, h3, h4⟩ := h2
  rw [stepO_val qy]
  have hvy : y.val G e vy := by
    cases hxd : x.d with
    | none => rw [hxd] at h3; exact h3
    | some d =>
      rw [hxd] at h3 c1
      simp only [Bool.and_eq_true, Bool.not_eq_true'] at c1
      exact oval_off (setD_off h (hx d hxd) vx).symm qy c1.1 h3
  refine ⟨vy, hvy, ?_⟩
  rw [stepO_val qx]
  refine ⟨vx, ?_, ?_⟩
  · cases hyd : y.d with
    | none => exact h1
    | some d =>
      rw [hyd] at c2
      simp only [Bool.not_eq_true'] at c2
      exact oval_off (setD_off h (hy d hyd) vy) qx c2 h1
  · cases hxd : x.d with
    | none => rw [hxd] at h4; exact h4
    | some d1 =>
      cases hyd : y.d with
      | none => rw [hxd, hyd] at h4; exact h4
      | some d2 =>
        rw [hxd, hyd] at h4
        rw [hxd, hyd] at c1
        simp only [Bool.and_eq_true, bne_iff_ne, ne_eq, Option.some.injEq] at c1
        rw [← setD_swap h (hx d1 hxd) (hy d2 hyd) (fun e' => c1.2 e'.symm) (oval_hits h (hx d1 hxd) h1) (oval_hits h (hy d2 hyd) h1) (oval_hits h (hx d1 hxd) hvy) (oval_hits h (hy d2 hyd) hvy)]
        exact h4

/-- An operation goes ahead of those with which it commutes. -/
theorem bubble {G : Rl} {m : K} {o : O} {post : List O} {Kt : Env → Prop} : ∀ (pre : List O) {e : Env} {D : Nat → Prop}, Fresh D e → (∀ p, p ∈ pre → commutes p o = true ∧ (∀ d, p.d = some d → D d) ∧ ∀ d, o.d = some d → D d) →
    (pre.map (·.d)).Pairwise (fun a b => ∀ d, a = some d → b ≠ some d) → wpL G m (pre ++ o :: post) Kt e → wpL G m (o :: (pre ++ post)) Kt e
  | [], e, D, _, _, _, hs => hs
  | p :: pre, e, D, h, hc, hpw, hs => by
    obtain ⟨hcp, hp, ho⟩ := hc p (by simp)
    have hsim : p.q.simple = true ∧ (∀ d, p.d = some d → o.d ≠ some d) := by
      have h9 := hcp
      simp only [commutes, Bool.or_eq_true] at h9
      rcases h9 with ((h9 | h9) | h9) | h9
      · simp only [commutesP, Bool.and_eq_true] at h9
        obtain ⟨⟨⟨qp, qo⟩, c1⟩, _⟩ := h9
        refine ⟨qp, fun d hd => ?_⟩
        rw [hd] at c1
        simp only [Bool.and_eq_true, bne_iff_ne, ne_eq] at c1
        exact c1.2
      · simp only [commutesS, Bool.and_eq_true] at h9
        obtain ⟨⟨⟨⟨c1, _⟩, _⟩, _⟩, c3⟩ := h9
        refine ⟨light_simple c1, fun d hd => ?_⟩
        rw [hd] at c3
        simp only [Bool.and_eq_true, bne_iff_ne, ne_eq] at c3
        exact c3.2
      · simp only [commutesB, Bool.and_eq_true] at h9
        obtain ⟨⟨⟨c1, _⟩, _⟩, c3⟩ := h9
        refine ⟨c1, fun d hd hod => ?_⟩
        rw [hd, hod] at c3
        split at c3
        · rename_i h1 h2 h3
          cases h1; cases h2
          simp at c3
        · cases c3
      · simp only [commutesW, Bool.and_eq_true] at h9
        obtain ⟨⟨⟨⟨c1, _⟩, _⟩, _⟩, c3⟩ := h9
        refine ⟨light_simple c1, fun d hd => ?_⟩
        rw [hd] at c3
        simp only [Bool.and_eq_true, bne_iff_ne, ne_eq] at c3
        exact c3.2
    obtain ⟨qp, c1⟩ := hsim
    have h1 : stepO G m p (wpL G m (pre ++ o :: post) Kt) e := hs
    have hkey : stepO G m p (stepO G m o (wpL G m (pre ++ post) Kt)) e := by
      rw [stepO_val qp] at h1 ⊢
      obtain ⟨v, hv, hK⟩ := h1
      refine ⟨v, hv, ?_⟩
      simp only [List.map_cons, List.pairwise_cons] at hpw
      have hF : Fresh (fun d => D d ∧ p.d ≠ some d) (e.setD p.d v) := by
        have hsub : Fresh (fun d => D d ∧ p.d ≠ some d) e := fun d hd => h d hd.1
        exact hsub.setD (fun x hx hh => hh.2 hx) fun d hd => oval_hits h hd.1 hv
      refine bubble pre (D := fun d => D d ∧ p.d ≠ some d) hF (fun q hq => ⟨(hc q (by simp [hq])).1, fun d hd => ⟨(hc q (by simp [hq])).2.1 d hd, fun hpd => hpw.1 q.d (List.mem_map.2 ⟨q, hq, rfl⟩) d hpd hd⟩, fun d hd => ⟨ho d hd, fun hpd => ?_⟩⟩) hpw.2 hK
      · exact c1 d hpd hd
    exact swapO h hp ho hcp hkey

end Go.Mch
/- Regions that draw their order, against the model's. -/
namespace Go.Mch

def okRow (P : Program) (fm : Nat → Nat) (nt : Nat) (ops : Array Oper) : List O → List Oper → Bool
  | [], [] => true
  | o :: l, x :: xs => okO P fm nt ops o x && okRow P fm nt ops l xs
  | _, _ => false

def maskOf (acc : List Nat) : List Edge → Nat
  | [] => 0
  | e :: es => if Region.binds .any e then (2 ^ e.on ||| acc.getD e.on 0) ||| maskOf acc es else maskOf acc es

/-- For each operation, those that come before it in every order. -/
def masks : List Oper → List Nat → List Nat
  | [], acc => acc
  | x :: xs, acc => masks xs (acc ++ [maskOf acc x.after.toList])

def okEdges : Nat → List Oper → Bool
  | _, [] => true
  | i, x :: xs => x.after.toList.all (fun e => !Region.binds .any e || decide (e.on < i)) && okEdges (i + 1) xs

def dstIn (ds : List Nat) (o : O) : Bool := o.d.all ds.contains

def okPairs (ms ds : List Nat) (os : List O) : Bool :=
  (List.range os.length).all fun i => (List.range i).all fun j => (ms.getD i 0).testBit j || (commutes (os.getD j default) (os.getD i default) && dstIn ds (os.getD j default) && dstIn ds (os.getD i default))

def okDsts : List O → Bool
  | [] => true
  | o :: l => (match o.d with | some d => l.all (fun p => p.d != some d) | none => true) && okDsts l

def okDraw (P : Program) (fm : Nat → Nat) (nt : Nat) (ops : Array Oper) (ds : List Nat) (os : List O) : Bool :=
  okRow P fm nt ops os ops.toList && okEdges 0 ops.toList && okDsts os && okPairs (masks ops.toList []) ds os && os.all (fun o => o.q.rOnly)

section
variable {P : Program} {cx : Cx} {nt : Nat} {Kt : Env → Prop} {G : Rl} {m : K} {ops : Array Oper} {os : List O}

def Closed (ops : Array Oper) (listed : Array Bool) : Prop := ∀ (i : Nat) (x : Oper), ops[i]? = some x → listed.getD i true = true → ∀ e, e ∈ x.after → Region.binds .any e = true → listed.getD e.on false = true

def Dn (ops : Array Oper) (i j : Nat) : Prop := ∀ (listed : Array Bool) (x : Oper), Closed ops listed → ops[i]? = some x → (∀ e, e ∈ x.after → Region.binds .any e = true → listed.getD e.on false = true) → listed.getD j false = true

theorem getD_tf {l : Array Bool} {j : Nat} (h : l.getD j false = true) : l.getD j true = true := by
  rw [Array.getD_eq_getD_getElem?] at h ⊢
  cases hj : l[j]? with
  | none => rw [hj] at h; simp at h
  | some b => rw [hj] at h; simpa using h

theorem mask_spec {acc : List Nat} (hacc : ∀ i j, (acc.getD i 0).testBit j = true → Dn ops i j) {listed : Array Bool} (hc : Closed ops listed) (hops : ∀ i, i < acc.length → ∃ x, ops[i]? = some x) {j : Nat} :
    ∀ es : List Edge, (∀ e, e ∈ es → Region.binds .any e = true → listed.getD e.on false = true) → (maskOf acc es).testBit j = true → listed.getD j false = true
  | [], _, h => by simp [maskOf] at h
  | e :: es, he, h => by
    simp only [maskOf] at h
    split at h
    · rename_i hb
      simp only [Nat.testBit_or, Bool.or_eq_true] at h
      rcases h with (h | h) | h
      · rw [Nat.testBit_two_pow] at h
        have hj : e.on = j := by simpa using h
        subst hj
        exact he e (by simp) hb
      · have hl := he e (by simp) hb
        have hlt : e.on < acc.length := by
          rcases Nat.lt_or_ge e.on acc.length with h' | h'
          · exact h'
          · rw [List.getD_eq_getElem?_getD, List.getElem?_eq_none h'] at h; simp at h
        obtain ⟨x, hx⟩ := hops e.on hlt
        exact hacc e.on j h listed x hc hx (hc e.on x hx (getD_tf hl))
      · exact mask_spec hacc hc hops es (fun e' h' => he e' (by simp [h'])) h
    · exact mask_spec hacc hc hops es (fun e' h' => he e' (by simp [h'])) h

theorem masks_spec : ∀ (xs : List Oper) (acc : List Nat), (∀ j, j < xs.length → ops[acc.length + j]? = xs[j]?) → (∀ i, i < acc.length → ∃ x, ops[i]? = some x) → (∀ i j, (acc.getD i 0).testBit j = true → Dn ops i j) →
    ∀ i j, ((masks xs acc).getD i 0).testBit j = true → Dn ops i j
  | [], _, _, _, hacc => hacc
  | x :: xs, acc, hx, hops, hacc => by
    have hx0 : ops[acc.length]? = some x := by have := hx 0 (by simp); simpa using this
    refine masks_spec xs (acc ++ [maskOf acc x.after.toList]) (fun j hj => ?_) (fun i hi => ?_) (fun i j hij => ?_)
    · have := hx (j + 1) (by simpa using hj)
      simp only [List.length_append, List.length_cons, List.length_nil, Nat.zero_add]
      rw [show acc.length + 1 + j = acc.length + (j + 1) from by omega, this]
      rfl
    · simp only [List.length_append, List.length_cons, List.length_nil, Nat.zero_add] at hi
      rcases Nat.lt_or_ge i acc.length with h' | h'
      · exact hops i h'
      · have : i = acc.length := by omega
        subst this
        exact ⟨x, hx0⟩
    · rw [List.getD_eq_getElem?_getD, List.getElem?_append] at hij
      split at hij
      · exact hacc i j (by rw [List.getD_eq_getElem?_getD]; exact hij)
      · by_cases hi : i = acc.length
        · subst hi
          simp at hij
          intro listed y hc hy he
          rw [hx0] at hy
          cases hy
          exact mask_spec hacc hc hops x.after.toList (fun e h1 h2 => he e (by simpa using h1) h2) hij
        · rw [List.getElem?_eq_none (by simp; omega)] at hij
          simp at hij

theorem okRow_get : ∀ {l : List O} {xs : List Oper}, okRow P cx.fm nt ops l xs = true → l.length = xs.length ∧ ∀ (i : Nat) (x : Oper), xs[i]? = some x → okO P cx.fm nt ops (l.getD i default) x = true
  | [], [], _ => ⟨rfl, fun i x h => by simp at h⟩
  | o :: l, x :: xs, h => by
    simp only [okRow, Bool.and_eq_true] at h
    obtain ⟨h1, h2⟩ := okRow_get h.2
    refine ⟨by simp [h1], fun i y hy => ?_⟩
    cases i with
    | zero => simp at hy; subst hy; exact h.1
    | succ i => exact h2 i y (by simpa using hy)
  | [], _ :: _, h => by simp [okRow] at h
  | _ :: _, [], h => by simp [okRow] at h

theorem okEdges_get : ∀ {xs : List Oper} {k : Nat}, okEdges k xs = true → ∀ (i : Nat) (x : Oper), xs[i]? = some x → ∀ e, e ∈ x.after → Region.binds .any e = true → e.on < k + i
  | [], _, _, i, x, h => by simp at h
  | y :: xs, k, h, i, x, hx => by
    simp only [okEdges, Bool.and_eq_true] at h
    intro e he hb
    cases i with
    | zero =>
      simp at hx; subst hx
      have := List.all_eq_true.1 h.1 e (by simpa using he)
      simp only [hb, Bool.not_true, Bool.false_or, decide_eq_true_eq] at this
      omega
    | succ i =>
      have := okEdges_get h.2 i x (by simpa using hx) e he hb
      omega

theorem okDsts_get : ∀ {l : List O}, okDsts l = true → ∀ (i j : Nat) (d : Nat), i < j → j < l.length → (l.getD i default).d = some d → (l.getD j default).d ≠ some d
  | [], _, _, _, _, _, h, _ => by simp at h
  | o :: l, h, i, j, d, hij, hj, hd => by
    simp only [okDsts, Bool.and_eq_true] at h
    cases j with
    | zero => omega
    | succ j =>
      simp only [List.length_cons, Nat.add_lt_add_iff_right] at hj
      cases i with
      | zero =>
        simp only [List.getD_cons_zero] at hd
        rw [hd] at h
        have := List.all_eq_true.1 h.1 (l.getD j default) (by
          rw [List.getD_eq_getElem?_getD, List.getElem?_eq_getElem hj]
          exact List.getElem_mem hj)
        simpa using this
      | succ i => exact okDsts_get h.2 i j d (by omega) hj (by simpa using hd)

theorem okPairs_get {ms ds : List Nat} (h : okPairs ms ds os = true) {i j : Nat} (hi : i < os.length) (hj : j < i) : (ms.getD i 0).testBit j = true ∨ (commutes (os.getD j default) (os.getD i default) = true ∧ dstIn ds (os.getD j default) = true ∧ dstIn ds (os.getD i default) = true) := by
  have h1 := List.all_eq_true.1 h i (by simpa using hi)
  have h2 := List.all_eq_true.1 h1 j (by simpa using hj)
  simpa [and_assoc] using h2

theorem dstIn_spec {ds : List Nat} {o : O} (h : dstIn ds o = true) {d : Nat} (hd : o.d = some d) : d ∈ ds := by
  unfold dstIn at h
  rw [hd] at h
  simpa using h

def pend (n : Nat) (listed : Array Bool) : List Nat := (List.range n).filter fun i => !listed.getD i true

theorem pend_sorted (n : Nat) (listed : Array Bool) : (pend n listed).Pairwise (· < ·) := List.Pairwise.filter _ List.pairwise_lt_range

theorem pend_set {n i : Nat} {listed : Array Bool} {pre post : List Nat} (hs : listed.size = n) (h : pend n listed = pre ++ i :: post) : pend n (listed.setIfInBounds i true) = pre ++ post := by
  have hsort := pend_sorted n listed
  rw [h] at hsort
  have hi : i ∈ pend n listed := by rw [h]; simp
  have hin : i < n := by unfold pend at hi; simp at hi; exact hi.1
  have h1 : pend n (listed.setIfInBounds i true) = (pend n listed).filter (fun j => j != i) := by
    unfold pend
    rw [List.filter_filter]
    apply List.filter_congr
    intro j hj
    simp only [Array.getD_eq_getD_getElem?]
    by_cases hji : j = i
    · subst hji
      rw [Array.getElem?_setIfInBounds_self_of_lt (by omega)]
      simp
    · rw [Array.getElem?_setIfInBounds_ne (Ne.symm hji)]
      have : (j != i) = true := by simpa using hji
      rw [this, Bool.true_and]
  rw [h1, h, List.filter_append, List.filter_cons]
  simp only [bne_self_eq_false, Bool.false_eq_true, if_false]
  rw [List.pairwise_append] at hsort
  obtain ⟨_, h2, h3⟩ := hsort
  rw [List.pairwise_cons] at h2
  rw [List.filter_eq_self.2 fun j hj => ?_, List.filter_eq_self.2 fun j hj => ?_]
  · have := h2.1 j hj
    simp; omega
  · have := h3 j hj i (by simp)
    simp; omega

theorem any_sound (hG : ∀ f args args' r, G f args args' r → Pact P cx.fm f args args' r) (hN : ∀ b, ¬ cx.N b) (hm : m ≠ .own) (hm2 : m = .fresh → ∀ b, ¬ cx.M b) {Q : Exit → Act → World → Prop}
    {fx : List Nat} {f0 : Vl} (hQ : ∀ e a w, Kt e → Rel cx nt e a w → Fx fx f0 a → Q .normal a w) {ds : List Nat} (hoff : os.all (offO fx) = true) (hok : okDraw P cx.fm nt ops ds os = true) : ∀ (fuel : Nat) (listed : Array Bool) (e : Env) (a : Act) (w : World), fuel = (pend ops.size listed).length → listed.size = ops.size → Closed ops listed →
      Rel cx nt e a w → Fx fx f0 a → Fresh (fun d => d ∈ ds ∧ ∃ i, i ∈ pend ops.size listed ∧ (os.getD i default).d = some d) e → wpL G m ((pend ops.size listed).map fun i => os.getD i default) Kt e → wpAny P .any ops Q fuel listed a w := by
  simp only [okDraw, Bool.and_eq_true] at hok
  obtain ⟨⟨⟨⟨k1, k2⟩, k3⟩, k4⟩, k5⟩ := hok
  obtain ⟨hlen, hO⟩ := okRow_get k1
  have hE := okEdges_get k2
  have hD := okDsts_get k3
  have hM := masks_spec (ops := ops) ops.toList [] (fun j hj => by simp) (fun i hi => by simp at hi) (fun i j h => by simp at h)
  have hready : ∀ (listed : Array Bool) (i : Nat), i ∈ Region.ready .any ops listed ↔ i ∈ pend ops.size listed ∧ ∃ x, ops[i]? = some x ∧ ∀ e, e ∈ x.after → Region.binds .any e = true → listed.getD e.on false = true := by
    intro listed i
    unfold Region.ready pend
    simp only [List.mem_filter, List.mem_range, Bool.and_eq_true, and_assoc]
    refine and_congr_right fun hi => and_congr_right fun _ => ?_
    rw [Array.getElem?_eq_getElem hi]
    simp only [Option.map_some, Option.getD_some, Option.some.injEq, exists_eq_left', Array.all_eq_true', Bool.or_eq_true, Bool.not_eq_true']
    exact ⟨fun h e he hb => (h e he).resolve_left (by simp [hb]), fun h e he => by
      cases hb : Region.binds .any e with
      | false => exact .inl rfl
      | true => exact .inr (h e he hb)⟩
  intro fuel
  induction fuel with
  | zero =>
    intro listed e a w hf _ _ hr hfx _ hw
    have h0 : pend ops.size listed = [] := List.length_eq_zero_iff.1 hf.symm
    rw [h0] at hw
    refine ⟨List.eq_nil_iff_forall_not_mem.2 fun i hi => ?_, hQ e a w hw hr hfx⟩
    have := ((hready listed i).1 hi).1
    rw [h0] at this; simp at this
  | succ fuel ih =>
    intro listed e a w hf hsz hcl hr hfx hfr hw
    refine ⟨fun h0 => ?_, fun i hi => ?_⟩
    · exfalso
      cases hp : pend ops.size listed with
      | nil => rw [hp] at hf; simp at hf
      | cons i0 rest =>
        have hi0 : i0 ∈ pend ops.size listed := by rw [hp]; simp
        have hi0' := hi0
        unfold pend at hi0'
        simp only [List.mem_filter, List.mem_range] at hi0'
        have hs := pend_sorted ops.size listed
        rw [hp, List.pairwise_cons] at hs
        have : i0 ∈ Region.ready .any ops listed := by
          rw [hready]
          refine ⟨hi0, _, Array.getElem?_eq_getElem hi0'.1, fun ed he hb => ?_⟩
          have hlt := hE i0 ops[i0] (by simp [hi0'.1]) ed he hb
          rw [Nat.zero_add] at hlt
          cases hl : listed.getD ed.on false with
          | true => rfl
          | false =>
            exfalso
            have hmem : ed.on ∈ pend ops.size listed := by
              unfold pend
              simp only [List.mem_filter, List.mem_range]
              refine ⟨by omega, ?_⟩
              rw [Array.getD_eq_getD_getElem?] at hl ⊢
              rw [Array.getElem?_eq_getElem (by omega)] at hl ⊢
              simpa using hl
            rw [hp] at hmem
            rcases List.mem_cons.1 hmem with h1 | h1
            · omega
            · have := hs.1 _ h1; omega
        rw [h0] at this; simp at this
    · obtain ⟨hip, x, hx, hed⟩ := (hready listed i).1 hi
      obtain ⟨pre, post, hpp⟩ := List.append_of_mem hip
      have hsort := pend_sorted ops.size listed
      rw [hpp, List.pairwise_append] at hsort
      obtain ⟨s1, s2, s3⟩ := hsort
      rw [List.pairwise_cons] at s2
      have hin : i < ops.size := by unfold pend at hip; simp at hip; exact hip.1
      have hil : i < os.length := by rw [hlen]; simpa using hin
      have hmemlt : ∀ j, j ∈ pend ops.size listed → j < os.length := fun j hj => by
        unfold pend at hj; simp at hj; rw [hlen]; simpa using hj.1
      rw [hpp, List.map_append, List.map_cons] at hw
      have hb := bubble (D := fun d => d ∈ ds ∧ ∃ i, i ∈ pend ops.size listed ∧ (os.getD i default).d = some d) (pre.map fun i => os.getD i default) hfr (fun p hp => by
          obtain ⟨j, hj, rfl⟩ := List.mem_map.1 hp
          have hji : j < i := s3 j hj i (by simp)
          suffices hsuf : commutes (os.getD j default) (os.getD i default) = true ∧ dstIn ds (os.getD j default) = true ∧ dstIn ds (os.getD i default) = true from
            ⟨hsuf.1, fun d hd => ⟨dstIn_spec hsuf.2.1 hd, j, by rw [hpp]; simp [hj], hd⟩, fun d hd => ⟨dstIn_spec hsuf.2.2 hd, i, hip, hd⟩⟩
          refine (okPairs_get k4 hil hji).resolve_left fun ht => ?_
          have h1 := hM i j ht listed x hcl hx hed
          have hjp : j ∈ pend ops.size listed := by rw [hpp]; simp [hj]
          unfold pend at hjp
          simp only [List.mem_filter, Bool.not_eq_true'] at hjp
          rw [getD_tf h1] at hjp
          cases hjp.2) (by
          rw [List.map_map, List.pairwise_map]
          refine (List.Pairwise.and_mem.1 s1).imp fun {p q} ⟨hp, hq, hlt⟩ d hd => ?_
          exact hD p q d hlt (hmemlt q (by rw [hpp]; simp [hq])) hd) hw
      rw [← List.map_append] at hb
      have hset := pend_set hsz hpp
      have hox := hO i x (by simpa using hx)
      have hmem : os.getD i default ∈ os := by
        rw [List.getD_eq_getElem?_getD, List.getElem?_eq_getElem hil]
        exact List.getElem_mem hil
      have hrO : (os.getD i default).q.rOnly = true := List.all_eq_true.1 k5 _ hmem
      have hdx : x.dst.all (fun d => !fx.contains d) = true := by
        have h1 := hox
        simp only [okO, Bool.and_eq_true, beq_iff_eq] at h1
        rw [← h1.1.1.1]
        exact List.all_eq_true.1 hoff _ hmem
      have hfr' : Fresh (fun d => d ∈ ds ∧ ∃ j, j ∈ pre ++ post ∧ (os.getD j default).d = some d) e := fun d ⟨hds, j, hj, hd⟩ => hfr d ⟨hds, j, by
        rw [hpp]
        simp only [List.mem_append, List.mem_cons] at hj ⊢
        rcases hj with h1 | h1
        · exact .inl h1
        · exact .inr (.inr h1), hd⟩
      have hstep := fresh_stepO hm hfr' (fun d hd ⟨_, j, hj, hjd⟩ => by
        rcases List.mem_append.1 hj with h1 | h1
        · exact hD j i d (s3 j h1 i (by simp)) hil hjd hd
        · exact hD i j d (s2.1 j h1) (hmemlt j (by rw [hpp]; simp [h1])) hd hjd) hrO hb
      have hdoes := stepO_sound hG hN hm hm2 hr hox hstep
      have hrec : ∀ e' a' w', (wpL G m ((pre ++ post).map fun i => os.getD i default) Kt e' ∧ Fresh (fun d => d ∈ ds ∧ ∃ j, j ∈ pre ++ post ∧ (os.getD j default).d = some d) e') → Rel cx nt e' a' w' → Fx fx f0 a' → wpAny P .any ops Q fuel (listed.setIfInBounds i true) a' w' := by
        intro e' a' w' ⟨h1, h2⟩ h3 hfx'
        refine ih (listed.setIfInBounds i true) e' a' w' ?_ (by simpa using hsz) (fun i' x' hx' hl' ed he hbd => ?_) h3 hfx' (by rw [hset]; exact h2) (by rw [hset]; exact h1)
        · rw [hset]
          rw [hpp] at hf
          simp only [List.length_append, List.length_cons] at hf ⊢
          omega
        · have hold : listed.getD ed.on false = true := by
            by_cases hii : i' = i
            · subst hii
              rw [hx] at hx'
              cases hx'
              exact hed ed he hbd
            · refine hcl i' x' hx' ?_ ed he hbd
              rw [Array.getD_eq_getD_getElem?] at hl' ⊢
              rwa [Array.getElem?_setIfInBounds_ne (Ne.symm hii)] at hl'
          by_cases hei : ed.on = i
          · rw [hei, Array.getD_eq_getD_getElem?, Array.getElem?_setIfInBounds_self_of_lt (by omega)]; rfl
          · rw [Array.getD_eq_getD_getElem?] at hold ⊢
            rwa [Array.getElem?_setIfInBounds_ne (Ne.symm hei)]
      unfold wpOp
      rw [hx]
      simp only
      unfold Does at hdoes
      split
      · rename_i hwt
        rw [if_pos hwt] at hdoes
        exact .inl (Oper.wp_mono (fun a' w' ⟨⟨e', h1, h2⟩, v, ds, h3⟩ => hrec e' a' w' h1 h2 (h3 ▸ hfx.put hdx v ds)) (wp_put (hdoes Q)))
      · rename_i hwt
        rw [if_neg hwt] at hdoes
        obtain ⟨e', h1, h2⟩ := hdoes
        exact hrec e' _ w h1 h2 (hfx.put hdx undef a.defers)

end
end Go.Mch
/- Code and functions against the model's: the soundness of the machine. -/
namespace Go.Mch

def okC (P : Program) (fm : Nat → Nat) (nt : Nat) : C → Code → Bool
  | .skip, .skip => true
  | .region none os _, .region _ ops dr' => !dr' && okOps P fm nt ops os ops.toList
  | .region (some ds) os _, .region _ ops dr' => dr' && okDraw P fm nt ops ds os
  | .seq a b, .seq a' b' => okC P fm nt a a' && okC P fm nt b b'
  | .cond c a b, .cond c' a' b' => okOpd fm c c' && (okC P fm nt a a' && okC P fm nt b b')
  | .block id b, .block id' b' => id == id' && okC P fm nt b b'
  | .loop b, .loop b' => okC P fm nt b b'
  | .exit id, .exit id' => id == id'
  | .ret, .ret => true
  | .stuck, _ => true
  | _, _ => false

/-- These slots are not written. -/
def offC (fx : List Nat) : C → Bool
  | .region _ os _ => os.all (offO fx)
  | .seq a b => offC fx a && offC fx b
  | .cond _ a b => offC fx a && offC fx b
  | .block _ b => offC fx b
  | .loop b => offC fx b
  | _ => true

def Lift (cx : Cx) (nt : Nat) (fx : List Nat) (f0 : Vl) (R : X → Env → Prop) : Exit → Act → World → Prop
  | .normal, a, w => ∃ e, R .nrm e ∧ Rel cx nt e a w ∧ Fx fx f0 a
  | .exit id, a, w => ∃ e, R (.ext id) e ∧ Rel cx nt e a w ∧ Fx fx f0 a
  | .ret, a, w => ∃ e, R .ret e ∧ Rel cx nt e a w ∧ Fx fx f0 a
  | _, _, _ => False

section
variable {P : Program} {cx : Cx} {nt : Nat} {G : Rl} {m : K}

mutual
theorem inside_hits {ks : List Nat} {r : Nat} : ∀ x : V, x.inside ks = true → x.hits r [] = true → ks.contains r = true
  | .val _, _, h => by simp [V.hits] at h
  | .sref r' p sz off len, h1, h2 => by
    simp only [V.hits, Bool.and_eq_true, beq_iff_eq] at h2
    simp only [V.inside] at h1
    rw [h2.1]; exact h1
  | .pref r' p off, h1, h2 => by
    simp only [V.hits, Bool.and_eq_true, beq_iff_eq] at h2
    simp only [V.inside] at h1
    rw [h2.1]; exact h1
  | .vagg vs, h1, h2 => by
    simp only [V.hits, V.inside] at h1 h2
    exact insideL_hits vs h1 h2
  | .vtup vs, h1, h2 => by
    simp only [V.hits, V.inside] at h1 h2
    exact insideL_hits vs h1 h2
  | .same r', h1, h2 => by
    simp only [V.hits, Bool.and_eq_true, beq_iff_eq] at h2
    simp only [V.inside] at h1
    rw [h2.1]; exact h1
  | .vfn _ r', h1, h2 => by
    simp only [V.hits, Bool.and_eq_true, beq_iff_eq] at h2
    simp only [V.inside] at h1
    rw [h2.1]; exact h1
theorem insideL_hits {ks : List Nat} {r : Nat} : ∀ vs : List V, V.insideL ks vs = true → V.hitsL r [] vs = true → ks.contains r = true
  | [], _, h => by simp [V.hitsL] at h
  | v :: vs, h1, h2 => by
    simp only [V.insideL, V.hitsL, Bool.and_eq_true, Bool.or_eq_true] at h1 h2
    rcases h2 with h2 | h2
    · exact inside_hits v h1.1 h2
    · exact insideL_hits vs h1.2 h2
end

theorem keep_some {e : Env} {ks : List Nat} {s : Nat} {x : V} (h : e.keep ks s = some x) : ks.contains s = true ∧ e s = some x ∧ x.inside ks = true := by
  unfold Env.keep at h
  split at h
  · rename_i hs
    cases hes : e s with
    | none => rw [hes] at h; cases h
    | some y =>
      rw [hes] at h
      simp only at h
      split at h
      · rename_i hi; cases h; exact ⟨hs, rfl, hi⟩
      · cases h
  · cases h

theorem Rel.keep {e : Env} {a : Act} {w : World} (h : Rel cx nt e a w) (ks : List Nat) : Rel cx nt (e.keep ks) a w := by
  refine ⟨h.r.sub (fun s x hx => (keep_some hx).2.1) (fun s x r hx hr => ?_) (fun _ _ _ => rfl), fun j hj => ?_, h.size, h.defers⟩
  · obtain ⟨_, h1, h2⟩ := keep_some hx
    obtain ⟨t, ht⟩ := h.r.root h1 hr
    have := inside_hits x h2 hr
    rw [ht]
    have hc := this
    simp only [Env.keep, hc, if_true, ht, V.inside]
  · cases hx : e.keep ks j with
    | none => rfl
    | some x => have := (keep_some hx).2.1; rw [h.dom j hj] at this; cases this

theorem soft_some {e : Env} {d s : Nat} {x : V} (h : e.soft d s = some x) : e s = some x ∧ x.hits d [] = false := by
  unfold Env.soft at h
  split at h
  · rename_i hs
    subst hs
    unfold softV at h
    split at h
    · rename_i t ht
      split at h
      · cases h; exact ⟨ht, rfl⟩
      · cases h
    · cases h
  · simp only [Env.kill] at h
    cases hes : e s with
    | none => rw [hes] at h; cases h
    | some y =>
      rw [hes] at h
      simp only at h
      split at h
      · cases h
      · rename_i hh; cases h; exact ⟨rfl, by simpa using hh⟩

theorem R.softR {e : Env} {vl : Vl} {w : World} (h : R cx e vl w) (d : Nat) : R cx (e.soft d) vl w :=
  h.sub (fun s x hx => (soft_some hx).1) (fun s x r hx hr => by
    obtain ⟨h2, h3⟩ := soft_some hx
    obtain ⟨t, ht⟩ := h.root h2 hr
    have hne : r ≠ d := fun e' => by subst e'; rw [h3] at hr; cases hr
    rw [ht]
    simp [Env.soft, hne, Env.kill, ht, V.hits]) (fun _ _ _ => rfl)

theorem Rel.softs {a : Act} {w : World} : ∀ (ds : List Nat) {e : Env}, Rel cx nt e a w → Rel cx nt (e.softs ds) a w
  | [], _, h => h
  | d :: ds, e, h => by
    refine Rel.softs ds ⟨h.r.softR d, fun j hj => ?_, h.size, h.defers⟩
    cases hx : e.soft d j with
    | none => rfl
    | some x => have := (soft_some hx).1; rw [h.dom j hj] at this; cases this

theorem fresh_soft (e : Env) (d : Nat) : Fresh (fun x => x = d) (e.soft d) := fun x hx => by
  subst hx
  refine ⟨fun t ht => ?_, fun s y hy => (soft_some hy).2⟩
  simp only [Env.soft, if_true] at ht
  unfold softV at ht
  split at ht
  · split at ht
    · rename_i hn; cases ht; exact ⟨_, rfl, hn⟩
    · cases ht
  · cases ht

theorem fresh_softs : ∀ (ds : List Nat) (e : Env) {D : Nat → Prop}, Fresh D e → Fresh (fun d => D d ∨ d ∈ ds) (e.softs ds)
  | [], e, D, h => fun d hd => h d (by simpa using hd)
  | d :: ds, e, D, h => by
    have h1 : Fresh (fun x => D x ∨ x = d) (e.soft d) := fun x hx => by
      rcases hx with hx | hx
      · exact (h.less (fun s x hx => .inl (soft_some hx).1)) x hx
      · exact fresh_soft e d x hx
    have := fresh_softs ds (e.soft d) h1
    intro x hx
    refine this x ?_
    rcases hx with hx | hx
    · exact .inl (.inl hx)
    · rcases List.mem_cons.1 hx with hx | hx
      · exact .inl (.inr hx)
      · exact .inr hx

theorem Rel.drew {e : Env} {a : Act} {w : World} (h : Rel cx nt e a w) : Rel cx nt e a { w with drawn := w.drawn + 1 } := ⟨h.r.drew, h.dom, h.size, h.defers⟩

theorem pend_all (n : Nat) : pend n (Array.replicate n false) = List.range n := by
  unfold pend
  apply List.filter_eq_self.2
  intro i hi
  simp only [List.mem_range] at hi
  simp [Array.getD_eq_getD_getElem?, hi]

theorem code_sound (hP : P.follows .mixedOrders = true) (hG : ∀ f args args' r, G f args args' r → Pact P cx.fm f args args' r) (hN : ∀ b, ¬ cx.N b) (hm : m ≠ .own) (hm2 : m = .fresh → ∀ b, ¬ cx.M b) {fx : List Nat} {f0 : Vl} :
    ∀ (c : C) (c' : Code) {R : X → Env → Prop} {e : Env} {a : Act} {w : World}, okC P cx.fm nt c c' = true → offC fx c = true → wp G m c R e → Rel cx nt e a w → Fx fx f0 a → c'.wp P (Lift cx nt fx f0 R) a w := by
  intro c
  induction c with
  | skip =>
    intro c' R e a w ho hof hw h hfx
    cases c' <;> simp only [okC] at ho <;> try cases ho
    exact wp_skip ⟨e, hw, h, hfx⟩
  | region dr os ks =>
    intro c' R e a w ho hof hw h hfx
    have hQ : ∀ e a w, kReg R ks e → Rel cx nt e a w → Fx fx f0 a → Lift cx nt fx f0 R .normal a w := fun e a w h1 h2 h3 => ⟨_, h1, h2.keep ks, h3⟩
    simp only [offC] at hof
    cases dr with
    | none =>
      cases c' <;> simp only [okC] at ho <;> try cases ho
      rename_i id ops dr'
      simp only [Bool.and_eq_true, Bool.not_eq_true'] at ho
      obtain ⟨rfl, ho⟩ := ho
      simp only [wp] at hw
      refine wp_region ?_
      have := row_sound hG hN hm hm2 hQ os ops.toList 0 e a w ho hof hfx (fun j hj => by simp) h hw
      rwa [Array.length_toList, ← List.range_eq_range'] at this
    | some ds =>
      cases c' <;> simp only [okC] at ho <;> try cases ho
      rename_i id ops dr'
      simp only [Bool.and_eq_true] at ho
      obtain ⟨rfl, ho⟩ := ho
      simp only [wp] at hw
      refine wp_region_any hP ?_
      have hlen : os.length = ops.size := by
        have h1 := ho
        simp only [okDraw, Bool.and_eq_true] at h1
        have := (okRow_get (cx := cx) h1.1.1.1.1).1
        simpa using this
      have hmap : ((pend ops.size (Array.replicate ops.size false)).map fun i => os.getD i default) = os := by
        rw [pend_all, ← hlen]
        apply List.ext_getElem
        · simp
        · intro i h1 h2
          simp [List.getD_eq_getElem?_getD]
          rw [List.getElem?_eq_getElem h2]; rfl
      refine any_sound hG hN hm hm2 hQ hof ho ops.size _ (e.softs ds) a _ (by rw [pend_all]; simp) (by simp) (fun i x hx hl => ?_) ((h.softs _).drew) hfx (fun d hd => ?_) (by rw [hmap]; exact hw)
      · exfalso
        have hi : i < ops.size := by
          rcases Nat.lt_or_ge i ops.size with h' | h'
          · exact h'
          · rw [Array.getElem?_eq_none h'] at hx; cases hx
        simp [Array.getD_eq_getD_getElem?, hi] at hl
      · exact fresh_softs ds e (D := fun _ => False) (fun _ h => h.elim) d (.inr hd.1)
  | seq x y ihx ihy =>
    intro c' R e a w ho hof hw h hfx
    cases c' <;> simp only [okC] at ho <;> try cases ho
    rename_i x' y'
    simp only [Bool.and_eq_true] at ho
    simp only [offC, Bool.and_eq_true] at hof
    refine wp_seq (Go.wp_mono (ihx x' ho.1 hof.1 hw h hfx) fun en a' w' hl => ?_)
    cases en with
    | normal =>
      obtain ⟨e', h1, h2, h3⟩ := hl
      exact ihy y' ho.2 hof.2 h1 h2 h3
    | exit id => exact hl
    | ret => exact hl
    | goto l => exact hl.elim
    | panic c => exact hl.elim
    | outgrown => exact hl.elim
  | cond c x y ihx ihy =>
    intro c' R e a w ho hof hw h hfx
    cases c' <;> simp only [okC] at ho <;> try cases ho
    rename_i c' x' y'
    simp only [Bool.and_eq_true] at ho
    obtain ⟨t, h1, h2⟩ := hw
    simp only [offC, Bool.and_eq_true] at hof
    have hv := ar_sc (h.opd ho.1 (asB_spec h1))
    refine wp_cond hv ?_
    cases t
    · exact ihy y' ho.2.2 hof.2 h2 h hfx
    · exact ihx x' ho.2.1 hof.1 h2 h hfx
  | block id b ih =>
    intro c' R e a w ho hof hw h hfx
    cases c' <;> simp only [okC] at ho <;> try cases ho
    rename_i id' b'
    simp only [Bool.and_eq_true, beq_iff_eq] at ho
    obtain ⟨rfl, ho⟩ := ho
    simp only [offC] at hof
    refine wp_block (Go.wp_mono (ih b' ho hof hw h hfx) fun en a' w' hl => ?_)
    cases en with
    | normal => exact hl
    | exit i =>
      obtain ⟨e', h1, h2, h3⟩ := hl
      simp only [X.out] at h1
      simp only [Exit.inBlock]
      split
      · rename_i hi; rw [if_pos hi] at h1; exact ⟨e', h1, h2, h3⟩
      · rename_i hi; rw [if_neg hi] at h1; exact ⟨e', h1, h2, h3⟩
    | ret => exact hl
    | goto l => exact hl.elim
    | panic c => exact hl.elim
    | outgrown => exact hl.elim
  | loop b ih =>
    intro c' R e a w ho hof hw h hfx
    cases c' <;> simp only [okC] at ho <;> try cases ho
    rename_i b'
    simp only [offC] at hof
    have key := hw (fun e => ∀ a w, Rel cx nt e a w → Fx fx f0 a → ∀ (fr : Frame) (k : List Item) (cs : List Frame), ∃ en a' w', Lift cx nt fx f0 R en a' w' ∧ Arrives P (lone (fr.at a (.code b' :: .inLoop b' :: k)) cs w) fr k cs en a' w') (fun e1 he1 a1 w1 hr1 hfx1 fr k cs => by
      obtain ⟨en, a2, w2, hq, harr⟩ := ih b' ho hof he1 hr1 hfx1 fr (.inLoop b' :: k) cs
      cases en with
      | normal =>
        obtain ⟨e2, h1, h2, h3⟩ := hq
        obtain ⟨en, a3, w3, hq3, harr3⟩ := h1 a2 w2 h2 h3 fr k cs
        exact ⟨en, a3, w3, hq3, .of_steps (Steps.trans harr (.one step_inLoop)) harr3⟩
      | exit id => exact ⟨.exit id, a2, w2, hq, .pass (x := .inLoop b') rfl (fun _ _ => .inl (by simp)) harr⟩
      | ret => exact ⟨.ret, a2, w2, hq, .pass (x := .inLoop b') rfl (fun _ _ => .inl (by simp)) harr⟩
      | goto l => exact hq.elim
      | panic c => exact hq.elim
      | outgrown => exact hq.elim)
    intro fr k cs
    obtain ⟨en, a', w', hq, harr⟩ := key a w h hfx fr k cs
    exact ⟨en, a', w', hq, .of_steps (.one step_loop) harr⟩
  | exit id =>
    intro c' R e a w ho hof hw h hfx
    cases c' <;> simp only [okC] at ho <;> try cases ho
    rename_i id'
    simp only [beq_iff_eq] at ho
    subst ho
    exact wp_exit ⟨e, hw, h, hfx⟩
  | ret =>
    intro c' R e a w ho hof hw h hfx
    cases c' <;> simp only [okC] at ho <;> try cases ho
    exact wp_ret ⟨e, hw, h, hfx⟩
  | stuck =>
    intro c' R e a w ho hof hw h hfx
    exact hw.elim

end
end Go.Mch
/- Functions against the model's: what the machine calls good, the model does. -/
namespace Go.Mch

def okRv (P : Program) : RV → ResultVar → Bool
  | .t s, .tmp s' => s == s'
  | .cell s n, .cell s' t => s == s' && okN P t n
  | _, _ => false

def okRs (P : Program) : List RV → List ResultVar → Bool
  | [], [] => true
  | r :: l, r' :: l' => okRv P r r' && okRs P l l'
  | _, _ => false

def okF (P : Program) (fm : Nat → Nat) (F : F) (fn : Func) : Bool :=
  (match fn.body with
   | some c => okC P fm fn.ntmps F.body c
   | none => false) && offC F.fix F.body && okRs P F.rs fn.results.toList && decide (F.np ≤ fn.ntmps) && !(fn.name == "runtime.NumGoroutine")

section
variable {P : Program} {cx : Cx} {nt : Nat} {G : Rl} {m : K} {a : Act} {w : World} {e : Env}

theorem rv_read (h : Rel cx nt e a w) {r : RV} {r' : ResultVar} (ho : okRv P r r' = true) {v : V} (he : e.rv r = some v) {f : ResultVar → Sem Value} (hf : ∀ t, f (.tmp t) = pure (a.tmps.getD t undef))
    (hf2 : ∀ s t, f (.cell s t) = do loadVar t (← asAddr (a.tmps.getD s undef))) : ∃ x, (f r').run P w = .ok x w ∧ AR cx e a w x v := by
  cases r with
  | t s =>
    cases r' <;> simp only [okRv] at ho <;> try cases ho
    simp only [beq_iff_eq] at ho
    subst ho
    exact ⟨_, by rw [hf]; simp, h.r.peek he⟩
  | cell s n =>
    cases r' <;> simp only [okRv] at ho <;> try cases ho
    simp only [Bool.and_eq_true, beq_iff_eq] at ho
    obtain ⟨rfl, hn⟩ := ho
    simp only [Env.rv] at he
    cases hp : e.peek s with
    | none => rw [hp] at he; cases he
    | some p =>
      rw [hp] at he
      obtain ⟨x, h1, h2⟩ := ld_read (P := P) h hn (h.r.peek hp) he
      refine ⟨x, ?_, h2⟩
      rw [hf2]
      have hv : vlA a s = a.tmps.getD s undef := rfl
      rw [hv] at h1
      simp only [Instr.loadAt, Sem.run_bind] at h1
      simp only [Sem.run_bind]
      have : (Instr.sureAddr (a.tmps.getD s undef)).run P w = (asAddr (a.tmps.getD s undef)).run P w ∨ ∃ y, (Instr.sureAddr (a.tmps.getD s undef)).run P w = .halt y w := by
        cases a.tmps.getD s undef <;> first | (left; rfl) | skip
        all_goals rename_i z; cases z <;> first | (left; rfl) | (right; exact ⟨_, rfl⟩)
      rcases this with h3 | ⟨y, h3⟩
      · rw [← h3]; exact h1
      · rw [h3] at h1; simp at h1

theorem rvs_read (h : Rel cx nt e a w) {f : ResultVar → Sem Value} (hf : ∀ t, f (.tmp t) = pure (a.tmps.getD t undef)) (hf2 : ∀ s t, f (.cell s t) = do loadVar t (← asAddr (a.tmps.getD s undef))) :
    ∀ (rs : List RV) (l : List ResultVar) {vs : List V}, okRs P rs l = true → e.rvs rs = some vs → ∃ xs : List Value, (l.mapM f).run P w = .ok xs w ∧ xs.length = vs.length ∧ ∀ g i, (∀ j, j < xs.length → g (i + j) = xs.getD j undef) → arepL cx.fm (okR cx (Own e (vlA a) w)) e (vlA a) w g i vs
  | [], [], vs, _, he => by
    simp only [Env.rvs, Option.some.injEq] at he
    subst he
    exact ⟨[], by simp, rfl, fun _ _ _ => trivial⟩
  | r :: rs, r' :: l, vs, ho, he => by
    simp only [okRs, Bool.and_eq_true] at ho
    simp only [Env.rvs] at he
    cases hx : e.rv r with
    | none => rw [hx] at he; cases he
    | some v =>
      rw [hx] at he
      simp only [Option.bind_some, Option.map_eq_some_iff] at he
      obtain ⟨vs', h1, rfl⟩ := he
      obtain ⟨x, g1, g2⟩ := rv_read h ho.1 hx hf hf2
      obtain ⟨xs, k1, k2, k3⟩ := rvs_read h hf hf2 rs l ho.2 h1
      refine ⟨x :: xs, by simp only [List.mapM_cons, Sem.run_bind, g1, Result.andThen_ok, k1, Sem.run_pure], by simp [k2], fun g i hg => ⟨?_, k3 g (i + 1) fun j hj => ?_⟩⟩
      · have := hg 0 (by simp)
        simp only [Nat.add_zero, List.getD_cons_zero] at this
        rw [this]; exact g2
      · have := hg (j + 1) (by simpa using hj)
        simp only [List.getD_cons_succ] at this
        rw [← this, show i + 1 + j = i + (j + 1) from by omega]
  | [], _ :: _, _, h, _ => by simp [okRs] at h
  | _ :: _, [], _, h, _ => by simp [okRs] at h

theorem result_sound (h : Rel cx nt e a w) {fn : Func} {rs : List RV} (hrs : okRs P rs fn.results.toList = true) {r : T} {e1 : Env} (he : e.result rs = some (r, e1)) :
    ∃ v vl, (results fn a.tmps).run P w = .ok v w ∧ vl nt = v ∧ R cx (e1.add nt (.val r)) vl w ∧ Clr e1 nt ∧ ∀ s, s < nt → vl s = vlA a s := by
  have run : ∀ vs, e.rvs rs = some vs → ∃ xs : List Value, (results fn a.tmps).run P w = .ok (if h : xs.toArray.size = 1 then xs.toArray[0] else .tuple xs.toArray) w ∧ xs.length = vs.length ∧ ∀ g i, (∀ j, j < xs.length → g (i + j) = xs.getD j undef) → arepL cx.fm (okR cx (Own e (vlA a) w)) e (vlA a) w g i vs := by
    intro vs hv
    have := rvs_read (P := P) h (f := fun | .tmp t => pure (a.tmps.getD t undef) | .cell s t => do loadVar t (← asAddr (a.tmps.getD s undef))) (fun _ => rfl) (fun _ _ => rfl) rs _ hrs hv
    obtain ⟨xs, k1, k2, k3⟩ := this
    refine ⟨xs, ?_, k2, k3⟩
    have hres : results fn a.tmps = (do
        let vs ← fn.results.mapM fun | .tmp t => pure (a.tmps.getD t undef) | .cell s t => do loadVar t (← asAddr (a.tmps.getD s undef))
        pure (if h : vs.size = 1 then vs[0] else .tuple vs)) := rfl
    rw [hres, Array.mapM_eq_mapM_toList]
    simp only [Sem.run_bind, Sem.run_map]
    rw [k1]
    simp only [Result.andThen_ok, Sem.run_pure]
  have many : rs.length ≠ 1 → (e.rvs rs).bind (fun vs => (e.takeL vs).map fun x => (T.tup x.1, x.2)) = some (r, e1) → ∃ v vl, (results fn a.tmps).run P w = .ok v w ∧ vl nt = v ∧ R cx (e1.add nt (.val r)) vl w ∧ Clr e1 nt ∧ ∀ s, s < nt → vl s = vlA a s := by
    intro hne he
    cases hv : e.rvs rs with
    | none => rw [hv] at he; cases he
    | some vs =>
      rw [hv] at he
      simp only [Option.bind_some, Option.map_eq_some_iff] at he
      obtain ⟨⟨ts, e2⟩, h1, h2⟩ := he
      cases h2
      obtain ⟨xs, g1, g2, g3⟩ := run vs hv
      have g4 := g3 (fun j => xs.getD j undef) 0 (fun j _ => by rw [Nat.zero_add])
      obtain ⟨vl, k1, ⟨us, k2, k3, k4⟩, k5, k6, _, _⟩ := takeL_sound vs _ 0 nt e (vlA a) h.r h.clr (Nat.le_refl _) (arwL_of h.dom vs _ 0 g4) h1
      have hlen : ∀ (rs : List RV) {vs : List V}, e.rvs rs = some vs → vs.length = rs.length := by
        intro rs
        induction rs with
        | nil => intro vs h; simp only [Env.rvs, Option.some.injEq] at h; subst h; rfl
        | cons r rs ih =>
          intro vs h
          simp only [Env.rvs] at h
          cases hr : e.rv r with
          | none => rw [hr] at h; cases h
          | some v =>
            rw [hr] at h
            simp only [Option.bind_some, Option.map_eq_some_iff] at h
            obtain ⟨vs', h1, rfl⟩ := h
            simp [ih h1]
      have hl := hlen rs hv
      refine ⟨_, vl, g1, ?_, k5, k6, k1⟩
      rw [dif_neg (by simp; omega), k2]
      congr 1
      refine arr_eq (by simp [k3, g2]) fun j hj => ?_
      rw [k4 j (by omega), Nat.zero_add]
      simp [Array.getD_eq_getD_getElem?, List.getD_eq_getElem?_getD]
  match rs, many, run, he with
  | [], many, _, he => exact many (by simp) he
  | [r0], _, run, he =>
    simp only [Env.result] at he
    cases hx : e.rv r0 with
    | none => rw [hx] at he; cases he
    | some v =>
      rw [hx] at he
      simp only [Option.bind_some] at he
      obtain ⟨xs, g1, g2, g3⟩ := run [v] (by simp only [Env.rvs, hx, Option.bind_some, Option.map_some])
      have hx1 : ∃ x, xs = [x] := by
        match xs, g2 with
        | [x], _ => exact ⟨x, rfl⟩
      obtain ⟨x, rfl⟩ := hx1
      have g4 := g3 (fun _ => x) 0 (fun j hj => by simp at hj; subst hj; rfl)
      obtain ⟨vl, h1, h2, h3, h4⟩ := h.take g4.1 he
      exact ⟨_, vl, g1, by rw [h2]; rfl, h3, h4, h1⟩
  | _ :: _ :: _, many, _, he => exact many (by simp) he

end

theorem fn_sound {P : Program} {fm : Nat → Nat} {G : Rl} (hP : P.follows .mixedOrders = true) (hG : ∀ f args args' r, G f args args' r → Pact P fm f args args' r) {f : Nat} {F : F} {fn : Func} (hfn : P.funcs[fm f]? = some fn) (hok : okF P fm F fn = true)
    {args args' : List T} {r : T} (hnp : F.np = args.length) (hlet : F.lets args = true) (hw : wp G (kindOf args) F.body (post F.rs args args' r) (init args)) : Pact P fm f args args' r := by
  simp only [okF, Bool.and_eq_true, decide_eq_true_eq, Bool.not_eq_true'] at hok
  obtain ⟨⟨⟨⟨hc, hoff⟩, hrs⟩, hnt⟩, hname⟩ := hok
  split at hc
  · rename_i c hbody
    refine ⟨⟨fn, hfn, by rw [hbody]; rfl, hname⟩, fun w vs A M hA hsz hM hR => ?_⟩
    refine calls_of_wp hfn hbody ?_
    have hvs : ∀ s, s < vs.size → vlA { tmps := vs ++ Array.replicate (fn.ntmps - vs.size) undef, defers := [] } s = vs.getD s undef := fun s hs => by
      simp only [vlA, Array.getD_eq_getD_getElem?]
      rw [Array.getElem?_append_left hs]
    have hrel : Rel (cx0 fm w A M hA) fn.ntmps (init args) { tmps := vs ++ Array.replicate (fn.ntmps - vs.size) undef, defers := [] } w := by
      refine ⟨hR.congr fun s x hx => ?_, fun j hj => ?_, by simp; omega, rfl⟩
      · obtain ⟨t, ht, _⟩ := init_some hx
        have hs : s < vs.size := by
          rw [hsz]
          rcases Nat.lt_or_ge s args.length with h' | h'
          · exact h'
          · rw [List.getElem?_eq_none h'] at ht; cases ht
        exact hvs s hs
      · unfold init
        rw [List.getElem?_eq_none (by omega)]
        rfl
    have hkn : kindOf args ≠ .own := by unfold kindOf; split <;> decide
    have hcs := code_sound (cx := cx0 fm w A M hA) (fx := F.fix) (f0 := vlA { tmps := vs ++ Array.replicate (fn.ntmps - vs.size) undef, defers := [] }) hP hG (fun _ h => h) hkn hM F.body c hc hoff hw hrel (fun _ _ => rfl)
    have fin : ∀ (e : Env) (a : Act) (w' : World), bindP (e.result F.rs) (fun x => x.1 = r ∧ args' = backArgs x.2 0 args) → Rel (cx0 fm w A M hA) fn.ntmps e a w' → Fx F.fix (vlA { tmps := vs ++ Array.replicate (fn.ntmps - vs.size) undef, defers := [] }) a → a.defers = [] ∧ ∃ v, (results fn a.tmps).run P w' = .ok v w' ∧ Back fm args args' r w vs A M hA (.returned v) w' := by
      rintro e a w' ⟨⟨r', e1⟩, h1, rfl, h2⟩ hr hfx
      obtain ⟨v, vl, g1, g2, g3, g4, g5⟩ := result_sound (P := P) hr hrs h1
      refine ⟨hr.defers, v, g1, fn.ntmps, e1, vl, by omega, g3, g4, g2, h2, fun s hs hh => ?_⟩
      have hin : s ∈ F.fix := by
        have := List.all_eq_true.1 hlet s (by simpa using hs)
        simp only [Bool.or_eq_true, hh, Bool.false_eq_true, false_or, List.contains_iff_mem] at this
        exact this
      rw [g5 s (by omega), hfx s hin]
      exact hvs s (by omega)
    refine Go.wp_mono hcs fun en a w' hl => ?_
    cases en with
    | normal => obtain ⟨e, h1, h2, h3⟩ := hl; exact fin e a w' h1 h2 h3
    | ret => obtain ⟨e, h1, h2, h3⟩ := hl; exact fin e a w' h1 h2 h3
    | exit id => obtain ⟨e, h1, _⟩ := hl; exact h1.elim
    | goto l => exact hl.elim
    | panic c => exact hl.elim
    | outgrown => exact hl.elim
  · cases hc

/-- What the machine calls good, the model does. -/
theorem sound {P : Program} {fm : Nat → Nat} {pg : Pg} (hP : P.follows .mixedOrders = true) (hprim : ∀ f args args' r, pg.prim f args args' r → Pact P fm f args args' r)
    (hprog : ∀ f F, pg.fn f = some F → ∃ fn, P.funcs[fm f]? = some fn ∧ okF P fm F fn = true)
    {f : Nat} {args args' : List T} {r : T} (h : Call pg f args args' r) : Pact P fm f args args' r :=
  h (fun f args args' r => Pact P fm f args args' r) hprim (fun f args args' r fn hf hnp hl hw => by
    obtain ⟨fn', h1, h2⟩ := hprog f fn hf
    exact fn_sound hP (fun f args args' r h => h) h1 h2 hnp hl hw)

end Go.Mch
