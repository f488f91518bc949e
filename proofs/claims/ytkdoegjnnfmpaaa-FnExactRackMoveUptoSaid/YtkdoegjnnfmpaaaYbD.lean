/- Trees made anew out of trees that are at hand; new memory; stores; what is taken out of a frame. -/
import Derived.Test.YtkdoegjnnfmpaaaYbC
namespace Go.Mch

/-- A slot's tree is made anew (in the heap too, where it alone owns what is touched), with new blocks that nobody knows. -/
theorem R.retag {cx : Cx} {e e' : Env} {vl : Vl} {w w' : World} (h : R cx e vl w) {q d : Nat} {t t' : T} {v' : Value} {touch : Nat → Prop} (hq : e q = some (.val t))
    (hsame : ∀ b, b < w.heap.size → ¬ touch b → w'.heap[b]? = w.heap[b]?) (htouch : ∀ b, touch b → 1 ≤ cnt w (vl q) b t) (hk : Keeps cx.M cx.w0 w')
    (hrep : Mch.rep cx.fm (okR cx (fun b => (∃ s u, s ≠ q ∧ e s = some (.val u) ∧ 1 ≤ cnt w (vl s) b u) ∨ 1 ≤ cnt w' v' b t')) w' v' t')
    (hc1 : ∀ b, cnt w' v' b t' ≤ 1) (hc2 : ∀ b, 1 ≤ cnt w' v' b t' → 1 ≤ cnt w (vl q) b t ∨ (cx.N b ∧ ¬ Own e vl w b))
    (he : e' d = some (.val t')) (hsub : ∀ s x, s ≠ d → e' s = some x → s ≠ q ∧ e s = some x ∧ ∀ r, x.hits r [] = true → r ≠ d ∧ r ≠ q ∧ e' r = e r) :
    R cx e' (vadd vl d v') w' := by
  obtain ⟨who, hw⟩ := h.who
  have himm : ∀ k b, k ≠ .own → okR cx (Own e vl w) k b → ¬ touch b := fun k b hk ho ht => (ho.2.2.2 hk).1 ⟨q, t, hq, htouch b ht⟩
  have hzero : ∀ s u, s ≠ q → e s = some (.val u) → ∀ b, touch b → cnt w (vl s) b u = 0 := fun s u hs hu b ht => by
    have h1 := (hw q t hq b).2 (htouch b ht)
    have h2 := (hw s u hu b).2
    rcases Nat.eq_zero_or_pos (cnt w (vl s) b u) with h3 | h3
    · exact h3
    · exact (hs ((h2 h3).symm.trans h1)).elim
  have hcnt : ∀ s u, s ≠ q → e s = some (.val u) → ∀ b, cnt w' (vl s) b u = cnt w (vl s) b u := fun s u hs hu =>
    (frame hsame himm u (vl s) (srep_val h hu) (hzero s u hs hu)).2
  have hown : ∀ b, Own e' (vadd vl d v') w' b → Own e vl w b ∨ cx.N b := by
    rintro b ⟨s, u, h1, h2⟩
    by_cases hs : s = d
    · subst hs
      rw [he] at h1
      cases h1
      rw [vadd_self] at h2
      rcases hc2 b h2 with h3 | h3
      · exact .inl ⟨q, t, hq, h3⟩
      · exact .inr h3.1
    · rw [vadd_ne hs] at h2
      obtain ⟨h3, h4, _⟩ := hsub s _ hs h1
      rw [hcnt s u h3 h4] at h2
      exact .inl ⟨s, u, h4, h2⟩
  have hown2 : ∀ b, Own e' (vadd vl d v') w' b → (∃ s u, s ≠ q ∧ e s = some (.val u) ∧ 1 ≤ cnt w (vl s) b u) ∨ 1 ≤ cnt w' v' b t' := by
    rintro b ⟨s, u, h1, h2⟩
    by_cases hs : s = d
    · subst hs
      rw [he] at h1
      cases h1
      rw [vadd_self] at h2
      exact .inr h2
    · rw [vadd_ne hs] at h2
      obtain ⟨h3, h4, _⟩ := hsub s _ hs h1
      rw [hcnt s u h3 h4] at h2
      exact .inl ⟨s, u, h3, h4, h2⟩
  have hmove : ∀ v u, Mch.rep cx.fm (okR cx (Own e vl w)) w v u → (∀ b, touch b → cnt w v b u = 0) → Mch.rep cx.fm (okR cx (Own e' (vadd vl d v') w')) w' v u := by
    intro v u hu h0
    refine rep_ok (fun k b hk _ ho => ⟨ho.1, ho.2.1, ho.2.2.1, fun hk => ⟨fun h1 => ?_, (ho.2.2.2 hk).2⟩⟩) u v (fun b _ _ ho => ⟨ho.1, ho.2.1, ho.2.2.1, fun hk => (hk rfl).elim⟩) (frame hsame himm u v hu h0).1
    rcases hown b h1 with h2 | h2
    · exact (ho.2.2.2 hk).1 h2
    · exact (ho.2.2.2 hk).2 h2
  refine ⟨hk, ⟨fun b => if 1 ≤ cnt w' v' b t' then d else who b, fun s u hu b => ?_⟩, fun s y hy => ?_⟩
  · by_cases hs : s = d
    · subst hs
      rw [he] at hu
      cases hu
      rw [vadd_self]
      exact ⟨hc1 b, fun h1 => if_pos h1⟩
    · rw [vadd_ne hs]
      obtain ⟨h3, h4, _⟩ := hsub s _ hs hu
      rw [hcnt s u h3 h4]
      refine ⟨(hw s u h4 b).1, fun h5 => ?_⟩
      have h6 := (hw s u h4 b).2 h5
      refine (if_neg fun h7 => ?_).trans h6
      rcases hc2 b h7 with h8 | h8
      · exact h3 (h6.symm.trans ((hw q t hq b).2 h8))
      · exact h8.2 ⟨s, u, h4, h5⟩
  · by_cases hs : s = d
    · subst hs
      rw [he] at hy
      cases hy
      rw [vadd_self]
      exact .inl ⟨t', rfl, rep_less hown2 hrep⟩
    · rw [vadd_ne hs]
      obtain ⟨h3, h4, h5⟩ := hsub s _ hs hy
      refine srep_gen (fun u hu hr => ?_) (fun v u hn hr => ?_) (fun r p hh => ?_) (h.rep s y h4)
      · subst hu
        exact hmove (vl s) u hr (hzero s u h3 h4)
      · exact hmove v u hr fun b _ => cnt_noOwn w v b u hn
      · intro u k ts hu hp
        obtain ⟨h6, h7, h8⟩ := h5 r (isPrefixOf_trans_nil r p y hh)
        refine ⟨u, ts, h8.trans hu, hp, rfl, ?_⟩
        rw [vadd_ne h6]
        exact frame_node hsame p u (vl r) (srep_val h hu) (hzero r u h7 hu) hp

/-- The world turns where nothing of the frame lies. -/
theorem R.world {cx : Cx} {e : Env} {vl : Vl} {w w' : World} (h : R cx e vl w) {touch : Nat → Prop} (hsame : ∀ b, b < w.heap.size → ¬ touch b → w'.heap[b]? = w.heap[b]?)
    (himm : ∀ k b, k ≠ .own → okR cx (Own e vl w) k b → ¬ touch b) (hzero : ∀ s u, e s = some (.val u) → ∀ b, touch b → cnt w (vl s) b u = 0) (hk : Keeps cx.M cx.w0 w') {N : Nat → Prop}
    (hN : ∀ b, N b → cx.N b ∨ w.heap.size ≤ b) : R { cx with N := N } e vl w' := by
  have hcnt : ∀ s u, e s = some (.val u) → ∀ b, cnt w' (vl s) b u = cnt w (vl s) b u := fun s u hu =>
    (frame hsame himm u (vl s) (srep_val h hu) (hzero s u hu)).2
  have hown : ∀ b, Own e vl w' b → Own e vl w b := fun b ⟨s, u, h1, h2⟩ => ⟨s, u, h1, by rw [hcnt s u h1] at h2; exact h2⟩
  have hmove : ∀ v u, Mch.rep cx.fm (okR cx (Own e vl w)) w v u → (∀ b, touch b → cnt w v b u = 0) → Mch.rep cx.fm (okR { cx with N := N } (Own e vl w')) w' v u := by
    intro v u hu h0
    have h1 := rep_ok (ok' := fun k b => okR cx (Own e vl w) k b ∧ (k ≠ .own → b < w.heap.size)) (fun k b hk hb ho => ⟨ho, fun _ => hb⟩) u v (fun b _ _ ho => ⟨ho, fun hk => (hk rfl).elim⟩) hu
    refine rep_ok (fun k b hk _ ho => ⟨ho.1.1, ho.1.2.1, ho.1.2.2.1, fun hk => ⟨fun h1 => (ho.1.2.2.2 hk).1 (hown b h1), fun h2 => ?_⟩⟩) u v (fun b _ _ ho => ⟨ho.1.1, ho.1.2.1, ho.1.2.2.1, fun hk => (hk rfl).elim⟩)
      (frame hsame (fun k b hk ho => himm k b hk ho.1) u v h1 h0).1
    rcases hN b h2 with h3 | h3
    · exact (ho.1.2.2.2 hk).2 h3
    · have := ho.2 hk
      omega
  refine ⟨hk, ?_, fun s y hy => ?_⟩
  · obtain ⟨who, hw⟩ := h.who
    exact ⟨who, fun s u hu b => by rw [hcnt s u hu]; exact hw s u hu b⟩
  · refine srep_gen (fun u hu hr => ?_) (fun v u hn hr => ?_) (fun r p hh => ?_) (h.rep s y hy)
    · subst hu
      exact hmove (vl s) u hr (hzero s u hy)
    · exact hmove v u hr fun b _ => cnt_noOwn w v b u hn
    · intro u k ts hu hp
      exact ⟨u, ts, hu, hp, rfl, frame_node hsame p u (vl r) (srep_val h hu) (hzero r u hu) hp⟩

/-- What is reserved may be let go. -/
theorem R.unN {cx : Cx} {e : Env} {vl : Vl} {w : World} (h : R cx e vl w) {N : Nat → Prop} (hN : ∀ b, N b → cx.N b) : R { cx with N := N } e vl w :=
  h.world (touch := fun _ => False) (fun _ _ _ => rfl) (fun _ _ _ _ h => h) (fun _ _ _ _ h => h.elim) h.keeps (fun b hb => .inl (hN b hb))

/-- A part of a slot's tree is made anew, in the heap too, out of itself and of a tree that lies apart in slot q. -/
theorem R.replaceAt {cx : Cx} {e e' : Env} {vl : Vl} {w w' : World} (h : R cx e vl w) {r q : Nat} {p : List Nat} {pks : List (List Nat)} {t u tq x : T} {touch : Nat → Prop} (hr : e r = some (.val t)) (hp : t.at p = some u)
    (hq : e q = some (.val tq)) (hrq : r ≠ q)
    (hsame : ∀ b, b < w.heap.size → ¬ touch b → w'.heap[b]? = w.heap[b]?) (htouch : ∀ b, touch b → 1 ≤ cnt w (nodeV w (vl r) p) b u) (hk : Keeps cx.M cx.w0 w')
    (hx : Mch.rep cx.fm (okR cx (Own e vl w)) w' (nodeV w (vl r) p) x) (hc : ∀ b, cnt w' (nodeV w (vl r) p) b x ≤ cnt w (nodeV w (vl r) p) b u + cnt w (vl q) b tq)
    (hrest : ∀ rest, (∀ pk, pk ∈ pks → pk.isPrefixOf (p ++ rest) = false) → ∀ s ts, u.at rest = some (.mem .own s ts) → ∃ ts', x.at rest = some (.mem .own s ts') ∧ ts'.length = ts.length ∧ nodeV w' (nodeV w (vl r) p) rest = nodeV w (nodeV w (vl r) p) rest)
    (he : e' r = some (.val (t.setAt p x))) (hsub : ∀ s y, s ≠ r → e' s = some y → s ≠ q ∧ e s = some y ∧ (∀ pk, pk ∈ pks → y.hits r pk = false) ∧ ∀ r', y.hits r' [] = true → r' ≠ q ∧ (r' ≠ r → e' r' = e r')) :
    R cx e' vl w' := by
  obtain ⟨who, hw⟩ := h.who
  have hrep := srep_val h hr
  have hf := focus p t (vl r) hrep hp
  have himm : ∀ k b, k ≠ .own → okR cx (Own e vl w) k b → ¬ touch b := fun k b hk ho ht => (ho.2.2.2 hk).1 ⟨r, t, hr, Nat.le_trans (htouch b ht) (hf.2 b)⟩
  have hzero : ∀ s y, s ≠ r → e s = some (.val y) → ∀ b, touch b → cnt w (vl s) b y = 0 := fun s y hs hy b ht => by
    have h1 := (hw r t hr b).2 (Nat.le_trans (htouch b ht) (hf.2 b))
    have h2 := (hw s y hy b).2
    rcases Nat.eq_zero_or_pos (cnt w (vl s) b y) with h3 | h3
    · exact h3
    · exact (hs ((h2 h3).symm.trans h1)).elim
  have hcnt : ∀ s y, s ≠ r → e s = some (.val y) → ∀ b, cnt w' (vl s) b y = cnt w (vl s) b y := fun s y hs hy =>
    (frame hsame himm y (vl s) (srep_val h hy) (hzero s y hs hy)).2
  have heq : ∀ b, touch b → cnt w (vl r) b t = cnt w (nodeV w (vl r) p) b u := fun b ht => by
    have h1 := htouch b ht
    have h2 := hf.2 b
    have h3 := (hw r t hr b).1
    omega
  have hrpl := replace hsame himm p t (vl r) hrep hp heq hx
  have hcr : ∀ b, cnt w' (vl r) b (t.setAt p x) ≤ cnt w (vl r) b t + cnt w (vl q) b tq := fun b => by
    have h1 := hrpl.2.1 b
    have h2 := hc b
    omega
  have hdis : ∀ b, cnt w (vl r) b t = 0 ∨ cnt w (vl q) b tq = 0 := fun b => by
    rcases Nat.eq_zero_or_pos (cnt w (vl r) b t) with h1 | h1
    · exact .inl h1
    · rcases Nat.eq_zero_or_pos (cnt w (vl q) b tq) with h2 | h2
      · exact .inr h2
      · exact (hrq (((hw r t hr b).2 h1).symm.trans ((hw q tq hq b).2 h2))).elim
  have hown : ∀ b, Own e' vl w' b → Own e vl w b := by
    rintro b ⟨s, y, h1, h2⟩
    by_cases hs : s = r
    · subst hs
      rw [he] at h1
      cases h1
      have h3 := hcr b
      by_cases h4 : 1 ≤ cnt w (vl s) b t
      · exact ⟨s, t, hr, h4⟩
      · exact ⟨q, tq, hq, by omega⟩
    · obtain ⟨h3, h4, _⟩ := hsub s _ hs h1
      rw [hcnt s y hs h4] at h2
      exact ⟨s, y, h4, h2⟩
  have hmove : ∀ v y, Mch.rep cx.fm (okR cx (Own e vl w)) w v y → (∀ b, touch b → cnt w v b y = 0) → Mch.rep cx.fm (okR cx (Own e' vl w')) w' v y :=
    fun v y hy h0 => rep_less hown (frame hsame himm y v hy h0).1
  refine ⟨hk, ⟨fun b => if 1 ≤ cnt w' (vl r) b (t.setAt p x) then r else who b, fun s y hy b => ?_⟩, fun s y hy => ?_⟩
  · by_cases hs : s = r
    · subst hs
      rw [he] at hy
      cases hy
      refine ⟨?_, fun h1 => if_pos h1⟩
      have h1 := hcr b
      have h2 := (hw s t hr b).1
      have h3 := (hw q tq hq b).1
      rcases hdis b with h4 | h4 <;> omega
    · obtain ⟨h3, h4, _⟩ := hsub s _ hs hy
      rw [hcnt s y hs h4]
      refine ⟨(hw s y h4 b).1, fun h5 => ?_⟩
      have h6 := (hw s y h4 b).2 h5
      refine (if_neg fun h7 => ?_).trans h6
      have h8 := hcr b
      by_cases h9 : 1 ≤ cnt w (vl r) b t
      · exact hs (h6.symm.trans ((hw r t hr b).2 h9))
      · exact h3 (h6.symm.trans ((hw q tq hq b).2 (by omega)))
  · by_cases hs : s = r
    · subst hs
      rw [he] at hy
      cases hy
      exact .inl ⟨_, rfl, rep_less hown hrpl.1⟩
    · obtain ⟨h3, h4, h5, h5'⟩ := hsub s _ hs hy
      refine srep_gen (fun u' hu hr' => ?_) (fun v u' hn hr' => ?_) (fun r' q' hh => ?_) (h.rep s y h4)
      · subst hu
        exact hmove (vl s) u' hr' (hzero s u' hs h4)
      · exact hmove v u' hr' fun b _ => cnt_noOwn w v b u' hn
      · intro u' k ts hu' hq'
        obtain ⟨h6, h7⟩ := h5' r' (isPrefixOf_trans_nil r' q' y hh)
        by_cases hrr : r' = r
        · subst hrr
          rw [hr] at hu'
          cases hu'
          have hnp : ∀ pk, pk ∈ pks → pk.isPrefixOf q' = false := fun pk hpk => by
            cases hpq : pk.isPrefixOf q' with
            | false => rfl
            | true => have h6 := h5 pk hpk; rw [R.movePart.hits_pre y hh hpq] at h6; cases h6
          by_cases hpp : p.isPrefixOf q' = true
          · rw [List.isPrefixOf_iff_prefix] at hpp
            obtain ⟨rest, rfl⟩ := hpp
            rw [at_append p rest t hp] at hq'
            obtain ⟨ts', h8, h9, h10⟩ := hrest rest hnp _ _ hq'
            refine ⟨_, ts', he, ?_, h9, ?_⟩
            · rw [at_append p rest _ (at_setAt_self p t hp)]; exact h8
            · rw [nodeV_append, nodeV_append, hrpl.2.2]; exact h10
          · obtain ⟨ts', h8, h9⟩ := at_setAt (x := x) p q' t (Bool.eq_false_iff.2 hpp) hq'
            exact ⟨_, ts', he, h8, h9, node_still hsame p q' t (vl r') hrep hp heq (Bool.eq_false_iff.2 hpp) hq'⟩
        · exact ⟨u', ts, (h7 hrr).trans hu', hq', rfl, frame_node hsame q' u' (vl r') (srep_val h hu') (hzero r' u' hrr hu') hq'⟩
where
  at_append : ∀ (p rest : List Nat) (t : T) {u : T}, t.at p = some u → t.at (p ++ rest) = u.at rest
    | [], rest, t, u, h => by
      simp only [T.at, Option.some.injEq] at h
      subst h; rfl
    | i :: p, rest, t, u, h => by
      simp only [T.at, List.cons_append] at h ⊢
      cases hi : t.kids[i]? with
      | none => rw [hi] at h; cases h
      | some c =>
        rw [hi] at h
        simp only [Option.bind_some] at h ⊢
        exact at_append p rest c h
  at_setAt_self : ∀ (p : List Nat) (t : T) {u x : T}, t.at p = some u → (t.setAt p x).at p = some x
    | [], t, u, x, h => rfl
    | i :: p, t, u, x, h => by
      simp only [T.at] at h
      cases hi : t.kids[i]? with
      | none => rw [hi] at h; cases h
      | some c =>
        rw [hi] at h
        simp only [Option.bind_some] at h
        have hgd : t.kids.getD i .gone = c := by rw [List.getD_eq_getElem?_getD, hi]; rfl
        have hlt : i < t.kids.length := by
          rcases Nat.lt_or_ge i t.kids.length with h' | h'
          · exact h'
          · rw [List.getElem?_eq_none h'] at hi; cases hi
        have hk : (t.setAt (i :: p) x).kids = t.kids.set i ((t.kids.getD i .gone).setAt p x) := by
          cases t with
          | mem k s ts => cases k <;> simp [T.setAt, T.withKids, T.kids] at hi ⊢
          | agg ts => rfl
          | tup ts => rfl
          | _ => simp [T.kids] at hi
        simp only [T.at, hk, hgd, List.getElem?_set_self hlt, Option.bind_some]
        exact at_setAt_self p c h
  nodeV_append {w : World} : ∀ (p rest : List Nat) (v : Value), nodeV w v (p ++ rest) = nodeV w (nodeV w v p) rest
    | [], _, _ => rfl
    | i :: p, rest, v => nodeV_append p rest (kid w v i)

end Go.Mch
