/- Stores; slices of slices; literals. -/
import Derived.Test.YtkdoegjnnfmpaaaYbI
namespace Go.Mch

/-- A segment of a list put anew. -/
def segSet (ts : List T) (off : Nat) : List T → List T
  | [] => ts
  | u :: us => segSet (ts.set off u) (off + 1) us

theorem segSet_length : ∀ (us ts : List T) (off : Nat), (segSet ts off us).length = ts.length
  | [], _, _ => rfl
  | u :: us, ts, off => by rw [segSet, segSet_length us]; simp

theorem segSet_get : ∀ (us ts : List T) (off i : Nat), off + us.length ≤ ts.length → (segSet ts off us)[i]? = if off ≤ i ∧ i < off + us.length then us[i - off]? else ts[i]?
  | [], ts, off, i, _ => by
    simp only [segSet, List.length_nil, Nat.add_zero]
    rw [if_neg (by omega)]
  | u :: us, ts, off, i, h => by
    simp only [List.length_cons] at h
    rw [segSet, segSet_get us _ (off + 1) i (by simp; omega)]
    by_cases h1 : i = off
    · subst h1
      rw [if_neg (by omega), if_pos (by simp), List.getElem?_set_self (by omega), Nat.sub_self]
      rfl
    · by_cases h2 : off + 1 ≤ i ∧ i < off + 1 + us.length
      · rw [if_pos h2, if_pos (by simp; omega)]
        rw [show i - off = (i - (off + 1)) + 1 from by omega]
        simp
      · rw [if_neg h2, if_neg (by simp; omega), List.getElem?_set_ne (by omega)]

theorem tree_of {e : Env} {r : Nat} {p : List Nat} {t u : T} (h1 : e r = some (.val t)) (h2 : t.at p = some u) : e.tree r p = some u := by simp [Env.tree, h1, h2]

/-- What putting cells does to the frame. -/
theorem puts_spec : ∀ (us : List T) (e : Env) (r : Nat) (p : List Nat) (off : Nat) (t : T) (s : Option Nat) (ts : List T), e r = some (.val t) → t.at p = some (.mem .own s ts) → off + us.length ≤ ts.length →
    e.puts r p off us r = some (.val (t.setAt p (.mem .own s (segSet ts off us)))) ∧
      ∀ s' y, s' ≠ r → e.puts r p off us s' = some y → e s' = some y ∧ ∀ j, j < us.length → y.hits r (p ++ [off + j]) = false
  | [], e, r, p, off, t, s, ts, hr, hp, _ => by
    refine ⟨?_, fun s' y _ h => ⟨h, fun j hj => by simp at hj⟩⟩
    simp only [Env.puts, segSet]
    rw [hr, setAt_same p t hp]
  | u :: us, e, r, p, off, t, s, ts, hr, hp, hl => by
    simp only [List.length_cons] at hl
    have h1 : (e.setTree r (p ++ [off]) u) r = some (.val (t.setAt p (.mem .own s (ts.set off u)))) := by
      rw [setTree_self hr, setAt_append p t off u hp]
      rfl
    have h2 : (t.setAt p (.mem .own s (ts.set off u))).at p = some (.mem .own s (ts.set off u)) := R.replaceAt.at_setAt_self p t hp
    obtain ⟨h3, h4⟩ := puts_spec us (e.setTree r (p ++ [off]) u) r p (off + 1) _ s _ h1 h2 (by simp; omega)
    refine ⟨?_, fun s' y hs hy => ?_⟩
    · simp only [Env.puts, segSet]
      rw [h3, setAt_setAt p t hp]
    · simp only [Env.puts] at hy
      obtain ⟨h5, h6⟩ := h4 s' y hs hy
      rcases setTree_some hr h5 with ⟨rfl, _⟩ | ⟨_, h7, h8⟩
      · exact (hs rfl).elim
      · refine ⟨h7, fun j hj => ?_⟩
        cases j with
        | zero => exact h8
        | succ j =>
          have := h6 j (by simpa using hj)
          rwa [show off + 1 + j = off + (j + 1) from by omega] at this
where
  setAt_same : ∀ (p : List Nat) (t : T) {u : T}, t.at p = some u → t.setAt p u = t
    | [], t, u, h => by simp only [T.at, Option.some.injEq] at h; exact h.symm
    | i :: p, t, u, h => by
      simp only [T.at] at h
      cases hi : t.kids[i]? with
      | none => rw [hi] at h; cases h
      | some c =>
        rw [hi] at h
        simp only [Option.bind_some] at h
        have hgd : t.kids.getD i .gone = c := by rw [List.getD_eq_getElem?_getD, hi]; rfl
        simp only [T.setAt, hgd, setAt_same p c h]
        have hs : t.kids.set i c = t.kids := by
          apply List.ext_getElem?
          intro j
          by_cases hj : i = j
          · subst hj
            have hlt : i < t.kids.length := by
              rcases Nat.lt_or_ge i t.kids.length with h' | h'
              · exact h'
              · rw [List.getElem?_eq_none h'] at hi; cases hi
            rw [List.getElem?_set_self hlt, hi]
          · rw [List.getElem?_set_ne hj]
        rw [hs]
        cases t with
        | mem k s ts => cases k <;> simp [T.kids] at hi <;> rfl
        | agg ts => rfl
        | tup ts => rfl
        | _ => simp [T.kids] at hi
  setAt_setAt : ∀ (p : List Nat) (t : T) {u x y : T}, t.at p = some u → (t.setAt p x).setAt p y = t.setAt p y
    | [], _, _, _, _, _ => rfl
    | i :: p, t, u, x, y, h => by
      simp only [T.at] at h
      cases hi : t.kids[i]? with
      | none => rw [hi] at h; cases h
      | some c =>
        rw [hi] at h
        simp only [Option.bind_some] at h
        have hgd : t.kids.getD i .gone = c := by rw [List.getD_eq_getElem?_getD, hi]; rfl
        have hlt : i < t.kids.length := by
          rcases Nat.lt_or_ge i t.kids.length with h' | h'
          · exact h'
          · rw [List.getElem?_eq_none h'] at hi; cases hi
        have hk : ∀ z, (t.setAt (i :: p) z).kids = t.kids.set i (c.setAt p z) := fun z => by
          cases t with
          | mem k s ts => cases k <;> simp [T.setAt, T.withKids, T.kids] at hi hgd ⊢ <;> rw [hgd]
          | agg ts => simp only [T.setAt, T.withKids, T.kids] at hgd ⊢; rw [hgd]
          | tup ts => simp only [T.setAt, T.withKids, T.kids] at hgd ⊢; rw [hgd]
          | _ => simp [T.kids] at hi
        have hwk : ∀ z w', (t.setAt (i :: p) z).withKids w' = t.withKids w' := fun z w' => by cases t <;> rfl
        have e1 : (t.setAt (i :: p) x).kids.getD i .gone = c.setAt p x := by
          rw [hk, List.getD_eq_getElem?_getD, List.getElem?_set_self hlt]; rfl
        conv => lhs; rw [T.setAt]
        rw [e1, hk, hwk, setAt_setAt p c h]
        conv => rhs; rw [T.setAt]
        rw [hgd, List.set_set]

/-- Trees in a row, other values and other trees in a part of it. -/
theorem segRep {fm : Nat → Nat} {ok : K → Nat → Prop} {w : World} {g g' f : Nat → Value} : ∀ (us ts : List T) (off : Nat), off + us.length ≤ ts.length → repL fm ok w g 0 ts → repL fm ok w f 0 us →
    (∀ i, i < ts.length → g' i = if off ≤ i ∧ i < off + us.length then f (i - off) else g i) →
    repL fm ok w g' 0 (segSet ts off us) ∧ ∀ b, cntL w g' b 0 (segSet ts off us) ≤ cntL w g b 0 ts + cntL w f b 0 us
  | [], ts, off, _, h, _, hg => by
    simp only [segSet, List.length_nil, Nat.add_zero] at hg ⊢
    have hg' : ∀ j, 0 ≤ j → j < 0 + ts.length → g j = g' j := fun j _ hj => by rw [hg j (by omega), if_neg (by omega)]
    exact ⟨repL_congr ts 0 hg' h, fun b => by rw [cntL_congr ts 0 hg']; simp [cntL]⟩
  | u :: us, ts, off, hl, h, hu, hg => by
    simp only [List.length_cons] at hl hg
    simp only [segSet]
    have hset := setRep (fm := fm) (ok := ok) (w := w) (g := g) (x := f 0) ts 0 off h (by omega) hu.1
    simp only [Nat.zero_add] at hset
    have ih := segRep (fm := fm) (ok := ok) (w := w) (g := fun j => if j = off then f 0 else g j) (g' := g') (f := fun j => f (j + 1)) us (ts.set off u) (off + 1) (by simp; omega) hset.1
      ((repL_shift us 0 1).1 hu.2) (fun i hi => by
        simp only [List.length_set] at hi
        rw [hg i hi]
        by_cases h1 : i = off
        · subst h1
          rw [if_pos (by omega), if_neg (by omega), if_pos rfl]
          simp
        · by_cases h2 : off + 1 ≤ i ∧ i < off + 1 + us.length
          · rw [if_pos (by omega), if_pos h2]
            congr 1
            omega
          · rw [if_neg (by omega), if_neg h2, if_neg h1])
    refine ⟨ih.1, fun b => ?_⟩
    have h1 := ih.2 b
    have h2 := hset.2 b
    have h3 : cntL w f b 0 (u :: us) = cnt w (f 0) b u + cntL w (fun j => f (j + 1)) b 0 us := by
      simp only [cntL]
      rw [cntL_shift us 0 1]
    omega
where
  setRep {fm : Nat → Nat} {ok : K → Nat → Prop} {w : World} {g : Nat → Value} {x : Value} {u : T} : ∀ (ts : List T) (k i : Nat), repL fm ok w g k ts → i < ts.length → rep fm ok w x u →
      repL fm ok w (fun j => if j = k + i then x else g j) k (ts.set i u) ∧ ∀ b, cntL w (fun j => if j = k + i then x else g j) b k (ts.set i u) ≤ cntL w g b k ts + cnt w x b u
    | [], _, _, _, h, _ => by simp at h
    | t :: ts, k, 0, h, _, hx => by
      simp only [List.set_cons_zero, repL, cntL, Nat.add_zero, if_true]
      have hg : ∀ j, k + 1 ≤ j → j < k + 1 + ts.length → g j = (if j = k then x else g j) := fun j h1 _ => by rw [if_neg (by omega)]
      refine ⟨⟨hx, repL_congr ts (k + 1) hg h.2⟩, fun b => ?_⟩
      rw [← cntL_congr (g := g) ts (k + 1) hg]
      omega
    | t :: ts, k, i + 1, h, hi, hx => by
      simp only [List.set_cons_succ, repL, cntL]
      have ih := setRep ts (k + 1) i h.2 (by simpa using hi) hx
      have e1 : (fun j => if j = k + 1 + i then x else g j) = fun j => if j = k + (i + 1) then x else g j := by
        funext j; rw [show k + 1 + i = k + (i + 1) from by omega]
      rw [e1] at ih
      rw [if_neg (by omega)]
      exact ⟨⟨h.1, ih.1⟩, fun b => by have := ih.2 b; omega⟩

/-- Cells of own memory are written. -/
theorem R.store {cx : Cx} {e : Env} {vl : Vl} {w : World} {q r off : Nat} {p : List Nat} {us ts : List T} {ys : Array Value} {s : Option Nat} {arr : Array Value} {elem : TypeId} (h : R cx (e.add q (.val (.tup us))) vl w) (hc : Clr e q)
    (hrq : r ≠ q) (hy : vl q = .tuple ys) (ht : e.tree r p = some (.mem .own s ts)) (hl : off + us.length ≤ ts.length) (harr : w.heap[blk (nodeV w (vl r) p)]? = some (.cells arr elem))
    (hone : us.length = ys.size) :
    R cx (e.puts r p off us) vl (w.setRow (blk (nodeV w (vl r) p)) (arr.toList.take (ofs (nodeV w (vl r) p) + off) ++ ys.toList ++ arr.toList.drop (ofs (nodeV w (vl r) p) + off + ys.size)).toArray) := by
  obtain ⟨t, hr, hp⟩ := tree_some ht
  obtain ⟨hp1, hp2⟩ := puts_spec us e r p off t s ts hr hp hl
  have hr' : e.add q (.val (.tup us)) r = some (.val t) := by rw [add_ne hrq]; exact hr
  have hrep := srep_val h hr'
  have hf := focus p t (vl r) hrep hp
  obtain ⟨who, hw⟩ := h.who
  generalize hnv : nodeV w (vl r) p = nv at *
  have hnode := hf.1
  rw [rep_mem] at hnode
  obtain ⟨k1, k2, k3, _, k5⟩ := hnode
  have hqr := srep_val h (add_self ..)
  rw [hy] at hqr
  simp only [Mch.rep] at hqr
  obtain ⟨⟨_, hyy, hsz⟩, hqr⟩ := hqr
  cases hyy
  obtain ⟨arr', elem', hh, hroom⟩ := k3 rfl
  rw [harr] at hh
  cases hh
  have hfit : ofs nv + off + ys.size ≤ arr.size := by
    have hts : ofs nv + ts.length ≤ arr.size := by
      cases s with
      | none => exact hroom
      | some sz =>
        obtain ⟨⟨len, _, h2, _, h4⟩, _⟩ := k1
        have : len * sz ≤ capOf nv * sz := Nat.mul_le_mul_right _ h4
        simp only at hroom
        omega
    omega
  generalize hnew : (arr.toList.take (ofs nv + off) ++ ys.toList ++ arr.toList.drop (ofs nv + off + ys.size)).toArray = narr
  have hnsz : narr.size = arr.size := by
    rw [← hnew]; simp; omega
  have hnget : ∀ i, narr[i]? = if ofs nv + off ≤ i ∧ i < ofs nv + off + ys.size then ys[i - (ofs nv + off)]? else arr[i]? := fun i => by
    rw [← hnew]
    simp only [List.getElem?_toArray]
    rw [List.append_assoc, List.getElem?_append]
    have hlt : (arr.toList.take (ofs nv + off)).length = ofs nv + off := by simp; omega
    rw [hlt]
    by_cases h1 : i < ofs nv + off
    · rw [if_pos h1, if_neg (by omega), List.getElem?_take, if_pos h1]; simp
    · rw [if_neg h1, List.getElem?_append]
      by_cases h2 : i < ofs nv + off + ys.size
      · rw [if_pos (by simp; omega), if_pos (by omega)]; simp
      · rw [if_neg (by simp; omega), if_neg (by omega), List.getElem?_drop]
        simp only [Array.length_toList, Array.getElem?_toList]
        congr 1
        omega
  have hsome : ∀ k, narr[k]?.isSome = arr[k]?.isSome := fun k => by
    by_cases hk : k < arr.size
    · rw [Array.getElem?_eq_getElem hk, Array.getElem?_eq_getElem (by rw [hnsz]; exact hk)]; rfl
    · rw [Array.getElem?_eq_none (by omega), Array.getElem?_eq_none (by omega)]
  have hheap : (w.setRow (blk nv) narr).heap[blk nv]? = some (.cells narr elem) := setRow_heap w _ arr narr elem (0, 0) harr
  have hsame : ∀ b, b < w.heap.size → ¬ b = blk nv → (w.setRow (blk nv) narr).heap[b]? = w.heap[b]? := fun b _ hb => setRow_other w _ b narr hb
  have hcount : ∀ b, cnt w nv b (.mem .own s ts) = (if blk nv = b then 1 else 0) + cntL w (kid w nv) b 0 ts := fun b => cnt_own
  have hle1 : ∀ b, cnt w nv b (.mem .own s ts) ≤ 1 := fun b => Nat.le_trans (hf.2 b) (hw r t hr' b).1
  have hkz : ∀ b, b = blk nv → cntL w (kid w nv) b 0 ts = 0 := fun b hb => by have h1 := hcount b; have h2 := hle1 b; rw [if_pos hb.symm] at h1; omega
  have hqz : ∀ b, b = blk nv → cntL w (kid w (.tuple ys)) b 0 us = 0 := fun b hb => by
    have h1 := hcount b
    rw [if_pos hb.symm] at h1
    have h2 := (hw r t hr' b).2 (by have := hf.2 b; omega)
    rcases Nat.eq_zero_or_pos (cntL w (kid w (.tuple ys)) b 0 us) with h3 | h3
    · exact h3
    · have := (hw q _ (add_self ..) b).2 (by rw [hy]; exact h3)
      exact (hrq (h2.symm.trans this)).elim
  have himm : ∀ k b, k ≠ .own → okR cx (Own (e.add q (.val (.tup us))) vl w) k b → ¬ b = blk nv := fun k b hk ho hb => by
    refine (ho.2.2.2 hk).1 ⟨r, t, hr', ?_⟩
    have h1 := hcount b
    rw [if_pos hb.symm] at h1
    have := hf.2 b
    omega
  have hfr1 := frameL hsame himm ts (kid w nv) 0 k5 (fun b hb => hkz b hb)
  have hfr2 := frameL hsame himm us (kid w (.tuple ys)) 0 hqr (fun b hb => hqz b hb)
  have hkid : ∀ i, i < ts.length → kid (w.setRow (blk nv) narr) nv i = if off ≤ i ∧ i < off + us.length then kid w (.tuple ys) (i - off) else kid w nv i := fun i hi => by
    have k1' : shp (w.setRow (blk nv) narr) nv s ts.length := ⟨k1.1, fun j hj => by
      have := k1.2 j hj
      simp only [World.cell?, hheap, harr] at this ⊢
      simp only [Option.isSome_none, Bool.false_eq_true, if_false] at this ⊢
      rw [hsome]; exact this⟩
    rw [kid_mem k1', kid_mem k1]
    simp only [World.cell?, hheap, harr, Option.isSome_none, Bool.false_eq_true, if_false]
    rw [hnget]
    by_cases h1 : off ≤ i ∧ i < off + us.length
    · rw [if_pos (by omega), if_pos h1]
      simp only [kid, Array.getD_eq_getD_getElem?]
      rw [show ofs nv + i - (ofs nv + off) = i - off from by omega]
    · rw [if_neg (by omega), if_neg h1]
  have hseg := segRep (g := kid w nv) (g' := kid (w.setRow (blk nv) narr) nv) (f := kid w (.tuple ys)) us ts off hl hfr1.1 hfr2.1 hkid
  have hnv' : nodeV w (vl r) p = nv := hnv
  refine h.replaceAt (r := r) (q := q) (p := p) (pks := (List.range us.length).map fun j => p ++ [off + j]) (t := t) (u := .mem .own s ts) (x := .mem .own s (segSet ts off us)) (touch := fun b => b = blk nv) hr' hp (add_self ..) hrq hsame (fun b hb => ?_) ?_ ?_ (fun b => ?_) ?_ hp1 (fun s' y hs hy => ?_)
  · rw [hnv', hcount, if_pos hb.symm]; omega
  · refine ⟨h.keeps.os, h.keeps.tape, h.keeps.output, by rw [setRow_size]; exact h.keeps.size, fun b hb hm => ?_⟩
    by_cases hbn : b = blk nv
    · subst hbn
      rcases (k2 (.inl rfl)).2.1 rfl with h1 | h1
      · omega
      · exact (hm h1).elim
    · rw [setRow_other w _ b narr hbn]; exact h.keeps.block b hb hm
  · rw [hnv', rep_mem]
    refine ⟨⟨by rw [segSet_length]; exact k1.1, fun i hi => ?_⟩, fun _ => k2 (.inl rfl), fun _ => ⟨narr, elem, hheap, by rw [hnsz, segSet_length]; exact hroom⟩, fun hk => (hk rfl).elim, hseg.1⟩
    rw [segSet_length] at hi
    have := k1.2 i hi
    simp only [World.cell?, hheap, harr] at this ⊢
    simp only [Option.isSome_none, Bool.false_eq_true, if_false] at this ⊢
    rw [hsome]; exact this
  · rw [hnv', hcount, cnt_own, hy]
    have h1 := hseg.2 b
    rw [hfr1.2 b, hfr2.2 b] at h1
    simp only [cnt]
    omega
  · intro rest hpk s' ts' hrest
    rw [hnv']
    cases rest with
    | nil =>
      simp only [T.at, Option.some.injEq, T.mem.injEq, true_and] at hrest
      obtain ⟨rfl, rfl⟩ := hrest
      exact ⟨segSet ts off us, rfl, segSet_length .., rfl⟩
    | cons i rest =>
      simp only [T.at, T.kids] at hrest ⊢
      cases hi : ts[i]? with
      | none => rw [hi] at hrest; cases hrest
      | some c =>
        rw [hi] at hrest
        simp only [Option.bind_some] at hrest
        have hlt : i < ts.length := by
          rcases Nat.lt_or_ge i ts.length with h' | h'
          · exact h'
          · rw [List.getElem?_eq_none h'] at hi; cases hi
        have hout : ¬ (off ≤ i ∧ i < off + us.length) := fun hio => by
          have := hpk (p ++ [off + (i - off)]) (List.mem_map.2 ⟨i - off, by simp; omega, rfl⟩)
          rw [show off + (i - off) = i from by omega] at this
          have h1 : (p ++ [i]).isPrefixOf (p ++ i :: rest) = true := by
            rw [List.isPrefixOf_iff_prefix]
            exact ⟨rest, by simp⟩
          rw [h1] at this; cases this
        rw [segSet_get us ts off i hl, if_neg hout, hi]
        simp only [Option.bind_some, nodeV]
        rw [hkid i hlt, if_neg hout]
        refine ⟨ts', hrest, rfl, ?_⟩
        have hrc := repL_get ts 0 i k5 hi
        rw [Nat.zero_add] at hrc
        refine frame_node hsame rest c (kid w nv i) hrc (fun b hb => ?_) hrest
        have h1 := cntL_get (w := w) (g := kid w nv) (b := b) ts 0 i hi
        rw [Nat.zero_add] at h1
        have h2 := hkz b hb
        omega
  · obtain ⟨h1, h2⟩ := hp2 s' y hs hy
    have hsq : s' ≠ q := fun e' => by subst e'; rw [(hc s' (Nat.le_refl _)).1] at h1; cases h1
    refine ⟨hsq, by rw [add_ne hsq]; exact h1, fun pk hpk => ?_, fun r' hr'' => ?_⟩
    · obtain ⟨j, hj, rfl⟩ := List.mem_map.1 hpk
      exact h2 j (by simpa using hj)
    · have hrq' : r' ≠ q := fun e' => by subst e'; rw [(hc r' (Nat.le_refl _)).2 s' y h1] at hr''; cases hr''
      refine ⟨hrq', fun hrr => ?_⟩
      obtain ⟨u', hu'⟩ := h.root (s := s') (x := y) (by rw [add_ne hsq]; exact h1) hr''
      have hu2 : e r' = some (.val u') := by rwa [add_ne hrq'] at hu'
      rw [hu', puts_other us e r p off t s ts hr hp hl r' hrr u' hu2]
where
  puts_other : ∀ (us : List T) (e : Env) (r : Nat) (p : List Nat) (off : Nat) (t : T) (s : Option Nat) (ts : List T), e r = some (.val t) → t.at p = some (.mem .own s ts) → off + us.length ≤ ts.length → ∀ r', r' ≠ r → ∀ u', e r' = some (.val u') → e.puts r p off us r' = some (.val u')
    | [], e, r, p, off, t, s, ts, _, _, _, r', _, u', h => h
    | u :: us, e, r, p, off, t, s, ts, hr, hp, hl, r', hne, u', h => by
      simp only [List.length_cons] at hl
      simp only [Env.puts]
      have h1 : (e.setTree r (p ++ [off]) u) r = some (.val (t.setAt p (.mem .own s (ts.set off u)))) := by
        rw [setTree_self hr, setAt_append p t off u hp]
        rfl
      have h2 : (t.setAt p (.mem .own s (ts.set off u))).at p = some (.mem .own s (ts.set off u)) := R.replaceAt.at_setAt_self p t hp
      exact puts_other us _ r p (off + 1) _ s _ h1 h2 (by simp; omega) r' hne u' (setTree_ne hne h rfl)

end Go.Mch
