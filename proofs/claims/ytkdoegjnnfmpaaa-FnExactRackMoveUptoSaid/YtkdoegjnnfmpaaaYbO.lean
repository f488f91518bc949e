/- Appends. -/
import Derived.Test.YtkdoegjnnfmpaaaYbN
namespace Go.Mch

section
variable {P : Program} {w : World}

theorem run_app_room {t u ty el : TypeId} {eu : TypeId} {size n m c : Nat} {ad : Addr} {vy : Value} {news : List Value} {w' : World} (ht : P.underlying t = some (.slice el)) (hu : P.underlying u = some (.slice eu)) (hs : szOf P el = some size)
    (hlen : (Builtin.lenOf vy).run P w = .ok m w) (hfirst : (Builtin.firstCells size m vy).run P w = .ok news.toArray w) (hroom : n + m ≤ c) (hst : (storeCells (ad.add (n * size)) news).run P w = .ok () w') :
    (Builtin.append_ #[t, u] ty #[.slice (some ad) n c, vy]).run P w = .ok (.slice (some ad) (n + m) c) w' := by
  simp [Builtin.append_, run_und ht, run_und hu, run_szOf hs, hlen, hroom, hfirst, hst]

theorem run_app_nil {t u ty el : TypeId} {eu : TypeId} {size : Nat} {vy : Value} (ht : P.underlying t = some (.slice el)) (hu : P.underlying u = some (.slice eu)) (hs : szOf P el = some size)
    (hlen : (Builtin.lenOf vy).run P w = .ok 0 w) (hfirst : (Builtin.firstCells size 0 vy).run P w = .ok #[] w) :
    (Builtin.append_ #[t, u] ty #[.slice none 0 0, vy]).run P w = .ok (.slice none 0 0) w := by
  simp [Builtin.append_, run_und ht, run_und hu, run_szOf hs, hlen, hfirst]

theorem run_app_grow {t u ty el : TypeId} {eu : TypeId} {i : TypeInfo} {z : Value} {n m c : Nat} {ad : Option Addr} {vy : Value} {olds news : List Value} (ht : P.underlying t = some (.slice el)) (hu : P.underlying u = some (.slice eu)) (hi : P.info? el = some i) (hz : i.zero = some z)
    (hlen : (Builtin.lenOf vy).run P w = .ok m w) (hold : (Builtin.firstCells i.size n (.slice ad n c)).run P w.drew = .ok olds.toArray w.drew) (hfirst : (Builtin.firstCells i.size m vy).run P w.drew = .ok news.toArray w.drew)
    (hg : c < n + m) (h63 : ((n + m : Nat) : Int) ≤ 9223372036854775807) (hfit : Builtin.nextslicecap (n + m) c * i.bytes ≤ 281474976710656) :
    (Builtin.append_ #[t, u] ty #[.slice ad n c, vy]).run P w =
      .ok (.slice (some ⟨w.heap.size, 0, none⟩) (n + m) (grownCap w (n + m) c el)) (w.drew.alloc (.cells (olds.toArray ++ news.toArray ++ Builtin.zeroCells z.cells (grownCap w (n + m) c el - (n + m))) el)) := by
  have hn : ¬ (n + m ≤ c) := by omega
  have h63' : ¬ (9223372036854775807 < ((n : Int) + (m : Int))) := by omega
  have h48' : ¬ (281474976710656 < Builtin.nextslicecap (n + m) c * i.bytes) := by omega
  simp [Builtin.append_, run_und ht, run_und hu, sizeOf, typeInfo, zeroValue, hi, hz, hlen, hn, h63', h48', Question.forced, hold, hfirst, newRow, grownCap]
  congr 2
  apply Array.ext'
  simp [List.append_assoc]

end

theorem src_add {fm : Nat → Nat} {ok : K → Nat → Prop} {q0 : Nat} {vl : Vl} {w : World} {q : Nat} {t : T} {mv : Bool} {sz : Nat} (hq : q0 ≤ q) {x : V} {v : Value} {e : Env} (h : arw fm ok q0 vl w v x) :
    (e.add q (.val t)).src mv sz x = (e.src mv sz x).map fun y => (y.1, y.2.add q (.val t)) := by
  cases x with
  | val u =>
    cases u with
    | sc y => simp only [Env.src]; split <;> first | rfl | (rename_i hh; cases hh)
    | mem k s ts =>
      cases s with
      | none => rfl
      | some sz' => simp only [Env.src]; split <;> rfl
    | _ => rfl
  | sref r p sz' off len =>
    simp only [arw] at h
    have hr : r ≠ q := by omega
    have hd : (e.add q (.val t)).del r = (e.del r).add q (.val t) := clear_add (p := []) hr
    simp only [Env.src, tree_add hr, hd]
    split
    · split
      · split
        · split <;> rfl
        · split <;> rfl
      · rfl
    · rfl
  | pref r p off => rfl
  | vagg vs => rfl
  | vtup vs => rfl

/-- Values in a row. -/
def arrOf (n : Nat) (g : Nat → Value) : Array Value := ((List.range n).map g).toArray

theorem arrOf_get {n : Nat} {g : Nat → Value} {i : Nat} (h : i < n) : (arrOf n g).getD i undef = g i := by
  simp [arrOf, Array.getD_eq_getD_getElem?, h]
theorem arrOf_size {n : Nat} {g : Nat → Value} : (arrOf n g).size = n := by simp [arrOf]
theorem arrOf_toList {n : Nat} {g : Nat → Value} : (arrOf n g).toList = (List.range n).map g := by simp [arrOf]

theorem rep_row {fm : Nat → Nat} {ok : K → Nat → Prop} {w : World} {g : Nat → Value} {us : List T} (h : repL fm ok w g 0 us) : rep fm ok w (.tuple (arrOf us.length g)) (.tup us) := by
  simp only [rep]
  exact ⟨⟨_, rfl, arrOf_size⟩, repL_congr us 0 (fun j _ hj => by simp only [kid]; rw [arrOf_get (by omega)]) h⟩

theorem cnt_row {w : World} {g : Nat → Value} {us : List T} {b : Nat} : cnt w (.tuple (arrOf us.length g)) b (.tup us) = cntL w g b 0 us := by
  simp only [cnt]
  exact cntL_congr us 0 fun j _ hj => by simp only [kid]; rw [arrOf_get (by omega)]

theorem src_sound {cx : Cx} {e e1 : Env} {vl : Vl} {w : World} {q q0 sz : Nat} {mv : Bool} {us : List T} {x : V} {vy : Value} (h : R cx e vl w) (hc : Clr e q) (hq : q0 ≤ q) (hb : arw cx.fm (okR cx (Own e vl w)) q0 vl w vy x)
    (hs : e.src mv sz x = some (us, e1)) (hz : 0 < sz) :
    ∃ (vl' : Vl) (g : Nat → Value) (m c : Nat) (ad : Option Addr), (∀ s, s < q → vl' s = vl s) ∧ vl' q = .tuple (arrOf us.length g) ∧ R cx (e1.add q (.val (.tup us))) vl' w ∧ Clr e1 q ∧ us.length = m * sz ∧ vy = .slice ad m c ∧
      (∀ i, i < us.length → ∃ a', ad = some a' ∧ w.cell? (a'.add i) = some (g i)) := by
  unfold Env.src at hs
  split at hs
  · cases hs
    refine ⟨_, fun _ => undef, 0, 0, none, fun s hs => vadd_ne (by omega), vadd_self .., h.addA (hc q (Nat.le_refl _)).1 ⟨rfl, rep_row (us := []) trivial⟩, hc, by simp, hb.2.1, fun i hi => by simp at hi⟩
  · rename_i k sz' ts
    split at hs
    · rename_i hcond
      obtain ⟨hk, rfl, hno, hmod⟩ := hcond
      cases hs
      have h2 := hb.2
      rw [rep_mem] at h2
      obtain ⟨h3, h4, _, _, h5⟩ := h2
      obtain ⟨⟨len, h6, h7, _⟩, h8⟩ := h3
      refine ⟨_, kid w vy, len, capOf vy, _, fun s hs => vadd_ne (by omega), vadd_self .., h.addA (hc q (Nat.le_refl _)).1 ⟨by simpa [T.noOwn] using hno, rep_row h5⟩, hc, h7, h6, fun i hi => ⟨_, rfl, ?_⟩⟩
      rw [addr_add]
      exact cell_kid (s := some sz') ⟨⟨len, h6, h7, by omega⟩, h8⟩ hi
    · cases hs
  · rename_i r p sz' off len
    split at hs
    · rename_i s0 ts htr
      split at hs
      · rename_i hcond
        obtain ⟨rfl, hfit⟩ := hcond
        simp only [arw] at hb
        obtain ⟨hrq, o', hv, w1, w2, w3⟩ := hb
        obtain ⟨t0, q1, q2⟩ := tree_some htr
        have hnode := (focus p t0 _ (srep_val h q1) q2).1
        have hnode' := hnode
        rw [rep_mem] at hnode
        obtain ⟨k1, _, _, _, k5⟩ := hnode
        have hmul : (off + len) * sz' = off * sz' + len * sz' := Nat.add_mul ..
        have hwl : (win ts (off * sz') (len * sz')).length = len * sz' := win_length (by omega)
        have hrw := repL_win (a := off * sz') (len * sz') (by omega) k5
        have hcells : ∀ i, i < (win ts (off * sz') (len * sz')).length → ∃ a', some (⟨blk (nodeV w (vl r) p), o', none⟩ : Addr) = some a' ∧ w.cell? (a'.add i) = some ((fun j => kid w (nodeV w (vl r) p) (j + off * sz')) i) := fun i hi => by
          rw [hwl] at hi
          refine ⟨_, rfl, ?_⟩
          have hpos : 0 < len := by
            rcases Nat.eq_zero_or_pos len with h0 | h0
            · rw [h0, Nat.zero_mul] at hi; omega
            · exact h0
          rw [addr_add, w3 (by omega), Nat.add_assoc, Nat.add_comm (off * sz') i]
          exact cell_kid k1 (by omega)
        split at hs
        · split at hs
          · rename_i hp
            subst hp
            cases hs
            have hm := h.moveAt htr (hc q (Nat.le_refl _)).1
            have hcl : Clr (e.clear r []) q := clr_clear hc (by omega)
            have hrf := hm.refit (t' := .tup (win ts (off * sz') (len * sz'))) (v' := .tuple (arrOf (win ts (off * sz') (len * sz')).length fun j => kid w (nodeV w (vl r) []) (j + off * sz'))) hcl (by
              have hq := srep_val hm (add_self ..)
              rw [vadd_self, rep_mem] at hq
              exact rep_row (repL_win (len * sz') (by omega) hq.2.2.2.2)) (fun b => by
              rw [vadd_self, cnt_row, cnt_own]
              have := cntL_win (w := w) (g := kid w (nodeV w (vl r) [])) (b := b) (ts := ts) (a := off * sz') (len * sz') (by omega)
              omega)
            exact ⟨_, _, len, _, _, fun s hs => by rw [vadd_ne (by omega), vadd_ne (by omega)], vadd_self .., hrf, hcl, hwl, hv, hcells⟩
          · cases hs
        · split at hs
          · rename_i hno
            cases hs
            exact ⟨_, _, len, _, _, fun s hs => vadd_ne (by omega), vadd_self .., h.addA (hc q (Nat.le_refl _)).1 ⟨by simpa [T.noOwn] using hno, rep_row hrw⟩, hc, hwl, hv, hcells⟩
          · cases hs
      · cases hs
    · cases hs
  · cases hs

/-- Own memory with room: what lies apart becomes its further content. -/
theorem R.extend {cx : Cx} {e : Env} {vl : Vl} {w : World} {q sz L : Nat} {ts us : List T} {ys : Array Value} {arr : Array Value} {elem : TypeId} {vx : Value} (h : R cx (e.add q (.val (.tup (.mem .own (some sz) ts :: us)))) vl w) (hc : Clr e q)
    (hy : vl q = .tuple (#[vx] ++ ys)) (hvx : vx = .slice (some ⟨blk vx, ofs vx, none⟩) L (capOf vx)) {m : Nat} (hum : us.length = m * sz) (hroom : L + m ≤ capOf vx) (harr : w.heap[blk vx]? = some (.cells arr elem)) (hys : ys.size = us.length) (hz : 0 < sz) :
    R cx (e.add q (.val (.mem .own (some sz) (ts ++ us)))) (vadd vl q (.slice (some ⟨blk vx, ofs vx, none⟩) (L + m) (capOf vx)))
      (w.setRow (blk vx) (arr.toList.take (ofs vx + L * sz) ++ ys.toList ++ arr.toList.drop (ofs vx + L * sz + ys.size)).toArray) := by
  obtain ⟨who, hw⟩ := h.who
  have hr := srep_val h (add_self ..)
  rw [hy] at hr
  simp only [Mch.rep] at hr
  obtain ⟨⟨_, hyy, hsz⟩, hr⟩ := hr
  cases hyy
  simp only [repL] at hr
  have hk0 : kid w (.tuple (#[vx] ++ ys)) 0 = vx := by
    simp only [kid, Array.getD_eq_getD_getElem?]
    rw [Array.getElem?_append_left (by simp)]
    simp
  have hk1 : ∀ j, kid w (.tuple (#[vx] ++ ys)) (j + 1) = ys.getD j undef := fun j => by
    simp only [kid, Array.getD_eq_getD_getElem?]
    rw [Array.getElem?_append_right (by simp)]
    simp
  obtain ⟨hr1, hr2⟩ := hr
  rw [hk0] at hr1
  have hr2' := (repL_shift us 0 1).1 hr2
  simp only [hk1] at hr2'
  rw [rep_mem] at hr1
  obtain ⟨k1, k2, k3, _, k5⟩ := hr1
  obtain ⟨⟨L', hL', hts, _, _⟩, hcells⟩ := k1
  have hLL : L' = L := by rw [hvx] at hL'; simp only [capOf] at hL'; cases hL'; rfl
  subst hLL
  obtain ⟨arr', elem', hh, hrm⟩ := k3 rfl
  rw [harr] at hh
  cases hh
  simp only at hrm
  have hcm : (L' + m) * sz ≤ capOf vx * sz := Nat.mul_le_mul_right _ hroom
  rw [Nat.add_mul] at hcm
  have hcnt : ∀ b, cnt w (vl q) b (.tup (.mem .own (some sz) ts :: us)) = ((if blk vx = b then 1 else 0) + cntL w (kid w vx) b 0 ts) + cntL w (fun j => ys.getD j undef) b 0 us := fun b => by
    rw [hy]
    simp only [cnt, cntL, if_true, hk0]
    rw [cntL_shift us 0 1]
    simp only [hk1]
  have hle := fun b => (hw q _ (add_self ..) b).1
  have hz1 : ∀ b, b = blk vx → cntL w (kid w vx) b 0 ts = 0 := fun b hb => by have h1 := hcnt b; have h2 := hle b; rw [if_pos hb.symm] at h1; omega
  have hz2 : ∀ b, b = blk vx → cntL w (fun j => ys.getD j undef) b 0 us = 0 := fun b hb => by have h1 := hcnt b; have h2 := hle b; rw [if_pos hb.symm] at h1; omega
  generalize hnew : (arr.toList.take (ofs vx + L' * sz) ++ ys.toList ++ arr.toList.drop (ofs vx + L' * sz + ys.size)).toArray = narr
  have hnsz : narr.size = arr.size := by
    rw [← hnew]; simp; omega
  have hnget : ∀ i, narr[i]? = if ofs vx + L' * sz ≤ i ∧ i < ofs vx + L' * sz + ys.size then ys[i - (ofs vx + L' * sz)]? else arr[i]? := fun i => by
    rw [← hnew]
    simp only [List.getElem?_toArray]
    rw [List.append_assoc, List.getElem?_append]
    have hlt : (arr.toList.take (ofs vx + L' * sz)).length = ofs vx + L' * sz := by simp; omega
    rw [hlt]
    by_cases h1 : i < ofs vx + L' * sz
    · rw [if_pos h1, if_neg (by omega), List.getElem?_take, if_pos h1]; simp
    · rw [if_neg h1, List.getElem?_append]
      by_cases h2 : i < ofs vx + L' * sz + ys.size
      · rw [if_pos (by simp; omega), if_pos (by omega)]; simp
      · rw [if_neg (by simp; omega), if_neg (by omega), List.getElem?_drop]
        simp only [Array.length_toList, Array.getElem?_toList]
        congr 1
        omega
  have hheap : (w.setRow (blk vx) narr).heap[blk vx]? = some (.cells narr elem) := setRow_heap w _ arr narr elem (0, 0) harr
  have hsame : ∀ b, b < w.heap.size → ¬ b = blk vx → (w.setRow (blk vx) narr).heap[b]? = w.heap[b]? := fun b _ hb => setRow_other w _ b narr hb
  have himm : ∀ k b, k ≠ .own → okR cx (Own (e.add q (.val (.tup (.mem .own (some sz) ts :: us)))) vl w) k b → ¬ b = blk vx := fun k b hk ho hb => by
    refine (ho.2.2.2 hk).1 ⟨q, _, add_self .., ?_⟩
    have h1 := hcnt b
    rw [if_pos hb.symm] at h1
    omega
  have hfr1 := frameL hsame himm ts (kid w vx) 0 k5 (fun b hb => hz1 b hb)
  have hfr2 := frameL hsame himm us (fun j => ys.getD j undef) 0 hr2' (fun b hb => hz2 b hb)
  generalize hv' : Value.slice (some (⟨blk vx, ofs vx, none⟩ : Addr)) (L' + m) (capOf vx) = v'
  have hb' : blk v' = blk vx := by rw [← hv']; rfl
  have ho' : ofs v' = ofs vx := by rw [← hv']; rfl
  have hc' : capOf v' = capOf vx := by rw [← hv']; rfl
  have hkid : ∀ i, i < ts.length + us.length → kid (w.setRow (blk vx) narr) v' i = if i < ts.length then kid w vx i else ys.getD (i - ts.length) undef := fun i hi => by
    have hkv : kid (w.setRow (blk vx) narr) v' i = ((w.setRow (blk vx) narr).cell? ⟨blk vx, ofs vx + i, none⟩).getD undef := by rw [← hv']; rfl
    rw [hkv]
    simp only [World.cell?, hheap, Option.isSome_none, Bool.false_eq_true, if_false]
    rw [hnget]
    by_cases h1 : i < ts.length
    · have hkx : kid w vx i = (w.cell? ⟨blk vx, ofs vx + i, none⟩).getD undef := by rw [hL']; rfl
      rw [if_neg (by omega), if_pos h1, hkx]
      simp only [World.cell?, harr, Option.isSome_none, Bool.false_eq_true, if_false]
    · rw [if_pos (by omega), if_neg h1, Array.getD_eq_getD_getElem?]
      rw [show ofs vx + i - (ofs vx + L' * sz) = i - ts.length from by omega]
  have hcnt' : ∀ b, cnt (w.setRow (blk vx) narr) v' b (.mem .own (some sz) (ts ++ us)) = cnt w (vl q) b (.tup (.mem .own (some sz) ts :: us)) := fun b => by
    rw [hcnt, cnt_own, hb', cntL_append, Nat.zero_add, cntL_congr (g' := kid w vx) ts 0 (fun j _ hj => by rw [hkid j (by omega), if_pos (by omega)]), hfr1.2]
    have := cntL_shift (w := w.setRow (blk vx) narr) (g := kid (w.setRow (blk vx) narr) v') (b := b) us 0 ts.length
    rw [Nat.zero_add] at this
    rw [this, cntL_congr (g' := fun j => ys.getD j undef) us 0 (fun j _ hj => by rw [hkid (j + ts.length) (by omega), if_neg (by omega), Nat.add_sub_cancel]), hfr2.2]
    omega
  refine h.retag (q := q) (d := q) (touch := fun b => b = blk vx) (add_self ..) hsame (fun b hb => ?_) ?_ ?_ (fun b => by rw [hcnt']; exact hle b) (fun b hb => .inl (by rw [← hcnt']; exact hb)) (add_self ..) (fun s' x hs' hx => ?_)
  · rw [hcnt, if_pos hb.symm]; omega
  · refine ⟨h.keeps.os, h.keeps.tape, h.keeps.output, by rw [setRow_size]; exact h.keeps.size, fun b hb hm => ?_⟩
    by_cases hbn : b = blk vx
    · subst hbn
      rcases (k2 (.inl rfl)).2.1 rfl with h1 | h1
      · omega
      · exact (hm h1).elim
    · rw [setRow_other w _ b narr hbn]; exact h.keeps.block b hb hm
  · rw [rep_mem]
    refine ⟨⟨⟨L' + m, by rw [hb', ho', hc', hv'], by rw [List.length_append, Nat.add_mul, hts, hum], hz, by rw [hc']; exact hroom⟩, fun i hi => ?_⟩, fun _ => ?_, fun _ => ⟨narr, elem, by rw [hb']; exact hheap, by simp only [ho', hc', hnsz]; exact hrm⟩, fun hk => (hk rfl).elim, ?_⟩
    · rw [List.length_append] at hi
      rw [hb', ho']
      simp only [World.cell?, hheap, Option.isSome_none, Bool.false_eq_true, if_false]
      rw [Array.getElem?_eq_getElem (by omega)]
      rfl
    · rw [hb']
      obtain ⟨x1, x2, x3, _⟩ := k2 (.inl rfl)
      exact ⟨x1, x2, fun hk => (by cases hk), fun hk => (hk rfl).elim⟩
    · have hok : ∀ (xs : List T) (g : Nat → Value) (i : Nat), repL cx.fm (okR cx (Own (e.add q (.val (.tup (.mem .own (some sz) ts :: us)))) vl w)) (w.setRow (blk vx) narr) g i xs →
          repL cx.fm (okR cx (fun b => (∃ s u, s ≠ q ∧ e.add q (.val (.tup (.mem .own (some sz) ts :: us))) s = some (.val u) ∧ 1 ≤ cnt w (vl s) b u) ∨ 1 ≤ cnt (w.setRow (blk vx) narr) v' b (.mem .own (some sz) (ts ++ us)))) (w.setRow (blk vx) narr) g i xs := fun xs g i hx =>
        repL_ok (fun k b hk _ ho => okR_mono (fun hb => by
          rcases hb with ⟨s, u, _, hu, h1⟩ | h1
          · exact ⟨s, u, hu, h1⟩
          · rw [hcnt'] at h1; exact ⟨q, _, add_self .., h1⟩) ho) xs g i (fun b _ _ ho => ⟨ho.1, ho.2.1, ho.2.2.1, fun hk => (hk rfl).elim⟩) hx
      rw [repL_append, Nat.zero_add]
      refine ⟨repL_congr ts 0 (fun j _ hj => by rw [hkid j (by omega), if_pos (by omega)]) (hok ts _ 0 hfr1.1), ?_⟩
      have h9 := (repL_shift (fm := cx.fm) (ok := okR cx (fun b => (∃ s u, s ≠ q ∧ e.add q (.val (.tup (.mem .own (some sz) ts :: us))) s = some (.val u) ∧ 1 ≤ cnt w (vl s) b u) ∨ 1 ≤ cnt (w.setRow (blk vx) narr) v' b (.mem .own (some sz) (ts ++ us)))) (w := w.setRow (blk vx) narr) (g := kid (w.setRow (blk vx) narr) v') us 0 ts.length).2
      rw [Nat.zero_add] at h9
      refine h9 (repL_congr us 0 (fun j _ hj => ?_) (hok us _ 0 hfr2.1))
      rw [hkid (j + ts.length) (by omega), if_neg (by omega), Nat.add_sub_cancel]
  · rw [add_ne hs'] at hx
    refine ⟨hs', by rw [add_ne hs']; exact hx, fun r hrr => ?_⟩
    have hne : r ≠ q := fun e' => by subst e'; rw [(hc r (Nat.le_refl _)).2 s' x hx] at hrr; cases hrr
    exact ⟨hne, hne, by rw [add_ne hne, add_ne hne]⟩

end Go.Mch
