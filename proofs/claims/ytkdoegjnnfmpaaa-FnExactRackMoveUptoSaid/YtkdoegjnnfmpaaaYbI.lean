/- The operations that make memory. -/
import Derived.Test.YtkdoegjnnfmpaaaYbH
namespace Go.Mch

theorem heap_alloc_lt (w : World) (o : Obj) {b : Nat} (hb : b < w.heap.size) : (w.alloc o).heap[b]? = w.heap[b]? := by
  show (w.heap.push o)[b]? = _
  rw [Array.getElem?_push, if_neg (by omega)]

theorem heap_alloc_at (w : World) (o : Obj) : (w.alloc o).heap[w.heap.size]? = some o := by
  show (w.heap.push o)[w.heap.size]? = _
  rw [Array.getElem?_push, if_pos rfl]

theorem Keeps.alloc {M : Nat → Prop} {w0 w : World} (h : Keeps M w0 w) (o : Obj) : Keeps M w0 (w.alloc o) :=
  ⟨h.os, h.tape, h.output, by have := h.size; simp; omega, fun b hb hm => by rw [heap_alloc_lt _ _ (by have := h.size; omega)]; exact h.block b hb hm⟩

theorem Keeps.drew {M : Nat → Prop} {w0 w : World} (h : Keeps M w0 w) : Keeps M w0 w.drew := ⟨h.os, h.tape, h.output, h.size, h.block⟩

theorem R.drew {cx : Cx} {e : Env} {vl : Vl} {w : World} (h : R cx e vl w) : R cx e vl w.drew :=
  h.world (w' := w.drew) (touch := fun _ => False) (fun _ _ _ => rfl) (fun _ _ _ _ h => h) (fun _ _ _ _ h => h.elim) h.keeps.drew (fun _ hb => .inl hb)

def roomN (c n : Nat) : Option Nat → Nat
  | none => n
  | some sz => c * sz

/-- A row of trees that lies apart becomes the content of a new block. -/
theorem R.alloc {cx : Cx} {e : Env} {vl : Vl} {w : World} {q : Nat} {us : List T} {ys arr : Array Value} {elem : TypeId} {s : Option Nat} {v' : Value} (h : R cx (e.add q (.val (.tup us))) vl w) (hc : Clr e q) (hN : ∀ b, ¬ cx.N b)
    (hy : vl q = .tuple ys) (harr : ∀ i, i < us.length → arr[i]? = some (ys.getD i undef)) (hb : blk v' = w.heap.size) (ho : ofs v' = 0)
    (hs : match s with
      | none => v' = .pointer (some ⟨w.heap.size, 0, none⟩)
      | some sz => ∃ len, v' = .slice (some ⟨w.heap.size, 0, none⟩) len (capOf v') ∧ us.length = len * sz ∧ 0 < sz ∧ len ≤ capOf v')
    (hroom : roomN (capOf v') us.length s ≤ arr.size) :
    R cx (e.add q (.val (.mem .own s us))) (vadd vl q v') (w.alloc (.cells arr elem)) := by
  have h1 := h.world (w' := w.alloc (.cells arr elem)) (touch := fun _ => False) (N := fun b => b = w.heap.size) (fun b hb _ => heap_alloc_lt _ _ hb) (fun _ _ _ _ h => h) (fun _ _ _ _ h => h.elim) (h.keeps.alloc _)
    (fun b hb => .inr (by omega))
  obtain ⟨who, hw⟩ := h1.who
  have hnew := heap_alloc_at w (.cells arr elem)
  have hr := srep_val h1 (add_self ..)
  rw [hy] at hr
  simp only [Mch.rep] at hr
  obtain ⟨⟨_, hyy, hsz⟩, hr⟩ := hr
  cases hyy
  have hcell : ∀ i, i < us.length → (w.alloc (.cells arr elem)).cell? ⟨w.heap.size, i, none⟩ = some (ys.getD i undef) := fun i hi => by
    simp only [World.cell?, hnew]
    exact harr i hi
  have hkid : ∀ i, i < us.length → kid (w.alloc (.cells arr elem)) v' i = ys.getD i undef := fun i hi => by
    have hcl := hcell i hi
    cases s with
    | none => simp only at hs; rw [hs]; simp [kid, hcl]
    | some sz => simp only at hs; obtain ⟨len, h6, _⟩ := hs; rw [h6]; simp [kid, hcl]
  have hcnt : ∀ b, cnt (w.alloc (.cells arr elem)) v' b (.mem .own s us) = (if w.heap.size = b then 1 else 0) + cnt (w.alloc (.cells arr elem)) (vl q) b (.tup us) := fun b => by
    rw [cnt_own, hb, hy]
    congr 1
    simp only [cnt]
    exact cntL_congr us 0 fun j _ hj => by rw [hkid j (by omega)]; rfl
  have hnot : ∀ b, Own (e.add q (.val (.tup us))) vl (w.alloc (.cells arr elem)) b → b < w.heap.size := by
    rintro b ⟨s', t, ht, hc'⟩
    have hz : Own (e.add q (.val (.tup us))) vl w b := ⟨s', t, ht, by
      have := (frame (w' := w.alloc (.cells arr elem)) (touch := fun _ => False) (fun b hb _ => heap_alloc_lt _ _ hb) (fun _ _ _ _ h => h) t _ (srep_val h ht) (fun _ h => h.elim)).2 b
      omega⟩
    obtain ⟨s'', t', ht', hc''⟩ := hz
    exact (rep_owned t' _ (srep_val h ht') b hc'').2
  have h2 := h1.retag (w' := w.alloc (.cells arr elem)) (touch := fun _ => False) (q := q) (d := q) (t' := .mem .own s us) (v' := v') (e' := e.add q (.val (.mem .own s us))) (add_self ..) (fun _ _ _ => rfl) (fun _ h => h.elim) h1.keeps ?_ ?_ ?_ (add_self ..) ?_
  · have h3 := h2.unN (N := cx.N) (fun b hb => (hN b hb).elim)
    exact h3
  · rw [rep_mem]
    refine ⟨⟨?_, fun i hi => ?_⟩, fun _ => ?_, fun _ => ⟨arr, elem, by rw [hb]; exact hnew, by rw [ho, Nat.zero_add]; cases s <;> exact hroom⟩, fun hk => (hk rfl).elim, ?_⟩
    · cases s with
      | none => simp only at hs ⊢; rw [hb, ho]; exact hs
      | some sz => simp only at hs ⊢; rw [hb, ho]; exact hs
    · rw [hb, ho, Nat.zero_add, hcell i hi]; rfl
    · rw [hb]
      exact ⟨fun hA => by have := cx.hA _ hA; have := h.keeps.size; omega, fun _ => .inl h.keeps.size, fun hk => (by cases hk), fun hk => (hk rfl).elim⟩
    · refine repL_congr (g := kid (w.alloc (.cells arr elem)) (.tuple ys)) us 0 (fun j _ hj => by rw [hkid j (by omega)]; rfl) ?_
      refine repL_ok (fun k b hk _ ho => ⟨ho.1, ho.2.1, ho.2.2.1, fun hk => ⟨fun h3 => ?_, (ho.2.2.2 hk).2⟩⟩) us _ 0 (fun b _ _ ho => ⟨ho.1, ho.2.1, ho.2.2.1, fun hk => (hk rfl).elim⟩) hr
      rcases h3 with ⟨s', u, hs', hu, h4⟩ | h4
      · exact (ho.2.2.2 hk).1 ⟨s', u, hu, h4⟩
      · rw [hcnt] at h4
        by_cases hb' : w.heap.size = b
        · exact (ho.2.2.2 hk).2 hb'.symm
        · rw [if_neg hb'] at h4
          exact (ho.2.2.2 hk).1 ⟨q, _, add_self .., by omega⟩
  · intro b
    rw [hcnt]
    have h3 := (hw q _ (add_self ..) b).1
    by_cases hb' : w.heap.size = b
    · rcases Nat.eq_zero_or_pos (cnt (w.alloc (.cells arr elem)) (vl q) b (.tup us)) with h4 | h4
      · rw [if_pos hb']; omega
      · have := hnot b ⟨q, _, add_self .., h4⟩
        omega
    · rw [if_neg hb']; omega
  · intro b h3
    rw [hcnt] at h3
    by_cases hb' : w.heap.size = b
    · exact .inr ⟨hb'.symm, fun h4 => by have := hnot b h4; omega⟩
    · rw [if_neg hb'] at h3
      exact .inl (by omega)
  · intro s' x hs' hx
    rw [add_ne hs'] at hx
    refine ⟨hs', by rw [add_ne hs']; exact hx, fun r hrr => ?_⟩
    have hne : r ≠ q := fun e' => by subst e'; rw [(hc r (Nat.le_refl _)).2 s' x hx] at hrr; cases hrr
    exact ⟨hne, hne, by rw [add_ne hne, add_ne hne]⟩

theorem isCell_oneCell {fm : Nat → Nat} {ok : K → Nat → Prop} {w : World} {v : Value} {t : T} (h : rep fm ok w v t) (hc : t.isCell = true) : v.oneCell' = true ∧ v.cells = #[v] := by
  cases t <;> simp only [T.isCell] at hc <;> try cases hc
  · simp only [rep] at h
    obtain ⟨rfl, h⟩ := h
    cases v <;> simp_all [scal, Value.oneCell', Value.cells]
  · rename_i k s ts
    rw [rep_mem] at h
    obtain ⟨⟨h, _⟩, _⟩ := h
    cases s with
    | none => simp only at h; rw [h]; exact ⟨rfl, rfl⟩
    | some sz => simp only at h; obtain ⟨len, h, _⟩ := h; rw [h]; exact ⟨rfl, rfl⟩
  · simp only [rep] at h
    obtain ⟨⟨cs, rfl, _⟩, _⟩ := h
    exact ⟨rfl, rfl⟩

/-- A float as the row of its cells. -/
theorem R.cells {cx : Cx} {e : Env} {vl : Vl} {w : World} {q : Nat} {t : T} (h : R cx (e.add q (.val t)) vl w) (hc : Clr e q) (hcell : t.cells.all T.isCell = true) :
    R cx (e.add q (.val (.tup t.cells))) (vadd vl q (.tuple (vl q).cells)) w ∧ (vl q).cells.size = t.cells.length ∧ ∀ i, i < t.cells.length → ((vl q).cells.getD i undef).oneCell' = true := by
  have hr := srep_val h (add_self ..)
  have hone : ∀ (ts : List T) (g : Nat → Value) (i : Nat), ts.all T.isCell = true → repL cx.fm (okR cx (Own (e.add q (.val t)) vl w)) w g i ts → ∀ j, j < ts.length → (g (i + j)).oneCell' = true := by
    intro ts
    induction ts with
    | nil => intro g i _ _ j hj; simp at hj
    | cons u ts ih =>
      intro g i ha hr j hj
      simp only [List.all_cons, Bool.and_eq_true] at ha
      cases j with
      | zero => exact (isCell_oneCell hr.1 ha.1).1
      | succ j =>
        have := ih g (i + 1) ha.2 hr.2 j (by simpa using hj)
        rwa [show i + 1 + j = i + (j + 1) from by omega] at this
  by_cases hag : ∃ ts, t = .agg ts
  · obtain ⟨ts, rfl⟩ := hag
    simp only [T.cells] at hcell ⊢
    simp only [Mch.rep] at hr
    obtain ⟨⟨cs, hv, hsz⟩, hr⟩ := hr
    rw [hv] at hr ⊢
    simp only [Value.cells]
    refine ⟨h.refit hc ?_ fun b => ?_, hsz, fun i hi => ?_⟩
    · simp only [Mch.rep]; exact ⟨⟨cs, rfl, hsz⟩, hr⟩
    · rw [hv]; exact Nat.le_refl _
    · have := hone ts _ 0 hcell hr i hi
      simpa [kid] using this
  · have ht : t.cells = [t] := by
      cases t <;> try rfl
      exact (hag ⟨_, rfl⟩).elim
    rw [ht] at hcell ⊢
    simp only [List.all_cons, List.all_nil, Bool.and_true] at hcell
    obtain ⟨h1, h2⟩ := isCell_oneCell hr hcell
    rw [h2]
    refine ⟨h.refit hc ?_ fun b => ?_, rfl, fun i hi => ?_⟩
    · simp only [Mch.rep, repL]
      exact ⟨⟨_, rfl, rfl⟩, by simpa [kid] using hr, trivial⟩
    · simp [cnt, cntL, kid]
    · simp at hi; subst hi; simpa using h1

section
variable {P : Program} {cx : Cx} {nt : Nat} {Kt : Env → Prop} {o : Oper} {a : Act} {w : World} {e : Env} {d : Nat}

/-- A tree that an operation makes lands in its slot. -/
theorem good_make {v : Value} {w' : World} {e1 : Env} {vl : Vl} {t : T} (h : Rel cx nt e a w) (hd : o.dst = some d) (hlt : d < nt) (hrun : (execOp a.eval o).run P w = .ok (.value v) w') (hr : R cx (e1.add nt (.val t)) vl w') (hc : Clr e1 nt)
    (hv : ∀ s, s < nt → vl s = vlA a s) (hvn : vl nt = v) (hK : Kt (e1.setD (some d) (.val t))) : Good P cx nt Kt o a w :=
  good_value hrun hK (by rw [hd, ← hvn]; exact Rel.land h.size h.defers hr hc hv hlt)

theorem Rel.take {cx : Cx} {nt : Nat} {e : Env} {a : Act} {w : World} (h : Rel cx nt e a w) {v : Value} {x : V} {t : T} {e1 : Env} (hx : AR cx e a w v x) (ht : e.take x = some (t, e1)) :
    ∃ vl, (∀ s, s < nt → vl s = vlA a s) ∧ vl nt = v ∧ R cx (e1.add nt (.val t)) vl w ∧ Clr e1 nt := by
  obtain ⟨vl, h1, h2, h3, h4, _⟩ := take_sound x v nt e (vlA a) h.r h.clr (Nat.le_refl _) (arw_of h.dom x v hx) ht
  exact ⟨vl, h1, h2, h3, h4⟩

theorem good_asg {x : Opd} {x' : Operand} {v : V} {t : T} {e1 : Env} (h : Rel cx nt e a w) (hop : o.op = .assign x') (ho : okOpd cx.fm x x' = true) (hd : o.dst = some d) (hlt : d < nt) (he : e.opd x = some v) (ht : e.take v = some (t, e1))
    (hK : Kt (e1.setD (some d) (.val t))) : Good P cx nt Kt o a w := by
  obtain ⟨vl, h1, h2, h3, h4⟩ := h.take (h.opd ho he) ht
  refine good_make h hd hlt ?_ h3 h4 h1 h2 hK
  simp [execOp, hop]

theorem zeroOf_spec {t : TypeId} {zs : List Value} (h : (zeroOf P t).any (eqCL zs ·) = true) : ∃ i z, P.info? t = some i ∧ i.zero = some z ∧ z.cells.toList = zs ∧ ∀ x ∈ zs, scal x = true := by
  unfold zeroOf at h
  cases hi : P.info? t with
  | none => rw [hi] at h; simp at h
  | some i =>
    rw [hi] at h
    cases hz : i.zero with
    | none => simp [hz] at h
    | some z =>
      simp only [Option.bind_some, hz, Option.map_some, Option.any_some] at h
      obtain ⟨h1, h2⟩ := eqCL_spec h
      exact ⟨i, z, rfl, hz, h1.symm, h2⟩

theorem run_zero {t : TypeId} {i : TypeInfo} {z : Value} (hi : P.info? t = some i) (hz : i.zero = some z) : (zeroValue t).run P w = .ok z w := by
  simp [zeroValue, typeInfo, hi, hz]

theorem noOwnL_sc (zs : List Value) : T.noOwnL (zs.map .sc) = true := by
  induction zs with
  | nil => rfl
  | cons z zs ih => simp [T.noOwn, ih]

/-- Constants in a row, as a float. -/
theorem Rel.consts {cx : Cx} {nt : Nat} {e : Env} {a : Act} {w : World} (h : Rel cx nt e a w) (arr : Array Value) (hs : ∀ x ∈ arr.toList, scal x = true) :
    R cx (e.add nt (.val (.tup (arr.toList.map .sc)))) (vadd (vlA a) nt (.tuple arr)) w := by
  refine h.r.addA (h.dom nt (Nat.le_refl _)) ⟨by simpa [T.noOwn] using noOwnL_sc arr.toList, ?_⟩
  simp only [Mch.rep]
  refine ⟨⟨arr, rfl, by simp⟩, ?_⟩
  have : ∀ (zs : List Value) (g : Nat → Value) (i : Nat), (∀ j, j < zs.length → g (i + j) = zs.getD j undef) → (∀ x ∈ zs, scal x = true) → repL cx.fm (okR cx (Own e (vlA a) w)) w g i (zs.map .sc) := by
    intro zs
    induction zs with
    | nil => intros; trivial
    | cons z zs ih =>
      intro g i hg hz
      refine ⟨⟨by have := hg 0 (by simp); simpa using this, hz z (by simp)⟩, ih g (i + 1) (fun j hj => ?_) (fun x hx => hz x (by simp [hx]))⟩
      have := hg (j + 1) (by simpa using hj)
      rw [show i + 1 + j = i + (j + 1) from by omega]
      simpa using this
  exact this arr.toList _ 0 (fun j hj => by simp [kid, Array.getD_eq_getD_getElem?, List.getD_eq_getElem?_getD]) hs

theorem good_alloc {t : TypeId} {zs : List Value} (hN : ∀ b, ¬ cx.N b) (h : Rel cx nt e a w) (hop : o.op = .alloc t) (hz : (zeroOf P t).any (eqCL zs ·) = true) (hd : o.dst = some d) (hlt : d < nt)
    (hK : Kt (e.setD (some d) (.val (.mem .own none (zs.map .sc))))) : Good P cx nt Kt o a w := by
  obtain ⟨i, z, hi, hz1, rfl, hsc⟩ := zeroOf_spec hz
  have h1 := h.consts z.cells hsc
  have h2 := h1.alloc (s := none) (v' := .pointer (some ⟨w.heap.size, 0, none⟩)) (arr := z.cells) (elem := t) h.clr hN (vadd_self ..) (fun j hj => by
    simp only [List.length_map, Array.length_toList] at hj
    simp [hj]) rfl rfl rfl (by simp [roomN])
  refine good_make h hd hlt ?_ h2 h.clr (fun s hs => by rw [vadd_ne (by omega), vadd_ne (by omega)]) (vadd_self ..) hK
  simp [execOp, hop, Instr.alloc, run_zero hi hz1, newVar, newRow]

theorem good_box {x : Opd} {x' : Operand} {ty : TypeId} {v : V} {t : T} {e1 : Env} (hN : ∀ b, ¬ cx.N b) (h : Rel cx nt e a w) (hop : o.op = .box ty x') (ho : okOpd cx.fm x x' = true) (hd : o.dst = some d) (hlt : d < nt) (he : e.opd x = some v) (ht : e.take v = some (t, e1))
    (hcell : t.cells.all T.isCell = true) (hK : Kt (e1.setD (some d) (.val (.mem .own none t.cells)))) : Good P cx nt Kt o a w := by
  obtain ⟨vl, h1, h2, h3, h4⟩ := h.take (h.opd ho he) ht
  obtain ⟨h5, h6, _⟩ := h3.cells h4 hcell
  have h7 := h5.alloc (s := none) (v' := .pointer (some ⟨w.heap.size, 0, none⟩)) (arr := (vl nt).cells) (elem := ty) h4 hN (vadd_self ..) (fun j hj => by
    have hj' : j < (vl nt).cells.size := by omega
    simp [hj']) rfl rfl rfl (by simp [roomN, h6])
  refine good_make h hd hlt ?_ h7 h4 (fun s hs => by rw [vadd_ne (by omega), vadd_ne (by omega)]; exact h1 s hs) (vadd_self ..) hK
  simp [execOp, hop, Instr.box, newVar, newRow, h2]

theorem good_mks {n : Opd} {l c : Operand} {t el : TypeId} {z : Value} {m : Int} {by_ : Nat} (hN : ∀ b, ¬ cx.N b) (h : Rel cx nt e a w) (hop : o.op = .makeSlice t l c) (hel : elOf P t = some el) (hsz : szOf P el = some 1) (hz : (zeroOf P el).any (eqCL [z] ·) = true) (hby : byOf P el = some by_) (hb : by_ ≤ 65536)
    (hl : okOpd cx.fm n l = true) (hc : okOpd cx.fm n c = true) (hd : o.dst = some d) (hlt : d < nt) (he : (e.opd n).bind asI = some m) (h0 : 0 ≤ m) (h1 : m ≤ (roomy : Int))
    (hK : Kt (e.setD (some d) (.val (.mem .own (some 1) (List.replicate m.toNat (.sc z)))))) : Good P cx nt Kt o a w := by
  obtain ⟨k, hk⟩ := asI_spec he
  have e1 := ar_sc (h.opd hl hk)
  have e2 := ar_sc (h.opd hc hk)
  obtain ⟨i, zv, hi, hzv, hzc, hsc⟩ := zeroOf_spec hz
  have hisz : i.size = 1 := by simpa [szOf, hi] using hsz
  have hiby : i.bytes = by_ := by simpa [byOf, hi] using hby
  unfold roomy at h1
  have hmk := run_make (P := P) w t el i zv (elOf_spec hel) hi hzv k k m m h0 (Int.le_refl _) (by
    rw [hiby]
    have : (by_ : Int) * m ≤ 65536 * 4294967296 := Int.mul_le_mul (by omega) h1 h0 (by omega)
    omega) (by omega)
  have hz1 : zv.cells = #[z] := by rw [← Array.toList_inj]; exact hzc
  have hcells : madeCells zv.cells (m.toNat * i.size) = Array.replicate m.toNat z := by
    rw [hz1, hisz, Nat.mul_one]
    apply Array.ext
    · simp [madeCells]
    · intro j h1 h2
      simp [madeCells, Nat.mod_one]
  have h3 := h.consts (Array.replicate m.toNat z) (fun x hx => by
    simp at hx
    rw [hx.2]
    exact hsc z (by simp))
  simp only [Array.toList_replicate, List.map_replicate] at h3
  have h4 := h3.alloc (s := some 1) (v' := .slice (some ⟨w.heap.size, 0, none⟩) m.toNat m.toNat) (arr := Array.replicate m.toNat z) (elem := el) h.clr hN (vadd_self ..) (fun j hj => by
    simp only [List.length_replicate] at hj
    simp [hj]) rfl rfl ⟨m.toNat, rfl, by simp, by omega, Nat.le_refl _⟩ (by simp [roomN, capOf])
  refine good_make h hd hlt ?_ h4 h.clr (fun s hs => by rw [vadd_ne (by omega), vadd_ne (by omega)]) (vadd_self ..) hK
  simp only [execOp, hop, e1, e2, Sem.run_bind, hmk, Result.andThen_ok, Sem.run_pure, hcells]

end
end Go.Mch
