/- Appends, against the model's operation. -/
import Derived.Test.YtkdoegjnnfmpaaaYbO
namespace Go.Mch

theorem src_frame {e e1 : Env} {mv : Bool} {sz : Nat} {x : V} {us : List T} (h : e.src mv sz x = some (us, e1)) : e1 = e ∨ ∃ r, e1 = e.del r := by
  unfold Env.src at h
  split at h
  · cases h; exact .inl rfl
  · split at h
    · cases h; exact .inl rfl
    · cases h
  · split at h
    · split at h
      · split at h
        · split at h
          · cases h; exact .inr ⟨_, rfl⟩
          · cases h
        · split at h
          · cases h; exact .inl rfl
          · cases h
      · cases h
    · cases h
  · cases h

theorem clr_del {e : Env} {r q : Nat} (h : Clr e q) : Clr (e.del r) q := fun j hj => by
  have hj' := h j hj
  refine ⟨by simp only [Env.del, Env.kill]; split; rfl; rw [hj'.1], fun s x hx => hj'.2 s x (del_some hx).2.1⟩

theorem clr_src {e e1 : Env} {mv : Bool} {sz q : Nat} {x : V} {us : List T} (hc : Clr e q) (h : e.src mv sz x = some (us, e1)) : Clr e1 q := by
  rcases src_frame h with rfl | ⟨r, rfl⟩
  · exact hc
  · exact clr_del hc

section
variable {P : Program} {cx : Cx} {nt : Nat} {Kt : Env → Prop} {o : Oper} {a : Act} {w : World} {e : Env} {d : Nat}

theorem lenOf_slice {ad : Option Addr} {m c : Nat} : (Builtin.lenOf (.slice ad m c)).run P w = .ok m w := rfl

theorem first_arr {sz m c : Nat} {ad : Option Addr} {g : Nat → Value} {us : List T} (hl : us.length = m * sz) (hc : ∀ i, i < us.length → ∃ a', ad = some a' ∧ w.cell? (a'.add i) = some (g i)) :
    (Builtin.firstCells sz m (.slice ad m c)).run P w = .ok (arrOf us.length g).toList.toArray w := by
  cases ad with
  | none =>
    have h0 : us.length = 0 := by
      rcases Nat.eq_zero_or_pos us.length with h | h
      · exact h
      · obtain ⟨a', h1, _⟩ := hc 0 h; cases h1
    rw [h0]
    exact run_firstCells_none ..
  | some ad =>
    refine run_firstCells_some w sz m ad m c _ (by simp [arrOf_toList, hl]) fun j v hj => ?_
    rw [arrOf_toList] at hj
    simp only [List.getElem?_map] at hj
    rcases Nat.lt_or_ge j us.length with hlt | hge
    · rw [List.getElem?_range hlt] at hj
      cases hj
      obtain ⟨a', h1, h2⟩ := hc j hlt
      cases h1
      exact h2
    · rw [List.getElem?_eq_none (by simpa using hge)] at hj
      cases hj

theorem fit_bytes {n by_ sz c : Nat} (h : n * sz ≤ roomy) (hb : by_ ≤ 32768 * sz) (hg : c < n) : Builtin.nextslicecap n c * by_ ≤ 281474976710656 := by
  refine growslice_fits hg ?_
  have h1 : n * by_ ≤ n * (32768 * sz) := Nat.mul_le_mul_left _ hb
  have h2 : n * (32768 * sz) = 32768 * (n * sz) := Nat.mul_left_comm ..
  unfold roomy at h
  omega

/-- A float of a pointer and further cells, as one row. -/
theorem R.join {q sz : Nat} {ts us : List T} {vl : Vl} {vx : Value} {ys : Array Value} (h : R cx (e.add q (.val (.tup (.mem .own (some sz) ts :: us)))) vl w) (hc : Clr e q) (hy : vl q = .tuple (#[vx] ++ ys)) (hys : ys.size = us.length) :
    R cx (e.add q (.val (.tup (ts ++ us)))) (vadd vl q (.tuple (arrOf ts.length (kid w vx) ++ ys))) w := by
  have hr := srep_val h (add_self ..)
  rw [hy] at hr
  simp only [Mch.rep] at hr
  obtain ⟨_, hr⟩ := hr
  simp only [repL] at hr
  have hk0 : kid w (.tuple (#[vx] ++ ys)) 0 = vx := by
    simp only [kid, Array.getD_eq_getD_getElem?]
    rw [Array.getElem?_append_left (by simp)]
    simp
  have hk1 : ∀ j, kid w (.tuple (#[vx] ++ ys)) (j + 1) = ys.getD j undef := fun j => by
    simp only [kid, Array.getD_eq_getD_getElem?]
    rw [Array.getElem?_append_right (by simp)]
    simp
  obtain ⟨hr1, hr2⟩ := hr
  rw [hk0, rep_mem] at hr1
  have hr2' := (repL_shift us 0 1).1 hr2
  simp only [hk1] at hr2'
  have ha : ∀ j, j < ts.length → kid w (.tuple (arrOf ts.length (kid w vx) ++ ys)) j = kid w vx j := fun j hj => by
    show (arrOf ts.length (kid w vx) ++ ys).getD j undef = _
    rw [Array.getD_eq_getD_getElem?, Array.getElem?_append_left (by rw [arrOf_size]; exact hj), ← Array.getD_eq_getD_getElem?, arrOf_get hj]
  have hb : ∀ j, kid w (.tuple (arrOf ts.length (kid w vx) ++ ys)) (j + ts.length) = ys.getD j undef := fun j => by
    show (arrOf ts.length (kid w vx) ++ ys).getD (j + ts.length) undef = _
    rw [Array.getD_eq_getD_getElem?, Array.getElem?_append_right (by rw [arrOf_size]; omega), arrOf_size, Nat.add_sub_cancel, ← Array.getD_eq_getD_getElem?]
  refine h.refit hc ?_ fun b => ?_
  · simp only [Mch.rep]
    refine ⟨⟨_, rfl, by simp [arrOf_size, hys]⟩, ?_⟩
    rw [repL_append]
    refine ⟨repL_congr ts 0 (fun j _ hj => (ha j (by omega)).symm) hr1.2.2.2.2, ?_⟩
    refine (repL_shift us 0 ts.length).2 ?_
    simp only [hb]
    exact hr2'
  · rw [hy]
    simp only [cnt, cntL, if_true, hk0]
    rw [cntL_append, cntL_congr (g' := kid w vx) ts 0 (fun j _ hj => ha j (by omega)), cntL_shift us 0 ts.length, cntL_shift us 0 1]
    simp only [hb, hk1]
    omega

theorem good_app {mv : Bool} {sz by_ : Nat} {x y : Opd} {x' y' : Operand} {t u el : TypeId} {p q : V} {z : Option (List T) × Env} {us : List T} {e1 : Env} (hN : ∀ b, ¬ cx.N b) (h : Rel cx nt e a w)
    (hop : o.op = .call ⟨.builtin .append, #[x', y'], #[t, u]⟩) (hel : elOf P t = some el) (hsz : szOf P el = some sz) (hzo : (zeroOf P el).any (fun z => z.length == sz) = true) (hby : byOf P el = some by_) (hb : by_ ≤ 32768 * sz) (hz : 0 < sz)
    (hu : isSlice P u = true) (hx : okOpd cx.fm x x' = true) (hy : okOpd cx.fm y y' = true) (hd : o.dst = some d) (hlt : d < nt) (h1 : e.opd x = some p) (h2 : e.opd y = some q) (h3 : e.base sz p = some z) (h4 : z.2.src mv sz q = some (us, e1))
    (hl : (z.1.getD []).length + us.length ≤ roomy) (hcell : us.all T.isCell = true)
    (hK0 : z.1 = none → us = [] → Kt (e1.setD (some d) (.val (.sc (.slice none 0 0))))) (hK1 : z.1 = none → us ≠ [] → Kt (e1.setD (some d) (.val (.mem .own (some sz) us))))
    (hK2 : ∀ ts, z.1 = some ts → Kt (e1.setD (some d) (.val (.mem .own (some sz) (ts ++ us))))) : Good P cx nt Kt o a w := by
  have hut := elOf_spec hel
  obtain ⟨eu, heu⟩ := Option.isSome_iff_exists.1 hu
  have huu := elOf_spec heu
  obtain ⟨i, hi, hisz⟩ : ∃ i, P.info? el = some i ∧ i.size = sz := by
    unfold szOf at hsz
    cases hi : P.info? el with
    | none => rw [hi] at hsz; cases hsz
    | some i => rw [hi] at hsz; exact ⟨i, rfl, by simpa using hsz⟩
  have hibt : i.bytes = by_ := by simpa [byOf, hi] using hby
  obtain ⟨zv, hzv⟩ : ∃ z, i.zero = some z := by
    unfold zeroOf at hzo
    rw [hi] at hzo
    cases hz' : i.zero with
    | none => simp [hz'] at hzo
    | some z => exact ⟨z, rfl⟩
  have hex := h.opd hx h1
  have hey := h.opd hy h2
  subst hisz
  unfold Env.base at h3
  split at h3
  · -- onto nil
    cases h3
    have hvx := ar_sc hex
    obtain ⟨vl, g, m, c, ad, g1, g2, g3, g4, g5, g6, g7⟩ := src_sound h.r h.clr (Nat.le_refl _) (arw_of h.dom q _ hey) h4 hz
    simp only [Option.getD_none, List.length_nil, Nat.zero_add] at hl
    rcases Nat.eq_zero_or_pos us.length with h0 | h0
    · have hus : us = [] := List.length_eq_zero_iff.1 h0
      subst hus
      have hm : m = 0 := by
        rcases Nat.eq_zero_or_pos m with hm | hm
        · exact hm
        · have : 0 < m * i.size := Nat.mul_pos hm hz
          simp at g5; omega
      subst hm
      have h9 := g3.refit (t' := .sc (.slice none 0 0)) (v' := .slice none 0 0) g4 ⟨rfl, rfl⟩ (fun b => by simp [cnt])
      refine good_make h hd hlt ?_ h9 g4 (fun s hs => by rw [vadd_ne (by omega)]; exact g1 s hs) (vadd_self ..) (hK0 rfl rfl)
      have hfc := first_arr (P := P) (w := w) (c := c) g5 g7
      simp only [List.length_nil, arrOf, List.range_zero, List.map_nil] at hfc
      simp only [execOp, hop, resolve, invoke, builtin, List.map_toArray, List.map_cons, List.map_nil, hvx, g6, Sem.run_bind, run_app_nil hut huu hsz (lenOf_slice (w := w)) hfc, Result.andThen_ok, Sem.run_pure]
      try rfl
    · have hne : us ≠ [] := fun e' => by rw [e'] at h0; simp at h0
      have hm : 0 < m := by
        rcases Nat.eq_zero_or_pos m with hm | hm
        · rw [hm, Nat.zero_mul] at g5; omega
        · exact hm
      have hml : m ≤ us.length := by rw [g5]; exact Nat.le_mul_of_pos_right _ hz
      have hge := grownCap_ge w (0 + m) 0 el
      have hrun := run_app_grow (P := P) (w := w) (ty := o.type) (n := 0) (m := m) (c := 0) (ad := none) (vy := .slice ad m c) (olds := []) (news := (arrOf us.length g).toList) hut huu hi hzv (lenOf_slice (w := w)) (run_firstCells_none ..)
        (first_arr (P := P) (w := w.drew) (c := c) g5 g7) (by omega) (by unfold roomy at hl; omega) (fit_bytes (by rw [Nat.zero_add, ← g5]; exact hl) (by rw [hibt]; exact hb) (by omega))
      generalize hmc : grownCap w (0 + m) 0 el = gc at hrun hge
      have hal := g3.drew.alloc (s := some i.size) (v' := .slice (some ⟨w.heap.size, 0, none⟩) (0 + m) gc) (arr := #[] ++ (arrOf us.length g).toList.toArray ++ Builtin.zeroCells zv.cells (gc - (0 + m))) (elem := el) g4 hN g2 (fun j hj => by
          rw [Array.getElem?_append_left (by simp [arrOf_size]; omega)]
          have := arrOf_get (g := g) hj
          simp only [Array.empty_append, Array.toArray_toList]
          rw [Array.getD_eq_getD_getElem?, Array.getElem?_eq_getElem (by rw [arrOf_size]; exact hj)] at this ⊢
          rfl) rfl rfl ⟨0 + m, rfl, by rw [g5]; simp, hz, hge⟩ (by
          simp only [roomN, capOf, Array.size_append, List.size_toArray, Array.length_toList, arrOf_size, size_zeroCells, g5]
          have hzs : zv.cells.size = i.size := by
            unfold zeroOf at hzo
            rw [hi] at hzo
            simpa [hzv] using hzo
          rw [hzs]
          have : gc * i.size = m * i.size + (gc - (0 + m)) * i.size := by rw [← Nat.add_mul]; congr 1; omega
          have e0 : ([] : List Value).length = 0 := rfl
          omega)
      refine good_make h hd hlt ?_ hal g4 (fun s hs => by rw [vadd_ne (by omega)]; exact g1 s hs) (vadd_self ..) (hK1 rfl hne)
      simp only [execOp, hop, resolve, invoke, builtin, List.map_toArray, List.map_cons, List.map_nil, hvx, g6, Sem.run_bind, hrun, Result.andThen_ok, Sem.run_pure]
      try rfl
  · -- onto own memory
    rename_i r pp sz0 off len
    split at h3
    · rename_i sz1 ts e' htake
      split at h3
      · rename_i hs1
        subst hs1
        cases h3
        simp only [Option.getD_some] at hl
        obtain ⟨vl1, g1, g2, g3, g4, g4'⟩ := take_sound _ _ nt e (vlA a) h.r h.clr (Nat.le_refl _) (arw_of h.dom _ _ hex) htake
        have hy1 := arw_gen (vl' := vl1) (fun s hs => g1 s hs) (fun v t _ ht => rep_less g4' ht) q _ (arw_of h.dom q _ hey)
        have hsrc := src_add (q := nt) (t := .mem .own (some i.size) ts) (mv := mv) (sz := i.size) (Nat.le_refl _) (e := e') hy1
        rw [h4] at hsrc
        simp only [Option.map_some] at hsrc
        obtain ⟨vl2, g, m, c, ad, k1, k2, k3, k4, k5, k6, k7⟩ := src_sound g3 (g4.add _) (Nat.le_succ _) hy1 hsrc hz
        have hc1 : Clr e1 nt := clr_src g4 h4
        have hvq : vl2 nt = a.eval x' := by rw [k1 nt (by omega), g2]
        have hp := k3.pair (q1 := nt) (q2 := nt + 1) (d := nt) (t := .mem .own (some i.size) ts) (ts := us) (vs := arrOf us.length g) (e' := e1.add nt (.val (.tup (.mem .own (some i.size) ts :: us)))) (by rw [add_ne (by omega)]; exact add_self ..) (add_self ..) (by omega) k2
          (fun s x hs hx => by
            rw [add_ne hs] at hx
            have hsq1 : s ≠ nt + 1 := fun e' => by
              subst e'
              rw [(hc1 (nt + 1) (by omega)).1] at hx; cases hx
            refine ⟨hs, hsq1, by rw [add_ne hsq1, add_ne hs]; exact hx, fun r hr => ?_⟩
            have hr1 : r ≠ nt := fun e' => by subst e'; rw [(hc1 r (Nat.le_refl _)).2 s x hx] at hr; cases hr
            have hr2 : r ≠ nt + 1 := fun e' => by subst e'; rw [(hc1 (nt + 1) (by omega)).2 s x hx] at hr; cases hr
            exact ⟨hr1, by rw [add_ne hr1, add_ne hr2, add_ne hr1]⟩)
          (add_self ..)
        rw [hvq] at hp
        have hv9 : ∀ s, s < nt → vadd vl2 nt (.tuple (#[a.eval x'] ++ arrOf us.length g)) s = vlA a s := fun s hs => by rw [vadd_ne (by omega), k1 s (by omega)]; exact g1 s hs
        generalize hvv : vadd vl2 nt (.tuple (#[a.eval x'] ++ arrOf us.length g)) = vl at hp hv9
        have hvl : vl nt = .tuple (#[a.eval x'] ++ arrOf us.length g) := by rw [← hvv]; exact vadd_self ..
        -- the pointer's own shape
        have hr := srep_val hp (add_self ..)
        rw [hvl] at hr
        simp only [Mch.rep] at hr
        obtain ⟨_, hr⟩ := hr
        simp only [repL] at hr
        have hk0 : kid w (.tuple (#[a.eval x'] ++ arrOf us.length g)) 0 = a.eval x' := by
          simp only [kid, Array.getD_eq_getD_getElem?]
          rw [Array.getElem?_append_left (by simp)]
          simp
        obtain ⟨hr1, hr2⟩ := hr
        rw [hk0, rep_mem] at hr1
        obtain ⟨⟨⟨L, hL, hts, _, hLc⟩, hcl⟩, _, hroom, _, _⟩ := hr1
        obtain ⟨arr, elem, harr, hrm⟩ := hroom rfl
        simp only at hrm
        by_cases hfit : L + m ≤ capOf (a.eval x')
        · have hex' := hp.extend (L := L) (m := m) (arr := arr) (elem := elem) hc1 hvl hL k5 hfit harr arrOf_size hz
          refine good_make h hd hlt ?_ hex' hc1 (fun s hs => by rw [vadd_ne (by omega)]; exact hv9 s hs) (vadd_self ..) (hK2 ts rfl)
          have hone : ∀ v ∈ (arrOf us.length g).toList, v.oneCell' = true := fun v hv => by
            obtain ⟨j, hj, rfl⟩ := List.getElem_of_mem hv
            simp only [Array.length_toList, arrOf_size] at hj
            have hget : us[j]? = some us[j] := List.getElem?_eq_getElem hj
            have h8 := repL_get us 1 j hr2 hget
            have h9 : kid w (.tuple (#[a.eval x'] ++ arrOf us.length g)) (1 + j) = g j := by
              simp only [kid, Array.getD_eq_getD_getElem?]
              rw [Array.getElem?_append_right (by simp)]
              have := arrOf_get (g := g) hj
              rw [Array.getD_eq_getD_getElem?] at this
              simp only [List.size_toArray, List.length_cons, List.length_nil, Nat.zero_add, Nat.add_sub_cancel_left]
              exact this
            rw [h9] at h8
            rw [List.all_eq_true] at hcell
            have := (isCell_oneCell h8 (hcell _ (List.mem_of_getElem? hget))).1
            simpa [arrOf_toList] using this
          have hmul : (L + m) * i.size ≤ capOf (a.eval x') * i.size := Nat.mul_le_mul_right _ hfit
          rw [Nat.add_mul] at hmul
          have hst := run_storeCells_at P (blk (a.eval x')) (ofs (a.eval x') + L * i.size) elem (arrOf us.length g).toList 0 arr w harr (by simp only [Array.length_toList, arrOf_size]; omega) hone
          simp only [Nat.add_zero, Array.length_toList] at hst
          have hrun := run_app_room (P := P) (w := w) (ty := o.type) (n := L) (m := m) (c := capOf (a.eval x')) (ad := ⟨blk (a.eval x'), ofs (a.eval x'), none⟩) (vy := a.eval y') (news := (arrOf us.length g).toList) hut huu hsz
            (by rw [k6]; exact lenOf_slice) (by rw [k6]; exact first_arr k5 k7) hfit (by rw [addr_add]; exact hst)
          rw [← hL] at hrun
          simp only [execOp, hop, resolve, invoke, builtin, List.map_toArray, List.map_cons, List.map_nil, Sem.run_bind, Sem.run_pure, Result.andThen_ok, hrun]
        · have hj := hp.join hc1 hvl arrOf_size
          have hge := grownCap_ge w (L + m) (capOf (a.eval x')) el
          have hrun := run_app_grow (P := P) (w := w) (ty := o.type) (n := L) (m := m) (c := capOf (a.eval x')) (ad := some ⟨blk (a.eval x'), ofs (a.eval x'), none⟩) (vy := a.eval y') (olds := (arrOf ts.length (kid w (a.eval x'))).toList) (news := (arrOf us.length g).toList) hut huu hi hzv
            (by rw [k6]; exact lenOf_slice) (by
              refine run_firstCells_some _ i.size L _ L _ _ (by simp [arrOf_toList, hts]) fun j v hj => ?_
              rw [arrOf_toList, List.getElem?_map] at hj
              rcases Nat.lt_or_ge j ts.length with hlt | hge
              · rw [List.getElem?_range hlt] at hj
                cases hj
                rw [addr_add]
                exact cell_kid (s := some i.size) ⟨⟨L, hL, hts, hz, hLc⟩, hcl⟩ hlt
              · rw [List.getElem?_eq_none (by simpa using hge)] at hj
                cases hj) (by rw [k6]; exact first_arr (P := P) (w := w.drew) k5 k7) (by omega) (by
              have q1 : L ≤ ts.length := by rw [hts]; exact Nat.le_mul_of_pos_right _ hz
              have q2 : m ≤ us.length := by rw [k5]; exact Nat.le_mul_of_pos_right _ hz
              unfold roomy at hl; omega) (fit_bytes (by rw [Nat.add_mul, ← hts, ← k5]; exact hl) (by rw [hibt]; exact hb) (by omega))
          generalize hmc : grownCap w (L + m) (capOf (a.eval x')) el = gc at hrun hge
          have hal := hj.drew.alloc (s := some i.size) (v' := .slice (some ⟨w.heap.size, 0, none⟩) (L + m) gc) (arr := (arrOf ts.length (kid w (a.eval x'))).toList.toArray ++ (arrOf us.length g).toList.toArray ++ Builtin.zeroCells zv.cells (gc - (L + m))) (elem := el) hc1 hN (vadd_self ..) (fun j hj => by
              rw [List.length_append] at hj
              rw [Array.getElem?_append_left (by simp [arrOf_size]; omega)]
              simp only [Array.toArray_toList]
              rw [Array.getD_eq_getD_getElem?, Array.getElem?_eq_getElem (by simp [arrOf_size]; omega)]
              rfl) rfl rfl ⟨L + m, rfl, by rw [List.length_append, Nat.add_mul, hts, k5], hz, hge⟩ (by
              simp only [roomN, capOf, Array.size_append, List.size_toArray, Array.length_toList, arrOf_size, size_zeroCells, hts, k5]
              have hzs : zv.cells.size = i.size := by
                unfold zeroOf at hzo
                rw [hi] at hzo
                simpa [hzv] using hzo
              rw [hzs]
              have : gc * i.size = (L + m) * i.size + (gc - (L + m)) * i.size := by rw [← Nat.add_mul]; congr 1; omega
              rw [Nat.add_mul] at this
              omega)
          refine good_make h hd hlt ?_ hal hc1 (fun s hs => by rw [vadd_ne (by omega), vadd_ne (by omega)]; exact hv9 s hs) (vadd_self ..) (hK2 ts rfl)
          rw [← hL] at hrun
          simp only [execOp, hop, resolve, invoke, builtin, List.map_toArray, List.map_cons, List.map_nil, Sem.run_bind, Sem.run_pure, Result.andThen_ok, hrun]
      · cases h3
    · cases h3
  · cases h3

end
end Go.Mch
