/- Stores, slices of slices, literals, appends: against the model's operations. -/
import Derived.Test.YtkdoegjnnfmpaaaYbJ
namespace Go.Mch

section
variable {P : Program} {cx : Cx} {nt : Nat} {Kt : Env → Prop} {o : Oper} {a : Act} {w : World} {e : Env} {d : Nat}

theorem good_st {n : Option Nat} {x y : Opd} {x' y' : Operand} {t : TypeId} {v : V} {t1 : T} {e1 : Env} {r off : Nat} {p : List Nat} {s : Option Nat} {ts : List T} (h : Rel cx nt e a w) (hop : o.op = .store t x' y') (hsz : szOf P t = some (n.getD 1))
    (hx : okOpd cx.fm x x' = true) (hy : okOpd cx.fm y y' = true) (hd : o.dst = none) (h1 : e.opd x = some (.pref r p off)) (h2 : e.opd y = some v) (h3 : e.take v = some (t1, e1)) (h4 : e1.tree r p = some (.mem .own s ts))
    (hn : t1.cells.length = n.getD 1) (hl : off + t1.cells.length ≤ ts.length) (hcell : t1.cells.all T.isCell = true) (hK : Kt (e1.puts r p off t1.cells)) : Good P cx nt Kt o a w := by
  obtain ⟨vl, g1, g2, g3, g4⟩ := h.take (h.opd hy h2) h3
  obtain ⟨g5, g6, g7⟩ := g3.cells g4 hcell
  have hax := h.opd hx h1
  simp only [AR, arep] at hax
  obtain ⟨t0, s0, ts0, k1, k2, k3, k4⟩ := hax
  have hrn : r < nt := by
    rcases Nat.lt_or_ge r nt with h' | h'
    · exact h'
    · rw [h.dom r h'] at k1; cases k1
  have hvr : vadd vl nt (.tuple (vl nt).cells) r = vlA a r := by rw [vadd_ne (by omega)]; exact g1 r hrn
  have htr' : (e1.add nt (.val (.tup t1.cells))).tree r p = some (.mem .own s ts) := by rw [tree_add (by omega)]; exact h4
  obtain ⟨t2, q1, q2⟩ := tree_some htr'
  have hnode := (focus p t2 _ (srep_val g5 q1) q2).1
  rw [hvr, rep_mem] at hnode
  obtain ⟨_, _, m3, _, _⟩ := hnode
  obtain ⟨arr, elem, m4, m5⟩ := m3 rfl
  have hst := g5.store (r := r) (p := p) (off := off) (arr := arr) (elem := elem) g4 (by omega) (vadd_self ..) h4 hl (by rw [hvr]; exact m4) g6.symm
  rw [hvr] at hst
  obtain ⟨t3, q3, q4⟩ := tree_some h4
  obtain ⟨_, hp2⟩ := puts_spec t1.cells e1 r p off t3 s ts q3 q4 hl
  refine good_skip (e' := e1.puts r p off t1.cells) (w' := w.setRow (blk (nodeV w (vlA a r) p)) (arr.toList.take (ofs (nodeV w (vlA a r) p) + off) ++ (vl nt).cells.toList ++ arr.toList.drop (ofs (nodeV w (vlA a r) p) + off + (vl nt).cells.size)).toArray) ?_ hK ?_
  · have hfit : ofs (nodeV w (vlA a r) p) + off + (vl nt).cells.size ≤ arr.size := by
      have hshp := (focus p t2 _ (srep_val g5 q1) q2).1
      rw [hvr, rep_mem] at hshp
      obtain ⟨⟨z1, _⟩, _⟩ := hshp
      have hts : ofs (nodeV w (vlA a r) p) + ts.length ≤ arr.size := by
        cases s with
        | none => exact m5
        | some sz =>
          obtain ⟨len, _, h2, _, h4⟩ := z1
          have : len * sz ≤ capOf (nodeV w (vlA a r) p) * sz := Nat.mul_le_mul_right _ h4
          simp only at m5
          omega
      omega
    have hrun := run_storeCells_at P (blk (nodeV w (vlA a r) p)) (ofs (nodeV w (vlA a r) p) + off) elem (vl nt).cells.toList 0 arr w m4 (by simpa using hfit) (fun v hv => by
      obtain ⟨i, hi, rfl⟩ := List.getElem_of_mem hv
      have := g7 i (by simp at hi; omega)
      simp only [Array.getD_eq_getD_getElem?] at this
      simp only [Array.length_toList] at hi
      rw [Array.getElem?_eq_getElem hi] at this
      simpa using this)
    simp only [Nat.add_zero, Array.length_toList] at hrun
    have hcs : (a.eval y').cells.size = n.getD 1 := by rw [← g2, g6, hn]
    simp only [execOp, hop, Instr.storeAt, k4, Instr.sureAddr, storeVar, Sem.run_bind, Sem.run_pure, Result.andThen_ok, run_szOf hsz, hcs, ne_eq, not_true, if_false]
    rw [g2] at hrun
    rw [hrun]
    simp [g2]
  · rw [hd]
    refine ⟨?_, fun j hj => ?_, h.size, h.defers⟩
    · refine hst.congr fun s' y hy => ?_
      have hs' : s' < nt := by
        rcases Nat.lt_or_ge s' nt with h' | h'
        · exact h'
        · have := (hp2 s' y (by omega) hy).1
          rw [(g4 s' h').1] at this; cases this
      show vlA a s' = _
      rw [vadd_ne (by omega)]; exact (g1 s' hs').symm
    · cases hj' : e1.puts r p off t1.cells j with
      | none => rfl
      | some y =>
        have := (hp2 j y (by omega) hj').1
        rw [(g4 j hj).1] at this; cases this

theorem opt_asI {e : Env} {lo : Option Opd} {l : Option Int} (h : e.optI lo = some l) :
    (lo = none ∧ l = none) ∨ ∃ i n, lo = some i ∧ l = some n ∧ (e.opd i).bind asI = some n := by
  cases lo with
  | none => simp only [Env.optI, Option.some.injEq] at h; exact .inl ⟨rfl, h.symm⟩
  | some i =>
    simp only [Env.optI] at h
    cases hi : (e.opd i).bind asI with
    | none => rw [hi] at h; cases h
    | some n => rw [hi] at h; simp only [Option.map_some, Option.some.injEq] at h; exact .inr ⟨i, n, rfl, h.symm, hi⟩

theorem run_bounds {P : Program} {w : World} {len cap : Nat} {lo hi : Option Value} {l h : Int} (hlo : lo = none ∧ l = 0 ∨ ∃ k, lo = some (.int k l)) (hhi : hi = none ∧ h = (len : Int) ∨ ∃ k, hi = some (.int k h)) (h0 : 0 ≤ l) (h1 : l ≤ h) (h2 : h ≤ (cap : Int)) :
    (Instr.sliceBounds true len cap lo hi none).run P w = .ok (l.toNat, h.toNat, cap) w := by
  have hl : l ≤ (h.toNat : Int) := by omega
  rcases hlo with ⟨rfl, rfl⟩ | ⟨k, rfl⟩ <;> rcases hhi with ⟨rfl, rfl⟩ | ⟨k', rfl⟩ <;> simp [Instr.sliceBounds, Instr.sliceBound, asIntOf] <;> (try (have hh : 0 ≤ h := by omega)) <;> simp_all <;> (intros; omega)

theorem good_sl {sz : Nat} {x : Opd} {lo hi : Option Opd} {x' : Operand} {lo' hi' : Option Operand} {t el : TypeId} {p v : V} {l hh : Option Int} (h : Rel cx nt e a w) (hop : o.op = .slice t x' lo' hi' none) (hel : elOf P t = some el) (hsz : szOf P el = some sz) (hz : 0 < sz)
    (hx : okOpd cx.fm x x' = true) (hlo : okOpt cx.fm lo lo' = true) (hhi : okOpt cx.fm hi hi' = true) (hd : o.dst = some d) (hlt : d < nt) (h1 : e.opd x = some p)
    (h2 : e.optI lo = some l) (h3 : e.optI hi = some hh) (h4 : slV sz p l hh = some v) (hK : Kt (e.setD (some d) v)) : Good P cx nt Kt o a w := by
  have hu := elOf_spec hel
  have hev : ∀ {i : Option Opd} {i' : Option Operand} {m : Option Int}, okOpt cx.fm i i' = true → e.optI i = some m →
      (i'.map a.eval = none ∧ m = none) ∨ ∃ k n, i'.map a.eval = some (.int k n) ∧ m = some n := by
    intro i i' m ho hm
    rcases opt_asI hm with ⟨rfl, rfl⟩ | ⟨j, n, rfl, rfl, hj⟩
    · cases i' <;> simp [okOpt] at ho
      exact .inl ⟨rfl, rfl⟩
    · cases i' with
      | none => simp [okOpt] at ho
      | some j' =>
        simp only [okOpt] at ho
        obtain ⟨k, hk⟩ := asI_spec hj
        exact .inr ⟨k, n, by simp [ar_sc (h.opd ho hk)], rfl⟩
  have e1 := h.opd hx h1
  have hl := hev hlo h2
  have hr := hev hhi h3
  have hrun : ∀ (ad : Addr) (len cap : Nat), ad.spot = none → a.eval x' = .slice (some ad) len cap → 0 ≤ l.getD 0 → l.getD 0 ≤ hh.getD (len : Int) → hh.getD (len : Int) ≤ (cap : Int) →
      (execOp a.eval o).run P w = .ok (.value (.slice (some (if cap = (l.getD 0).toNat then ad else ⟨ad.block, ad.off + (l.getD 0).toNat * sz, none⟩)) ((hh.getD (len : Int)).toNat - (l.getD 0).toNat) (cap - (l.getD 0).toNat))) w := by
    intro ad len cap hsp hv g0 g1 g2
    have hb := run_bounds (P := P) (w := w) (len := len) (cap := cap) (lo := lo'.map a.eval) (hi := hi'.map a.eval) (l := l.getD 0) (h := hh.getD (len : Int))
      (by rcases hl with ⟨q1, q2⟩ | ⟨k, n, q1, q2⟩ <;> rw [q1, q2] <;> simp) (by rcases hr with ⟨q1, q2⟩ | ⟨k, n, q1, q2⟩ <;> rw [q1, q2] <;> simp) g0 g1 g2
    obtain ⟨b, o', sp⟩ := ad
    simp only at hsp
    subst hsp
    simp only [execOp, hop, Instr.sliceAt, Option.map_none, Sem.run_bind, run_und hu, Result.andThen_ok, Instr.slice, hv, hb, run_szOf hsz, Sem.run_pure]
    split <;> simp [addr_add]
  unfold slV at h4
  split at h4
  · rename_i k sz' ts
    simp only at h4
    split at h4
    · rename_i hc
      obtain ⟨rfl, c1, c2, c3⟩ := hc
      cases h4
      obtain ⟨m1, m2, m3, m4, m5⟩ := imm_rep e1
      obtain ⟨⟨len, s1, s2, s3, s4⟩, s5⟩ := m3
      have hlen : ts.length / sz' = len := by rw [s2]; exact Nat.mul_div_cancel _ s3
      rw [hlen] at c2 c3 hK
      have hres := hrun _ len _ rfl s1 c1 c2 (by omega)
      refine good_read (x := .val (.mem k (some sz') (win ts ((l.getD 0).toNat * sz') (((hh.getD (len : Int)).toNat - (l.getD 0).toNat) * sz')))) h hd hlt hres ⟨by simp [T.noOwn, m1, noOwnL_win m2], ?_⟩ (by rw [← hlen] at hK ⊢; exact hK)
      have hle : (l.getD 0).toNat ≤ (hh.getD (len : Int)).toNat := by omega
      have hle2 : (hh.getD (len : Int)).toNat ≤ len := by omega
      generalize (l.getD 0).toNat = L at *
      generalize (hh.getD (len : Int)).toNat = H at *
      have hin : L * sz' + (H - L) * sz' ≤ ts.length := by
        rw [← Nat.add_mul, s2]
        exact Nat.mul_le_mul_right _ (by omega)
      have hwl := win_length (ts := ts) (a := L * sz') (n := (H - L) * sz') hin
      generalize hv' : Value.slice (some (if capOf (a.eval x') = L then (⟨blk (a.eval x'), ofs (a.eval x'), none⟩ : Addr) else ⟨blk (a.eval x'), ofs (a.eval x') + L * sz', none⟩)) (H - L) (capOf (a.eval x') - L) = v'
      have hbv : blk v' = blk (a.eval x') := by rw [← hv']; simp only [blk]; split <;> rfl
      have hcv : capOf v' = capOf (a.eval x') - L := by rw [← hv']; rfl
      have hov : ∀ i, i < (H - L) * sz' → ofs v' = ofs (a.eval x') + L * sz' := fun i hi => by
        have hne : capOf (a.eval x') ≠ L := fun e' => by
          have : H - L = 0 := by omega
          rw [this, Nat.zero_mul] at hi; omega
        rw [← hv']; simp only [ofs]; rw [if_neg hne]
      have hshape : v' = .slice (some ⟨blk v', ofs v', none⟩) (H - L) (capOf v') := by
        rw [hbv, hcv, ← hv']; simp only [ofs]; split <;> rfl
      rw [rep_mem]
      refine ⟨⟨⟨H - L, hshape, hwl, s3, by rw [hcv]; omega⟩, fun i hi => ?_⟩, fun hk => ?_, fun hk => (m1 hk).elim, fun _ => noOwnL_win m2, ?_⟩
      · rw [hwl] at hi
        rw [hbv, hov i hi]
        have := s5 (L * sz' + i) (by omega)
        rwa [Nat.add_assoc]
      · rcases hk with hk | hk
        · exact (m1 hk).elim
        · rw [hbv]; exact m4 fun e' => hk (by rw [e']; simp [win])
      · refine repL_congr _ 0 (fun j _ hj => ?_) (repL_win ((H - L) * sz') (by omega) m5)
        rw [hwl] at hj
        have q1 : kid w v' j = (w.cell? ⟨blk v', ofs v' + j, none⟩).getD undef := by rw [hshape]; rfl
        have q2 : kid w (a.eval x') (j + L * sz') = (w.cell? ⟨blk (a.eval x'), ofs (a.eval x') + (j + L * sz'), none⟩).getD undef := by rw [s1]; rfl
        rw [q1, q2, hbv, hov j (by omega)]
        congr 3
        omega
    · cases h4
  · rename_i r p sz' off len
    simp only at h4
    split at h4
    · rename_i hc
      obtain ⟨rfl, c1, c2, c3⟩ := hc
      cases h4
      simp only [AR, arep] at e1
      obtain ⟨_, t0, ts, g1, g2, g3, o', g4, g5, g6, g7⟩ := e1
      have hres := hrun _ len _ rfl g4 c1 c2 (by omega)
      refine good_read h hd hlt hres ?_ hK
      have hle : (l.getD 0).toNat ≤ (hh.getD (len : Int)).toNat := by omega
      have hle2 : (hh.getD (len : Int)).toNat ≤ len := by omega
      generalize (l.getD 0).toNat = L at *
      generalize (hh.getD (len : Int)).toNat = H at *
      have hmul : (off + L + (H - L)) * sz' ≤ (off + len) * sz' := Nat.mul_le_mul_right _ (by omega)
      refine ⟨hz, t0, ts, g1, g2, by omega, ?_⟩
      refine ⟨if capOf (nodeV w (vlA a r) p) - off = L then o' else o' + L * sz', ?_, by omega, ?_, fun hlt' => ?_⟩
      · rw [Nat.sub_add_eq]
        split <;> rfl
      · rw [Nat.add_mul]
        split
        · omega
        · omega
      · by_cases h0 : off + L = 0
        · have hL0 : L = 0 := by omega
          have hoff : off = 0 := by omega
          subst hL0
          subst hoff
          have := g7 (.inr rfl)
          simp only [Nat.zero_mul, Nat.add_zero] at this ⊢
          split <;> exact this
        · rw [if_neg (by omega), g7 (by omega), Nat.add_mul]
          omega
    · cases h4
  · cases h4

end
end Go.Mch
