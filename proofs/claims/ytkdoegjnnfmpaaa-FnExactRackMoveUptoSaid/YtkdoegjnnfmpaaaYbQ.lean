/- Freezing own memory; closures. -/
import Derived.Test.YtkdoegjnnfmpaaaYbP
namespace Go.Mch

mutual
theorem frz_noOwn {k : K} (hk : k ≠ .own) : ∀ t : T, t.noOwn = true → t.frz k = t
  | .sc _, _ => rfl
  | .gone, _ => rfl
  | .nul, _ => rfl
  | .fn _ _, _ => rfl
  | .mem k' s ts, h => by
    simp only [T.noOwn, Bool.and_eq_true, bne_iff_ne, ne_eq] at h
    simp only [T.frz, frzL_noOwn hk ts h.2, h.1, if_false]
  | .agg ts, h => by simp only [T.noOwn] at h; simp only [T.frz, frzL_noOwn hk ts h]
  | .tup ts, h => by simp only [T.noOwn] at h; simp only [T.frz, frzL_noOwn hk ts h]
theorem frzL_noOwn {k : K} (hk : k ≠ .own) : ∀ ts : List T, T.noOwnL ts = true → T.frzL k ts = ts
  | [], _ => rfl
  | t :: ts, h => by
    simp only [T.noOwnL, Bool.and_eq_true] at h
    simp only [T.frzL, frz_noOwn hk t h.1, frzL_noOwn hk ts h.2]
end

theorem frzL_length {k : K} : ∀ ts : List T, (T.frzL k ts).length = ts.length
  | [] => rfl
  | t :: ts => by simp [T.frzL, frzL_length ts]

mutual
theorem noOwn_frz {fm : Nat → Nat} {ok : K → Nat → Prop} {w : World} {k : K} (hk : k ≠ .own) : ∀ (t : T) (v : Value), rep fm ok w v t → (t.frz k).noOwn = true
  | .sc _, _, _ => rfl
  | .gone, _, _ => rfl
  | .nul, _, _ => rfl
  | .fn f caps, v, h => by
    simp only [rep] at h
    simpa [T.frz, T.noOwn] using h.2.1
  | .mem k' s ts, v, h => by
    rw [rep_mem] at h
    simp only [T.frz, T.noOwn, Bool.and_eq_true, bne_iff_ne, ne_eq]
    refine ⟨?_, noOwnL_frz hk ts _ 0 h.2.2.2.2⟩
    split
    · exact hk
    · rename_i hn; exact hn
  | .agg ts, v, h => by
    simp only [rep] at h
    simpa [T.frz, T.noOwn] using noOwnL_frz hk ts _ 0 h.2
  | .tup ts, v, h => by
    simp only [rep] at h
    simpa [T.frz, T.noOwn] using noOwnL_frz hk ts _ 0 h.2
theorem noOwnL_frz {fm : Nat → Nat} {ok : K → Nat → Prop} {w : World} {k : K} (hk : k ≠ .own) : ∀ (ts : List T) (g : Nat → Value) (i : Nat), repL fm ok w g i ts → T.noOwnL (T.frzL k ts) = true
  | [], _, _, _ => rfl
  | t :: ts, g, i, h => by
    simp only [repL] at h
    simp only [T.frzL, T.noOwnL, noOwn_frz hk t _ h.1, noOwnL_frz hk ts g (i + 1) h.2, Bool.and_self]
end

mutual
theorem rep_frz {fm : Nat → Nat} {ok ok' : K → Nat → Prop} {w : World} {k : K} (hk : k ≠ .own) (himm : ∀ k' b, k' ≠ .own → ok k' b → ok' k' b) :
    ∀ (t : T) (v : Value), (∀ b, 1 ≤ cnt w v b t → ok .own b → ok' k b) → rep fm ok w v t → rep fm ok' w v (t.frz k)
  | .sc _, _, _, h => h
  | .gone, _, _, _ => trivial
  | .nul, _, _, h => h
  | .fn f caps, v, _, h => by
    simp only [rep, T.frz] at h ⊢
    exact ⟨h.1, h.2.1, repL_ok (fun k b hk _ => himm k b hk) caps _ 0 (fun b hb => by rw [cntL_noOwn w _ b caps 0 h.2.1] at hb; omega) h.2.2⟩
  | .agg ts, v, ho, h => by
    simp only [rep, cnt, T.frz] at h ho ⊢
    exact ⟨by rw [frzL_length]; exact h.1, repL_frz hk himm ts _ 0 ho h.2⟩
  | .tup ts, v, ho, h => by
    simp only [rep, cnt, T.frz] at h ho ⊢
    exact ⟨by rw [frzL_length]; exact h.1, repL_frz hk himm ts _ 0 ho h.2⟩
  | .mem k' s ts, v, ho, h => by
    have hno := noOwnL_frz (fm := fm) (ok := ok) (w := w) hk ts (kid w v) 0 (by rw [rep_mem] at h; exact h.2.2.2.2)
    simp only [T.frz]
    rw [rep_mem, frzL_length]
    rw [rep_mem] at h
    obtain ⟨h1, h2, h3, h4, h5⟩ := h
    by_cases hkk : k' = .own
    · subst hkk
      rw [if_pos rfl]
      simp only [cnt_own] at ho
      exact ⟨h1, fun _ => ho _ (by simp) (h2 (.inl rfl)), fun hh => (hk hh).elim, fun _ => hno, repL_frz hk himm ts _ 0 (fun b hb => ho b (by omega)) h5⟩
    · rw [if_neg hkk]
      refine ⟨h1, fun hh => ?_, fun hh => (hkk hh).elim, fun _ => hno, repL_frz hk himm ts _ 0 (fun b hb => by rw [cntL_noOwn w _ b ts 0 (h4 hkk)] at hb; omega) h5⟩
      rcases hh with hh | hh
      · exact (hkk hh).elim
      · refine himm k' _ hkk (h2 (.inr fun e' => hh (by rw [e']; rfl)))
theorem repL_frz {fm : Nat → Nat} {ok ok' : K → Nat → Prop} {w : World} {k : K} (hk : k ≠ .own) (himm : ∀ k' b, k' ≠ .own → ok k' b → ok' k' b) :
    ∀ (ts : List T) (g : Nat → Value) (i : Nat), (∀ b, 1 ≤ cntL w g b i ts → ok .own b → ok' k b) → repL fm ok w g i ts → repL fm ok' w g i (T.frzL k ts)
  | [], _, _, _, _ => trivial
  | t :: ts, g, i, ho, h => by
    simp only [repL, cntL, T.frzL] at h ho ⊢
    exact ⟨rep_frz hk himm t _ (fun b hb => ho b (by omega)) h.1, repL_frz hk himm ts g (i + 1) (fun b hb => ho b (by omega)) h.2⟩
end

theorem freeze_some {e e' : Env} {k : K} {s : Nat} (h : e.freeze k s = some e') : ∃ t, e s = some (.val t) ∧ e' s = some (.val (t.frz k)) ∧ ∀ x y, x ≠ s → e' x = some y → e x = some y ∧ y.hits s [] = false := by
  unfold Env.freeze at h
  split at h
  · rename_i t ht
    cases h
    refine ⟨t, ht, by simp, fun x y hx hy => ?_⟩
    simp only [if_neg hx, Env.kill] at hy
    cases hex : e x with
    | none => rw [hex] at hy; cases hy
    | some z =>
      rw [hex] at hy
      simp only at hy
      split at hy
      · cases hy
      · rename_i hh
        cases hy
        exact ⟨rfl, by simpa using hh⟩
  · cases h

theorem R.freeze {cx : Cx} {e e' : Env} {vl : Vl} {w : World} {k : K} {s : Nat} (h : R cx e vl w) (hN : ∀ b, ¬ cx.N b) (hk : k ≠ .own) (hm : k = .fresh → ∀ b, ¬ cx.M b) (hf : e.freeze k s = some e') :
    R cx e' vl w ∧ (∀ b, Own e' vl w b → Own e vl w b) ∧ ∀ x, e x = none → e' x = none := by
  have hf0 := hf
  obtain ⟨t, h1, h2, h3⟩ := freeze_some hf
  have hrep := srep_val h h1
  have hno := noOwn_frz hk t (vl s) hrep
  obtain ⟨who, hw⟩ := h.who
  refine ⟨?_, ?_, fun x hx => ?_⟩
  · have hr := h.retag (e' := e') (q := s) (d := s) (t := t) (t' := t.frz k) (v' := vl s) (touch := fun _ => False) h1 (fun _ _ _ => rfl) (fun _ h => h.elim) h.keeps ?_ (fun b => by rw [cnt_noOwn _ _ _ _ hno]; omega) (fun b hb => by rw [cnt_noOwn _ _ _ _ hno] at hb; omega) h2
      (fun x y hx hy => ⟨hx, (h3 x y hx hy).1, fun r hr => ?_⟩)
    · refine hr.congr fun x y hy => ?_
      by_cases hx : x = s
      · subst hx; rw [vadd_self]
      · rw [vadd_ne hx]
    · refine rep_frz hk (fun k' b hk' ho => ⟨ho.1, ho.2.1, ho.2.2.1, fun _ => ⟨fun h4 => ?x1, hN b⟩⟩) t (vl s) (fun b hb ho => ⟨ho.1, fun hh => (hk hh).elim, fun hh => ?x2, fun _ => ⟨fun h4 => ?x3, hN b⟩⟩) hrep
      case x1 =>
        rcases h4 with ⟨s', u, _, hu, h5⟩ | h5
        · exact (ho.2.2.2 hk').1 ⟨s', u, hu, h5⟩
        · rw [cnt_noOwn _ _ _ _ hno] at h5; omega
      case x2 =>
        rcases ho.2.1 rfl with h4 | h4
        · exact h4
        · exact (hm hh b h4).elim
      case x3 =>
        rcases h4 with ⟨s', u, hs', hu, h5⟩ | h5
        · exact hs' (((hw s' u hu b).2 h5).symm.trans ((hw s t h1 b).2 hb))
        · rw [cnt_noOwn _ _ _ _ hno] at h5; omega
    · have hne : r ≠ s := fun e1 => by subst e1; rw [(h3 x y hx hy).2] at hr; cases hr
      refine ⟨hne, hne, ?_⟩
      obtain ⟨u, hu⟩ := h.root (h3 x y hx hy).1 hr
      rw [hu]
      simp only [Env.freeze, h1, Option.some.injEq] at hf0
      rw [← hf0]
      simp [hne, Env.kill, hu, V.hits]
  · rintro b ⟨x, u, hu, h4⟩
    by_cases hx : x = s
    · subst hx
      rw [h2] at hu
      cases hu
      rw [cnt_noOwn _ _ _ _ hno] at h4; omega
    · exact ⟨x, u, (h3 x _ hx hu).1, h4⟩
  · cases hx' : e' x with
    | none => rfl
    | some y =>
      by_cases hs : x = s
      · subst hs; rw [h1] at hx; cases hx
      · rw [(h3 x y hs hx').1] at hx; cases hx

section
variable {P : Program} {cx : Cx} {nt : Nat} {Kt : Env → Prop} {o : Oper} {a : Act} {w : World} {e : Env} {d : Nat}

theorem Rel.freeze {k : K} {s : Nat} {e' : Env} (h : Rel cx nt e a w) (hN : ∀ b, ¬ cx.N b) (hk : k ≠ .own) (hm : k = .fresh → ∀ b, ¬ cx.M b) (hf : e.freeze k s = some e') : Rel cx nt e' a w := by
  obtain ⟨h1, _, h3⟩ := h.r.freeze hN hk hm hf
  exact ⟨h1, fun j hj => h3 j (h.dom j hj), h.size, h.defers⟩

theorem caps_spec {k : K} (hN : ∀ b, ¬ cx.N b) (hk : k ≠ .own) (hm : k = .fresh → ∀ b, ¬ cx.M b) : ∀ (xs : List Opd) (ys : List Operand) (e : Env) {ts : List T} {e' : Env}, Rel cx nt e a w → okOpds cx.fm xs ys = true → Env.caps k e xs = some (ts, e') →
    Rel cx nt e' a w ∧ (∀ b, Own e' (vlA a) w b → Own e (vlA a) w b) ∧ T.noOwnL ts = true ∧ ts.length = ys.length ∧ ∀ g i, (∀ j, j < ys.length → g (i + j) = a.eval (ys.getD j (.const undef))) → repL cx.fm (okR cx (Own e' (vlA a) w)) w g i ts
  | [], [], e, ts, e', h, _, hc => by
    simp only [Env.caps] at hc
    cases hc
    exact ⟨h, fun _ h => h, rfl, rfl, fun _ _ _ => trivial⟩
  | x :: xs, y :: ys, e, ts, e', h, ho, hc => by
    simp only [okOpds, Bool.and_eq_true] at ho
    simp only [Env.caps] at hc
    cases hx : e.opd x with
    | none => rw [hx] at hc; cases hc
    | some v =>
      rw [hx] at hc
      simp only [Option.bind_some] at hc
      have har := h.opd ho.1 hx
      have fin : ∀ (e1 : Env) (t : T) (ts' : List T), Rel cx nt e1 a w → (∀ b, Own e1 (vlA a) w b → Own e (vlA a) w b) → t.noOwn = true → Mch.rep cx.fm (okR cx (Own e1 (vlA a) w)) w (a.eval y) t → Env.caps k e1 xs = some (ts', e') → ts = t :: ts' →
          Rel cx nt e' a w ∧ (∀ b, Own e' (vlA a) w b → Own e (vlA a) w b) ∧ T.noOwnL ts = true ∧ ts.length = (y :: ys).length ∧ ∀ g i, (∀ j, j < (y :: ys).length → g (i + j) = a.eval ((y :: ys).getD j (.const undef))) → repL cx.fm (okR cx (Own e' (vlA a) w)) w g i ts := by
        intro e1 t ts' r1 o1 n1 p1 c1 hts
        obtain ⟨q1, q2, q3, q4, q5⟩ := caps_spec hN hk hm xs ys e1 r1 ho.2 c1
        subst hts
        refine ⟨q1, fun b hb => o1 b (q2 b hb), by simp [T.noOwnL, n1, q3], by simp [q4], fun g i hg => ⟨?_, q5 g (i + 1) fun j hj => ?_⟩⟩
        · have := hg 0 (by simp)
          simp only [Nat.add_zero, List.getD_cons_zero] at this
          rw [this]
          exact rep_less q2 p1
        · have := hg (j + 1) (by simpa using hj)
          simp only [List.getD_cons_succ] at this
          rw [← this, show i + 1 + j = i + (j + 1) from by omega]
      split at hc
      · rename_i k' us
        split at hc
        · rename_i hcond
          cases hcc : Env.caps k e xs with
          | none => rw [hcc] at hc; cases hc
          | some z =>
            rw [hcc] at hc
            cases hc
            exact fin e _ _ h (fun _ h => h) har.1 har.2 hcc rfl
        · cases hc
      · rename_i r
        cases hfz : e.freeze k r with
        | none => rw [hfz] at hc; cases hc
        | some e1 =>
          rw [hfz] at hc
          simp only [Option.bind_some] at hc
          have hr1 := h.freeze hN hk hm hfz
          obtain ⟨_, ho1, _⟩ := h.r.freeze hN hk hm hfz
          split at hc
          · rename_i k' us hus
            cases hcc : Env.caps k e1 xs with
            | none => rw [hcc] at hc; cases hc
            | some z =>
              rw [hcc] at hc
              cases hc
              obtain ⟨t0, f1, f2, _⟩ := freeze_some hfz
              rw [hus] at f2
              simp only [Option.some.injEq, V.val.injEq] at f2
              have hrt := srep_val hr1.r hus
              have hno : (T.mem k' none us).noOwn = true := by
                have hn := noOwn_frz hk t0 (vlA a r) (srep_val h.r f1)
                rw [← f2] at hn
                exact hn
              have hval : a.eval y = vlA a r := by
                simp only [AR, arep] at har
                obtain ⟨_, _, _, _, _, _, hv⟩ := har
                rw [rep_mem] at hrt
                have := hrt.1.1
                simp only at this
                rw [hv, this]
                simp [nodeV, blk, ofs]
              exact fin e1 _ _ hr1 ho1 hno (by rw [hval]; exact hrt) hcc rfl
          · cases hc
      · cases hc
  | [], _ :: _, _, _, _, _, h, _ => by simp [okOpds] at h
  | _ :: _, [], _, _, _, _, h, _ => by simp [okOpds] at h

theorem good_fnc {k : K} {f g : Nat} {xs : List Opd} {ys : Array Operand} {ts : List T} {e1 : Env} (hN : ∀ b, ¬ cx.N b) (hk : k ≠ .own) (hm : k = .fresh → ∀ b, ¬ cx.M b) (h : Rel cx nt e a w) (hop : o.op = .makeFunc (.func g) #[] ys) (hfm : cx.fm f = g) (ho : okOpds cx.fm xs ys.toList = true)
    (hd : o.dst = some d) (hlt : d < nt) (hc : Env.caps k e xs = some (ts, e1)) (hK : Kt (e1.setD (some d) (.val (.fn f ts)))) : Good P cx nt Kt o a w := by
  obtain ⟨h1, _, h3, h4, h5⟩ := caps_spec hN hk hm xs ys.toList e h ho hc
  refine good_read (v := .func (.func g) #[] (ys.map a.eval)) (x := .val (.fn f ts)) h1 hd hlt ?_ ⟨by simpa [T.noOwn] using h3, ?_⟩ hK
  · simp [execOp, hop, Instr.makeFunc]
  · simp only [Mch.rep]
    refine ⟨⟨_, by rw [hfm], by simpa using h4.symm⟩, h3, h5 _ 0 fun j hj => ?_⟩
    simp only [Array.length_toList] at hj
    simp [kid, Array.getD_eq_getD_getElem?, hj]

end
end Go.Mch
