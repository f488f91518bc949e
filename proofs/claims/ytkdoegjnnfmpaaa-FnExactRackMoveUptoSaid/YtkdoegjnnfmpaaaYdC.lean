/- Calls that are handed own memory, against the model's; boxes that keep a struct's names; what a slot names it takes. -/
import Derived.Test.YtkdoegjnnfmpaaaYdB
namespace Go.Mch

mutual
theorem hole_leaf {e : Env} {r : Nat} {p : List Nat} {sz off len : Nat} : ∀ x : V, e.hole x = true → x.hasLeaf r p sz off len = true → e.isHole r p = true
  | .val _, _, h => by simp [V.hasLeaf] at h
  | .sref r' p' sz' off' len', h, hl => by
    simp only [V.hasLeaf, Bool.and_eq_true, beq_iff_eq] at hl
    simp only [Env.hole] at h
    obtain ⟨⟨⟨⟨rfl, rfl⟩, _⟩, _⟩, _⟩ := hl
    exact h
  | .pref .., _, h => by simp [V.hasLeaf] at h
  | .vagg vs, h, hl => by
    simp only [V.hasLeaf] at hl
    simp only [Env.hole] at h
    exact holeL_leaf vs h hl
  | .vtup _, h, _ => by simp [Env.hole] at h
theorem holeL_leaf {e : Env} {r : Nat} {p : List Nat} {sz off len : Nat} : ∀ xs : List V, e.holeL xs = true → V.hasLeafL r p sz off len xs = true → e.isHole r p = true
  | [], _, h => by simp [V.hasLeafL] at h
  | x :: xs, h, hl => by
    simp only [V.hasLeafL, Bool.or_eq_true] at hl
    simp only [Env.holeL, Bool.and_eq_true] at h
    rcases hl with hl | hl
    · exact hole_leaf x h.1 hl
    · exact holeL_leaf xs h.2 hl
end

theorem holes_leaf {e : Env} {r : Nat} {p : List Nat} {sz off len : Nat} : ∀ (xs : List V) (gs : List Bool), e.holes xs gs = true → leafOf xs gs r p sz off len = true → e.isHole r p = true
  | [], _, _, h => by simp [leafOf] at h
  | _ :: _, [], _, h => by simp [leafOf] at h
  | x :: xs, g :: gs, h, hl => by
    simp only [leafOf, Bool.or_eq_true, Bool.and_eq_true] at hl
    simp only [Env.holes, Bool.and_eq_true, Bool.or_eq_true, Bool.not_eq_true'] at h
    rcases hl with ⟨h1, h2⟩ | hl
    · rcases h.1 with h3 | h3
      · rw [h1] at h3; cases h3
      · exact hole_leaf x h3 h2
    · exact holes_leaf xs gs h.2 hl

theorem holes_get {e : Env} : ∀ (xs : List V) (gs : List Bool), e.holes xs gs = true → ∀ (j : Nat) (x : V), xs[j]? = some x → gs[j]? = some true → e.hole x = true
  | [], _, _, j, _, h, _ => by simp at h
  | _ :: _, [], _, j, _, _, h => by simp at h
  | x :: xs, g :: gs, h, 0, y, h1, h2 => by
    simp only [Env.holes, Bool.and_eq_true, Bool.or_eq_true, Bool.not_eq_true'] at h
    simp only [List.getElem?_cons_zero, Option.some.injEq] at h1 h2
    subst h1; subst h2
    rcases h.1 with h3 | h3
    · cases h3
    · exact h3
  | x :: xs, g :: gs, h, j + 1, y, h1, h2 => by
    simp only [Env.holes, Bool.and_eq_true] at h
    exact holes_get xs gs h.2 j y (by simpa using h1) (by simpa using h2)

theorem wholes_get {e : Env} : ∀ (xs : List V) (gs : List Bool), e.wholes xs gs = true → ∀ (j : Nat) (x : V), xs[j]? = some x → gs[j]? = some true → e.whole x = true
  | [], _, _, j, _, h, _ => by simp at h
  | _ :: _, [], _, j, _, _, h => by simp at h
  | x :: xs, g :: gs, h, 0, y, h1, h2 => by
    simp only [Env.wholes, Bool.and_eq_true, Bool.or_eq_true, Bool.not_eq_true'] at h
    simp only [List.getElem?_cons_zero, Option.some.injEq] at h1 h2
    subst h1; subst h2
    rcases h.1 with h3 | h3
    · cases h3
    · exact h3
  | x :: xs, g :: gs, h, j + 1, y, h1, h2 => by
    simp only [Env.wholes, Bool.and_eq_true] at h
    exact wholes_get xs gs h.2 j y (by simpa using h1) (by simpa using h2)

mutual
theorem again_arep {fm : Nat → Nat} {ok ok' : K → Nat → Prop} {e0 e : Env} {vl vl' : Vl} {w w' : World} {us : List V} {gs : List Bool} {e1 : Env} (hl : ∀ r p sz off len t, e0 r = some (.val t) → (leafOf us gs r p sz off len || (e1.tree r p).isSome) = true → nodeV w' (vl' r) p = nodeV w (vl r) p) :
    ∀ (x : V) (v : Value), arep fm ok e0 vl w v x → Env.again e1 e us gs x = true → arep fm ok' e vl' w' v x
  | .val _, _, _, h => by simp [Env.again] at h
  | .sref r p sz off len, v, h, ha => by
    simp only [arep] at h ⊢
    rw [Env.again, Bool.and_eq_true] at ha
    obtain ⟨h0, t, ts, h1, h2, h3, h4⟩ := h
    obtain ⟨ha1, ha2⟩ := ha
    split at ha2
    · rename_i sz' ts' htr
      simp only [Bool.and_eq_true, beq_iff_eq, decide_eq_true_eq] at ha2
      obtain ⟨rfl, hle⟩ := ha2
      obtain ⟨t', g1, g2⟩ := tree_some htr
      exact ⟨h0, t', ts', g1, g2, hle, by rw [hl r p _ off len t h1 ha1]; exact h4⟩
    · cases ha2
  | .pref .., _, _, h => by simp [Env.again] at h
  | .vagg xs, v, h, ha => by
    simp only [arep] at h ⊢
    simp only [Env.again] at ha
    obtain ⟨⟨cs, rfl, hs⟩, h⟩ := h
    exact ⟨⟨cs, rfl, hs⟩, againL_arep hl xs _ 0 h ha⟩
  | .vtup _, _, _, h => by simp [Env.again] at h
theorem againL_arep {fm : Nat → Nat} {ok ok' : K → Nat → Prop} {e0 e : Env} {vl vl' : Vl} {w w' : World} {us : List V} {gs : List Bool} {e1 : Env} (hl : ∀ r p sz off len t, e0 r = some (.val t) → (leafOf us gs r p sz off len || (e1.tree r p).isSome) = true → nodeV w' (vl' r) p = nodeV w (vl r) p) :
    ∀ (xs : List V) (g : Nat → Value) (i : Nat), arepL fm ok e0 vl w g i xs → Env.againL e1 e us gs xs = true → arepL fm ok' e vl' w' g i xs
  | [], _, _, _, _ => trivial
  | x :: xs, g, i, h, ha => by
    simp only [arepL] at h
    simp only [Env.againL, Bool.and_eq_true] at ha
    exact ⟨again_arep hl x _ h.1 ha.1, againL_arep hl xs g (i + 1) h.2 ha.2⟩
end

/-- A name laid into an empty slot whose value stays. -/
theorem addName {cx : Cx} {e : Env} {vl : Vl} {w : World} {q s : Nat} {F : T} {x : V} (h : R cx (e.add q (.val F)) vl w) (hc : Clr e q) (hs : s < q) (hes : e s = none) (hx : arep cx.fm (okR cx (Own (e.add q (.val F)) vl w)) (e.add q (.val F)) vl w (vl s) x) (hnq : x.hits q [] = false) :
    R cx ((e.put s x).add q (.val F)) vl w ∧ Clr (e.put s x) q := by
  have hsq : s ≠ q := by omega
  have hes' : (e.add q (.val F)) s = none := by rw [add_ne hsq]; exact hes
  have h1 := h.addA hes' hx
  have hxs : x.hits s [] = false := by
    cases hh : x.hits s [] with
    | false => rfl
    | true => obtain ⟨t, ht⟩ := arep_root x _ hx hh; rw [hes'] at ht; cases ht
  have hkill : ∀ s' y, e s' = some y → y.hits s [] = false := fun s' y hy => by
    cases hh : y.hits s [] with
    | false => rfl
    | true =>
      have hne : s' ≠ q := fun e' => by subst e'; rw [(hc s' (Nat.le_refl _)).1] at hy; cases hy
      obtain ⟨t, ht⟩ := h.root (s := s') (x := y) (by rw [add_ne hne]; exact hy) hh
      rw [hes'] at ht; cases ht
  have henv : (e.add q (.val F)).add s x = (e.put s x).add q (.val F) := by
    funext s'
    by_cases h2 : s' = s
    · subst h2; rw [add_self, add_ne hsq]; simp [Env.put, hxs]
    · rw [add_ne h2]
      by_cases h3 : s' = q
      · subst h3; rw [add_self, add_self]
      · rw [add_ne h3, add_ne h3]
        simp only [Env.put, if_neg h2, Env.kill]
        cases hy : e s' with
        | none => rfl
        | some y => simp [hkill s' y hy]
  rw [henv] at h1
  refine ⟨h1.congr fun s' y _ => ?_, fun j hj => ?_⟩
  · by_cases h2 : s' = s
    · subst h2; rw [vadd_self]
    · rw [vadd_ne h2]
  · refine ⟨by simp only [Env.put, Env.kill]; rw [if_neg (by omega), (hc j hj).1], fun s' y hy => ?_⟩
    simp only [Env.put, Env.kill] at hy
    split at hy
    · rw [hxs] at hy
      cases hy
      cases hh : x.hits j [] with
      | false => rfl
      | true =>
        by_cases hjq : j = q
        · subst hjq; rw [hnq] at hh; cases hh
        · obtain ⟨t, ht⟩ := arep_root x _ hx hh
          rw [add_ne hjq, (hc j hj).1] at ht; cases ht
    · cases hes2 : e s' with
      | none => rw [hes2] at hy; cases hy
      | some z =>
        rw [hes2] at hy
        simp only at hy
        split at hy
        · cases hy
        · cases hy; exact (hc j hj).2 s' _ hes2

theorem revive_sound {cx : Cx} {e0 : Env} {vl0 vl : Vl} {w w' : World} {q : Nat} {us : List V} {gs : List Bool} {F : T} {e1 : Env} (h0 : R cx e0 vl0 w) (hd : ∀ j, q ≤ j → e0 j = none) (hvl : ∀ s, s < q → vl s = vl0 s)
    (hl : ∀ r p sz off len, r < q → (leafOf us gs r p sz off len || (e1.tree r p).isSome) = true → nodeV w' (vl r) p = nodeV w (vl0 r) p) :
    ∀ (ks : List Nat) (e e3 : Env), R cx (e.add q (.val F)) vl w' → Clr e q → e0.revive e1 e us gs ks = some e3 → R cx (e3.add q (.val F)) vl w' ∧ Clr e3 q
  | [], e, e3, h, hc, hr => by
    simp only [Env.revive, Option.some.injEq] at hr
    subst hr
    exact ⟨h, hc⟩
  | s :: ks, e, e3, h, hc, hr => by
    simp only [Env.revive] at hr
    split at hr
    · rename_i x h1 h2
      split at hr
      · rename_i hag
        have hsq : s < q := by
          rcases Nat.lt_or_ge s q with h' | h'
          · exact h'
          · rw [hd s h'] at h1; cases h1
        have hx : arep cx.fm (okR cx (Own e0 vl0 w)) e0 vl0 w (vl0 s) x := by
          rcases h0.rep s x h1 with ⟨t, rfl, _⟩ | h'
          · simp [Env.again] at hag
          · exact h'
        have hlt : ∀ r t, e0 r = some (.val t) → r < q := fun r t ht => by
          rcases Nat.lt_or_ge r q with h' | h'
          · exact h'
          · rw [hd r h'] at ht; cases ht
        have hag2 : arep cx.fm (okR cx (Own (e.add q (.val F)) vl w')) e vl w' (vl0 s) x := again_arep (fun r p sz off len t ht hlf => hl r p sz off len (hlt r t ht) hlf) x _ hx hag
        have hnq : ∀ j, q ≤ j → x.hits j [] = false := fun j hj => by
          cases hh : x.hits j [] with
          | false => rfl
          | true => obtain ⟨t, ht⟩ := arep_root x _ hag2 hh; rw [(hc j hj).1] at ht; cases ht
        have hx2 : arep cx.fm (okR cx (Own (e.add q (.val F)) vl w')) (e.add q (.val F)) vl w' (vl s) x := by
          rw [hvl s hsq]
          refine arep_gen (fun _ _ _ h => h) x _ (fun r p hh => ?_) hag2
          intro t k ts ht hp
          have hne : r ≠ q := fun e' => by
            subst e'
            have h9 := hnq r (Nat.le_refl _)
            rw [isPrefixOf_trans_nil r p x hh] at h9; cases h9
          exact ⟨t, ts, by rw [add_ne hne]; exact ht, hp, rfl, rfl⟩
        obtain ⟨k1, k2⟩ := addName h hc hsq h2 hx2 (hnq q (Nat.le_refl _))
        exact revive_sound h0 hd hvl hl ks _ e3 k1 k2 hr
      · cases hr
    · cases hr

section
variable {P : Program} {cx : Cx} {nt : Nat} {Kt : Env → Prop} {o : Oper} {a : Act} {w : World} {e : Env} {d : Nat}

/-- The last part of a float lands in a slot; the rest of the float is let go. -/
theorem land_last {e3 : Env} {vl : Vl} {w' : World} {F r : T} {n : Nat} {v : Value} (hs : a.tmps.size = nt) (hf : a.defers = []) (h : R cx (e3.add nt (.val F)) vl w') (hc : Clr e3 nt) (hF : F.at [n] = some r) (hv : kid w' (vl nt) n = v)
    (hvl : ∀ s, s < nt → vl s = vlA a s) (dst : Option Nat) (hd : ∀ d, dst = some d → d < nt) : Rel cx nt (e3.setD dst (.val r)) (a.put dst v) w' := by
  cases dst with
  | none =>
    have hne : ∀ s x, e3 s = some x → s < nt := fun s x hx => by
      rcases Nat.lt_or_ge s nt with h' | h'
      · exact h'
      · rw [(hc s h').1] at hx; cases hx
    refine ⟨?_, fun j hj => (hc j hj).1, by simpa [Act.put] using hs, hf⟩
    have hE : e3.setD none (.val r) = e3 := rfl
    rw [hE]
    refine h.sub (fun s x hx => ?_) (fun s x r' hx hr => ?_) (fun s x hx => (hvl s (hne s x hx)).symm)
    · have := hne s x hx
      rw [add_ne (by omega)]; exact hx
    · have : r' ≠ nt := fun e1 => by subst e1; rw [(hc r' (Nat.le_refl _)).2 s x hx] at hr; cases hr
      rw [add_ne this]
  | some d =>
    have hlt := hd d rfl
    have h1 := h.movePart (r := nt) (d := nt + 1) (i := n) (p := []) (add_self ..) (by rw [add_ne (by omega)]; exact (hc (nt + 1) (by omega)).1) hF
    rw [setTree_add hc] at h1
    have h2 := h1.land (d := d) (hc.add _) (by omega)
    have hdom : ∀ j, nt ≤ j → (e3.put d (.val r)) j = none := fun j hj => by
      simp only [Env.put, Env.kill]
      rw [if_neg (by omega), (hc j hj).1]
    have hne : ∀ s x, (e3.put d (.val r)) s = some x → s < nt := fun s x hx => by
      rcases Nat.lt_or_ge s nt with h' | h'
      · exact h'
      · rw [hdom s h'] at hx; cases hx
    have heq : ∀ s, s ≠ nt → ((e3.add nt (.val (F.setAt [n] .gone))).put d (.val r)) s = (e3.put d (.val r)) s := fun s hsn => by
      simp only [Env.put, Env.kill, add_ne hsn]
    refine ⟨?_, hdom, by simpa [Act.put] using hs, hf⟩
    rw [vlA_put (by rw [hs]; exact hlt)]
    have hE : e3.setD (some d) (.val r) = e3.put d (.val r) := rfl
    rw [hE]
    refine h2.sub (fun s x hx => ?_) (fun s x r' hx hr => ?_) (fun s x hx => ?_)
    · have := hne s x hx
      rw [heq s (by omega)]; exact hx
    · have h3 : r' ≠ nt := fun e1 => by
        subst e1
        simp only [Env.put] at hx
        split at hx
        · simp only [V.hits] at hx; cases hx; simp [V.hits] at hr
        · simp only [Env.kill] at hx
          cases hes : e3 s with
          | none => rw [hes] at hx; cases hx
          | some y =>
            rw [hes] at hx
            simp only at hx
            split at hx
            · cases hx
            · cases hx; rw [(hc r' (Nat.le_refl _)).2 s x hes] at hr; cases hr
      rw [heq r' h3]
    · have hs' := hne s x hx
      by_cases hsd : s = d
      · subst hsd
        rw [vadd_self, vadd_self, vadd_self, ← hv]
        rfl
      · rw [vadd_ne hsd, vadd_ne hsd, vadd_ne (by omega)]
        exact (hvl s hs').symm

theorem good_callm {G : Rl} (hG : ∀ f args args' r, G f args args' r → Pact P cx.fm f args args' r) (hN : ∀ b, ¬ cx.N b) (h : Rel cx nt e a w) {f : Opd} {f' : Operand} {xs : List Opd} {gs : List Bool} {ks : List Nat} {ys : Array Operand} {ats : Array TypeId}
    (hop : o.op = .call ⟨.value f', ys, ats⟩) (hf : okOpd cx.fm f f' = true) (hxs : okOpds cx.fm xs ys.toList = true) (hd : ∀ d, o.dst = some d → d < nt)
    {id : Nat} {caps ts ts' : List T} {vs : List V} {r : T} {e1 e2 e3 : Env} (he : e.opd f = some (.val (.fn id caps))) (hv : e.opds xs = some vs) (hw : e.wholes vs gs = true) (ht : e.takeL vs = some (ts, e1)) (hh : e1.holes vs gs = true)
    (hcall : G id (T.lendL ts ++ T.eryL .old caps) (ts' ++ T.eryL .old caps) r) (hl : ts'.length = ts.length) (hg : e1.gives vs gs ts' = some e2) (hrv : e.revive e1 e2 vs gs ks = some e3) (hK : Kt (e3.setD o.dst (.val r))) : Good P cx nt Kt o a w := by
  obtain ⟨hfn, hfr⟩ := h.opd hf he
  simp only [Mch.rep] at hfr
  obtain ⟨⟨cs, hfv, hcs⟩, hno, hcaps⟩ := hfr
  obtain ⟨g1, g2⟩ := h.opds xs ys.toList hxs hv
  have hav := g2 (fun j => (ys.map a.eval).getD j undef) 0 (fun j hj => by
    simp only [Nat.zero_add, Array.getD_eq_getD_getElem?, List.getD_eq_getElem?_getD, Array.getElem?_map, List.getElem?_map, Array.getElem?_toList])
  obtain ⟨vl, hvl, ⟨us, hus, husz, hus2⟩, hR, hc, hlen, hown⟩ := takeL_sound vs _ 0 nt e (vlA a) h.r h.clr (Nat.le_refl _) (arwL_of h.dom vs _ 0 hav) ht
  have husE : us = ys.map a.eval := arr_eq (by simp only [Array.length_toList] at g1; rw [husz, g1]; simp) fun j hj => by
    have := hus2 j (by omega)
    rw [this, Nat.zero_add]
  subst husE
  have hcaps2 : repL cx.fm (okR cx (Own (e1.add nt (.val (.tup ts))) vl w)) w (fun j => cs.getD j undef) 0 caps := by
    rw [hfv] at hcaps
    exact repL_ok (fun k b hk _ ho => okR_mono (hown b) ho) caps _ 0 (fun b hb => by rw [cntL_noOwn w _ b caps 0 hno] at hb; omega) hcaps
  have hpact := hG _ _ _ _ hcall
  obtain ⟨fn, p1, p2, p3⟩ := hpact.1
  have hcore := callm_core hN hR hc hus hcs hno hcaps2 hpact hl
  have hrun : (execOp a.eval o).run P w = .ok (.enter (cx.fm id) (ys.map a.eval ++ cs)) w := by
    have p2' : fn.body ≠ none := fun h0 => by rw [h0] at p2; cases p2
    have p3' : fn.name ≠ "runtime.NumGoroutine" := fun h0 => by rw [h0] at p3; simp at p3
    simp [execOp, hop, resolve, Deferred.ofValue, hfv, invoke, callFunc, p1, p2', p3']
  intro Qx
  unfold Oper.wp
  rw [hrun, Oper.upon_enter]
  refine Calls.mono hcore fun en w' hbk => ?_
  obtain ⟨v, rfl, fs, hfl, hfs, hR2, hnode⟩ := hbk
  have hvl2 : ∀ s, s < nt → vadd vl nt (.tuple ((ys.map a.eval).push v)) s = vlA a s := fun s hs => by rw [vadd_ne (by omega)]; exact hvl s hs
  have hnode2 : ∀ r p, r < nt → e1.isHole r p = true → nodeV w' (vadd vl nt (.tuple ((ys.map a.eval).push v)) r) p = nodeV w (vlA a r) p := fun r p hr hi => by
    rw [vadd_ne (by omega), hvl r hr]
    cases p with
    | nil => rfl
    | cons i p =>
      simp only [Env.isHole] at hi
      split at hi
      · rename_i htr
        obtain ⟨t, k1, k2⟩ := tree_some htr
        have := hnode (i :: p) r t _ k1 k2
        rw [hvl r hr] at this
        exact this
      · cases hi
  have hshp : ∀ r p s ts t, e r = some (.val t) → t.at p = some (.mem .own s ts) → shp w (nodeV w (vlA a r) p) s ts.length := fun r p s ts t k1 k2 => by
    have := (focus p t _ (srep_val h.r k1) k2).1
    rw [rep_mem] at this
    exact this.1
  have hkid2 : ∀ j, j < vs.length → kid w' (vadd vl nt (.tuple ((ys.map a.eval).push v)) nt) j = (ys.map a.eval).getD j undef := fun j hj => by
    rw [vadd_self]
    simp only [kid, Array.getD_eq_getD_getElem?]
    rw [Array.getElem?_push, if_neg (by rw [husz]; omega)]
  obtain ⟨F', k1, k2, k3⟩ := gives_sound vs gs ts' 0 e1 e2 _ hR2 hc (fun j x t hj hjt hlx => by
      have hjl : j < ts'.length := by
        rcases Nat.lt_or_ge j ts'.length with h' | h'
        · exact h'
        · rw [List.getElem?_eq_none h'] at hjt; cases hjt
      have hjt2 : ∃ u, ts[j]? = some u := ⟨_, List.getElem?_eq_getElem (by omega)⟩
      obtain ⟨u, hu⟩ := hjt2
      have := hfs j u hu (takeL_get vs e ht j x u hj hu hlx)
      rw [Nat.zero_add]
      simp only [T.at, T.kids]
      rw [List.getElem?_append_left (by omega), this, hjt]
      rfl) (fun j x hj hgj => by
      have hjl : j < vs.length := by
        rcases Nat.lt_or_ge j vs.length with h' | h'
        · exact h'
        · rw [List.getElem?_eq_none h'] at hj; cases hj
      rw [Nat.zero_add, hkid2 j hjl]
      have hax := arepL_get vs 0 j hav hj
      rw [Nat.zero_add] at hax
      exact fits_of h.dom hnode2 hshp x _ hax (wholes_get vs gs hw j x hj hgj) (holes_get vs gs hh j x hj hgj)) hg
  obtain ⟨k4, k5⟩ := revive_sound (vl := vadd vl nt (.tuple ((ys.map a.eval).push v))) (us := vs) (gs := gs) h.r h.dom hvl2 (fun r p sz off len hr hlf => by
    rcases Bool.or_eq_true _ _ ▸ hlf with hlf | hlf
    · exact hnode2 r p hr (holes_leaf vs gs hh hlf)
    · obtain ⟨u, hu⟩ := Option.isSome_iff_exists.1 hlf
      obtain ⟨t, q1, q2⟩ := tree_some hu
      have := hnode p r t u q1 q2
      rw [vadd_ne (by omega), hvl r hr]
      rw [hvl r hr] at this
      exact this) ks e2 e3 k1 k2 hrv
  have hn : F'.at [ts.length] = some r := by
    rw [k3 ts.length (by omega)]
    simp only [T.at, T.kids]
    rw [List.getElem?_append_right (by omega), hfl]
    simp
  refine ⟨_, hK, land_last h.size h.defers k4 k5 hn ?_ hvl2 o.dst hd⟩
  rw [vadd_self]
  simp only [kid, Array.getD_eq_getD_getElem?]
  rw [Array.getElem?_push, if_pos (by omega)]
  rfl

theorem put_same {s : Nat} (hs : s < a.tmps.size) : a.put (some s) (vlA a s) = a := by
  have : a.tmps.setIfInBounds s (a.tmps.getD s undef) = a.tmps := by
    apply Array.ext_getElem?
    intro j
    rw [Array.getElem?_setIfInBounds]
    by_cases hj : s = j
    · subst hj
      rw [if_pos rfl, if_pos hs, Array.getD_eq_getD_getElem?, Array.getElem?_eq_getElem hs]
      rfl
    · rw [if_neg hj]
  show { a with tmps := a.tmps.setIfInBounds s (a.tmps.getD s undef) } = a
  rw [this]

/-- A slot takes what it names. -/
theorem Rel.settle (h : Rel cx nt e a w) {s : Nat} {e' : Env} (he : e.settle s = some e') : Rel cx nt e' a w := by
  unfold Env.settle at he
  cases hs : e s with
  | none => rw [hs] at he; cases he
  | some v =>
    rw [hs] at he
    simp only [Option.bind_some, Option.map_eq_some_iff] at he
    obtain ⟨⟨t, e1⟩, h1, rfl⟩ := he
    have hlt : s < nt := by
      rcases Nat.lt_or_ge s nt with h' | h'
      · exact h'
      · rw [h.dom s h'] at hs; cases hs
    have hx : AR cx e a w (vlA a s) v := by
      rcases h.r.rep s v hs with ⟨t', rfl, h2⟩ | h2
      · have hno : t'.noOwn = true := by
          simp only [Env.take] at h1
          split at h1
          · assumption
          · cases h1
        exact ⟨hno, h2⟩
      · exact h2
    obtain ⟨vl, k1, k2, k3, k4⟩ := h.take hx h1
    have k5 := Rel.land h.size h.defers k3 k4 k1 hlt
    rw [k2, put_same (by rw [h.size]; exact hlt)] at k5
    exact k5

theorem good_boxk {x' : Operand} {ty : TypeId} {s : Nat} {ts : List T} (hN : ∀ b, ¬ cx.N b) (h : Rel cx nt e a w) (hop : o.op = .box ty x') (ho : okOpd cx.fm (.t s) x' = true) (hd : o.dst = some d) (hlt : d < nt) (he : e s = some (.val (.agg ts))) (hsd : s ≠ d)
    (hcell : ts.all T.isCell = true) (hK : Kt (((e.del s).put d (.val (.mem .own none ts))).put s (.vagg (T.peekL d [] 0 ts)))) : Good P cx nt Kt o a w := by
  have hs : s < nt := by
    rcases Nat.lt_or_ge s nt with h' | h'
    · exact h'
    · rw [h.dom s h'] at he; cases he
  have hx' : a.eval x' = vlA a s := by
    cases x' <;> simp only [okOpd] at ho <;> try cases ho
    simp only [beq_iff_eq] at ho
    subst ho
    rfl
  have hrep := srep_val h.r he
  simp only [Mch.rep] at hrep
  obtain ⟨⟨cs, hcs, hcsz⟩, hrepL⟩ := hrep
  have h1 := h.r.moveRoot he (h.dom nt (Nat.le_refl _))
  have hc : Clr (e.del s) nt := clr_clear (p := []) h.clr hs
  obtain ⟨h5, h6, _⟩ := h1.cells hc hcell
  have hval : vlA a s = .agg cs := hcs
  rw [vadd_self, hval] at h5 h6
  simp only [Value.cells, T.cells] at h5 h6
  have h7 := h5.alloc (s := none) (v' := .pointer (some ⟨w.heap.size, 0, none⟩)) (arr := cs) (elem := ty) hc hN (vadd_self ..) (fun j hj => by
    rw [Array.getD_eq_getD_getElem?, Array.getElem?_eq_getElem (by omega)]
    rfl) rfl rfl rfl (by simp [roomN, h6])
  have h8 := Rel.land (a := a) h.size h.defers h7 hc (fun s hs => by rw [vadd_ne (by omega), vadd_ne (by omega), vadd_ne (by omega)]) hlt
  rw [vadd_self] at h8
  have hsz2 : s < (a.put (some d) (.pointer (some ⟨w.heap.size, 0, none⟩))).tmps.size := by
    simp only [Act.put, Array.size_setIfInBounds]
    rw [h.size]; exact hs
  have hvs : vlA (a.put (some d) (.pointer (some ⟨w.heap.size, 0, none⟩))) s = .agg cs := by
    rw [vlA_put (by rw [h.size]; exact hlt), vadd_ne hsd]; exact hval
  have hed : ((e.del s).put d (.val (.mem .own none ts))) d = some (.val (.mem .own none ts)) := by simp [Env.put, V.hits]
  have hrd := srep_val h8.r hed
  rw [rep_mem] at hrd
  have hpk := peekL_arep (vl := vlA (a.put (some d) (.pointer (some ⟨w.heap.size, 0, none⟩)))) hed ts [] (.mem .own none ts) rfl 0 (fun j u hj => by simpa [T.kids] using hj) hrd.2.2.2.2
  have h9 := h8.put hs (v := vlA (a.put (some d) (.pointer (some ⟨w.heap.size, 0, none⟩))) s) (x := .vagg (T.peekL d [] 0 ts)) (by
    simp only [AR, arep]
    refine ⟨⟨cs, hvs, by rw [hcsz, peekL_length]⟩, ?_⟩
    refine arepL_congr _ 0 (fun j _ hj => ?_) hpk
    rw [peekL_length, Nat.zero_add] at hj
    simp only [nodeV]
    have hvd : vlA (a.put (some d) (.pointer (some ⟨w.heap.size, 0, none⟩))) d = .pointer (some ⟨w.heap.size, 0, none⟩) := by
      rw [vlA_put (by rw [h.size]; exact hlt), vadd_self]
    rw [hvd, hvs]
    simp only [kid, Nat.zero_add]
    have : (w.alloc (.cells cs ty)).cell? ⟨w.heap.size, j, none⟩ = some (cs.getD j undef) := by
      simp only [World.cell?, heap_alloc_at]
      rw [Array.getD_eq_getD_getElem?, Array.getElem?_eq_getElem (by omega)]
      rfl
    rw [this]
    rfl)
  rw [put_same hsz2] at h9
  refine good_value (v := .pointer (some ⟨w.heap.size, 0, none⟩)) (w' := w.alloc (.cells cs ty)) ?_ hK (by rw [hd]; exact h9)
  simp only [execOp, hop, Instr.box, hx', hval]
  simp [newVar, newRow, Value.cells]

end
end Go.Mch
