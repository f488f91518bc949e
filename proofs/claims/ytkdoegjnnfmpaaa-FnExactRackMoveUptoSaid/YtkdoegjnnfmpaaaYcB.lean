/- Code and functions against the model's: the soundness of the machine. -/
import Derived.Test.YtkdoegjnnfmpaaaYcA
namespace Go.Mch

def okC (P : Program) (fm : Nat → Nat) (nt : Nat) : C → Code → Bool
  | .skip, .skip => true
  | .region none os _, .region _ ops dr' => !dr' && okOps P fm nt ops os ops.toList
  | .region (some ds) os _, .region _ ops dr' => dr' && okDraw P fm nt ops ds os
  | .seq a b, .seq a' b' => okC P fm nt a a' && okC P fm nt b b'
  | .cond c a b, .cond c' a' b' => okOpd fm c c' && (okC P fm nt a a' && okC P fm nt b b')
  | .block id b, .block id' b' => id == id' && okC P fm nt b b'
  | .loop b, .loop b' => okC P fm nt b b'
  | .exit id, .exit id' => id == id'
  | .ret, .ret => true
  | _, _ => false

/-- These slots are not written. -/
def offC (fx : List Nat) : C → Bool
  | .region _ os _ => os.all (offO fx)
  | .seq a b => offC fx a && offC fx b
  | .cond _ a b => offC fx a && offC fx b
  | .block _ b => offC fx b
  | .loop b => offC fx b
  | _ => true

def Lift (cx : Cx) (nt : Nat) (fx : List Nat) (f0 : Vl) (R : X → Env → Prop) : Exit → Act → World → Prop
  | .normal, a, w => ∃ e, R .nrm e ∧ Rel cx nt e a w ∧ Fx fx f0 a
  | .exit id, a, w => ∃ e, R (.ext id) e ∧ Rel cx nt e a w ∧ Fx fx f0 a
  | .ret, a, w => ∃ e, R .ret e ∧ Rel cx nt e a w ∧ Fx fx f0 a
  | _, _, _ => False

section
variable {P : Program} {cx : Cx} {nt : Nat} {G : Rl} {m : K}

mutual
theorem inside_hits {ks : List Nat} {r : Nat} : ∀ x : V, x.inside ks = true → x.hits r [] = true → ks.contains r = true
  | .val _, _, h => by simp [V.hits] at h
  | .sref r' p sz off len, h1, h2 => by
    simp only [V.hits, Bool.and_eq_true, beq_iff_eq] at h2
    simp only [V.inside] at h1
    rw [h2.1]; exact h1
  | .pref r' p off, h1, h2 => by
    simp only [V.hits, Bool.and_eq_true, beq_iff_eq] at h2
    simp only [V.inside] at h1
    rw [h2.1]; exact h1
  | .vagg vs, h1, h2 => by
    simp only [V.hits, V.inside] at h1 h2
    exact insideL_hits vs h1 h2
  | .vtup vs, h1, h2 => by
    simp only [V.hits, V.inside] at h1 h2
    exact insideL_hits vs h1 h2
theorem insideL_hits {ks : List Nat} {r : Nat} : ∀ vs : List V, V.insideL ks vs = true → V.hitsL r [] vs = true → ks.contains r = true
  | [], _, h => by simp [V.hitsL] at h
  | v :: vs, h1, h2 => by
    simp only [V.insideL, V.hitsL, Bool.and_eq_true, Bool.or_eq_true] at h1 h2
    rcases h2 with h2 | h2
    · exact inside_hits v h1.1 h2
    · exact insideL_hits vs h1.2 h2
end

theorem keep_some {e : Env} {ks : List Nat} {s : Nat} {x : V} (h : e.keep ks s = some x) : ks.contains s = true ∧ e s = some x ∧ x.inside ks = true := by
  unfold Env.keep at h
  split at h
  · rename_i hs
    cases hes : e s with
    | none => rw [hes] at h; cases h
    | some y =>
      rw [hes] at h
      simp only at h
      split at h
      · rename_i hi; cases h; exact ⟨hs, rfl, hi⟩
      · cases h
  · cases h

theorem Rel.keep {e : Env} {a : Act} {w : World} (h : Rel cx nt e a w) (ks : List Nat) : Rel cx nt (e.keep ks) a w := by
  refine ⟨h.r.sub (fun s x hx => (keep_some hx).2.1) (fun s x r hx hr => ?_) (fun _ _ _ => rfl), fun j hj => ?_, h.size, h.defers⟩
  · obtain ⟨_, h1, h2⟩ := keep_some hx
    obtain ⟨t, ht⟩ := h.r.root h1 hr
    have := inside_hits x h2 hr
    rw [ht]
    have hc := this
    simp only [Env.keep, hc, if_true, ht, V.inside]
  · cases hx : e.keep ks j with
    | none => rfl
    | some x => have := (keep_some hx).2.1; rw [h.dom j hj] at this; cases this

theorem soft_some {e : Env} {d s : Nat} {x : V} (h : e.soft d s = some x) : e s = some x ∧ x.hits d [] = false := by
  unfold Env.soft at h
  split at h
  · rename_i hs
    subst hs
    unfold softV at h
    split at h
    · rename_i t ht
      split at h
      · cases h; exact ⟨ht, rfl⟩
      · cases h
    · cases h
  · simp only [Env.kill] at h
    cases hes : e s with
    | none => rw [hes] at h; cases h
    | some y =>
      rw [hes] at h
      simp only at h
      split at h
      · cases h
      · rename_i hh; cases h; exact ⟨rfl, by simpa using hh⟩

theorem R.softR {e : Env} {vl : Vl} {w : World} (h : R cx e vl w) (d : Nat) : R cx (e.soft d) vl w :=
  h.sub (fun s x hx => (soft_some hx).1) (fun s x r hx hr => by
    obtain ⟨h2, h3⟩ := soft_some hx
    obtain ⟨t, ht⟩ := h.root h2 hr
    have hne : r ≠ d := fun e' => by subst e'; rw [h3] at hr; cases hr
    rw [ht]
    simp [Env.soft, hne, Env.kill, ht, V.hits]) (fun _ _ _ => rfl)

theorem Rel.softs {a : Act} {w : World} : ∀ (ds : List Nat) {e : Env}, Rel cx nt e a w → Rel cx nt (e.softs ds) a w
  | [], _, h => h
  | d :: ds, e, h => by
    refine Rel.softs ds ⟨h.r.softR d, fun j hj => ?_, h.size, h.defers⟩
    cases hx : e.soft d j with
    | none => rfl
    | some x => have := (soft_some hx).1; rw [h.dom j hj] at this; cases this

theorem fresh_soft (e : Env) (d : Nat) : Fresh (fun x => x = d) (e.soft d) := fun x hx => by
  subst hx
  refine ⟨fun t ht => ?_, fun s y hy => (soft_some hy).2⟩
  simp only [Env.soft, if_true] at ht
  unfold softV at ht
  split at ht
  · split at ht
    · rename_i hn; cases ht; exact hn
    · cases ht
  · cases ht

theorem fresh_softs : ∀ (ds : List Nat) (e : Env) {D : Nat → Prop}, Fresh D e → Fresh (fun d => D d ∨ d ∈ ds) (e.softs ds)
  | [], e, D, h => fun d hd => h d (by simpa using hd)
  | d :: ds, e, D, h => by
    have h1 : Fresh (fun x => D x ∨ x = d) (e.soft d) := fun x hx => by
      rcases hx with hx | hx
      · exact (h.less (fun s x hx => .inl (soft_some hx).1)) x hx
      · exact fresh_soft e d x hx
    have := fresh_softs ds (e.soft d) h1
    intro x hx
    refine this x ?_
    rcases hx with hx | hx
    · exact .inl (.inl hx)
    · rcases List.mem_cons.1 hx with hx | hx
      · exact .inl (.inr hx)
      · exact .inr hx

theorem Rel.drew {e : Env} {a : Act} {w : World} (h : Rel cx nt e a w) : Rel cx nt e a { w with drawn := w.drawn + 1 } := ⟨h.r.drew, h.dom, h.size, h.defers⟩

theorem pend_all (n : Nat) : pend n (Array.replicate n false) = List.range n := by
  unfold pend
  apply List.filter_eq_self.2
  intro i hi
  simp only [List.mem_range] at hi
  simp [Array.getD_eq_getD_getElem?, hi]

theorem code_sound (hP : P.follows .mixedOrders = true) (hG : ∀ f args args' r, G f args args' r → Pact P cx.fm f args args' r) (hN : ∀ b, ¬ cx.N b) (hm : m ≠ .own) (hm2 : m = .fresh → ∀ b, ¬ cx.M b) {fx : List Nat} {f0 : Vl} :
    ∀ (c : C) (c' : Code) {R : X → Env → Prop} {e : Env} {a : Act} {w : World}, okC P cx.fm nt c c' = true → offC fx c = true → wp G m c R e → Rel cx nt e a w → Fx fx f0 a → c'.wp P (Lift cx nt fx f0 R) a w := by
  intro c
  induction c with
  | skip =>
    intro c' R e a w ho hof hw h hfx
    cases c' <;> simp only [okC] at ho <;> try cases ho
    exact wp_skip ⟨e, hw, h, hfx⟩
  | region dr os ks =>
    intro c' R e a w ho hof hw h hfx
    have hQ : ∀ e a w, kReg R ks e → Rel cx nt e a w → Fx fx f0 a → Lift cx nt fx f0 R .normal a w := fun e a w h1 h2 h3 => ⟨_, h1, h2.keep ks, h3⟩
    simp only [offC] at hof
    cases dr with
    | none =>
      cases c' <;> simp only [okC] at ho <;> try cases ho
      rename_i id ops dr'
      simp only [Bool.and_eq_true, Bool.not_eq_true'] at ho
      obtain ⟨rfl, ho⟩ := ho
      simp only [wp] at hw
      refine wp_region ?_
      have := row_sound hG hN hm hm2 hQ os ops.toList 0 e a w ho hof hfx (fun j hj => by simp) h hw
      rwa [Array.length_toList, ← List.range_eq_range'] at this
    | some ds =>
      cases c' <;> simp only [okC] at ho <;> try cases ho
      rename_i id ops dr'
      simp only [Bool.and_eq_true] at ho
      obtain ⟨rfl, ho⟩ := ho
      simp only [wp] at hw
      refine wp_region_any hP ?_
      have hlen : os.length = ops.size := by
        have h1 := ho
        simp only [okDraw, Bool.and_eq_true] at h1
        have := (okRow_get (cx := cx) h1.1.1.1.1).1
        simpa using this
      have hmap : ((pend ops.size (Array.replicate ops.size false)).map fun i => os.getD i default) = os := by
        rw [pend_all, ← hlen]
        apply List.ext_getElem
        · simp
        · intro i h1 h2
          simp [List.getD_eq_getElem?_getD]
          rw [List.getElem?_eq_getElem h2]; rfl
      refine any_sound hG hN hm hm2 hQ hof ho ops.size _ (e.softs ds) a _ (by rw [pend_all]; simp) (by simp) (fun i x hx hl => ?_) ((h.softs _).drew) hfx (fun d hd => ?_) (by rw [hmap]; exact hw)
      · exfalso
        have hi : i < ops.size := by
          rcases Nat.lt_or_ge i ops.size with h' | h'
          · exact h'
          · rw [Array.getElem?_eq_none h'] at hx; cases hx
        simp [Array.getD_eq_getD_getElem?, hi] at hl
      · exact fresh_softs ds e (D := fun _ => False) (fun _ h => h.elim) d (.inr hd.1)
  | seq x y ihx ihy =>
    intro c' R e a w ho hof hw h hfx
    cases c' <;> simp only [okC] at ho <;> try cases ho
    rename_i x' y'
    simp only [Bool.and_eq_true] at ho
    simp only [offC, Bool.and_eq_true] at hof
    refine wp_seq (Go.wp_mono (ihx x' ho.1 hof.1 hw h hfx) fun en a' w' hl => ?_)
    cases en with
    | normal =>
      obtain ⟨e', h1, h2, h3⟩ := hl
      exact ihy y' ho.2 hof.2 h1 h2 h3
    | exit id => exact hl
    | ret => exact hl
    | goto l => exact hl.elim
    | panic c => exact hl.elim
    | outgrown => exact hl.elim
  | cond c x y ihx ihy =>
    intro c' R e a w ho hof hw h hfx
    cases c' <;> simp only [okC] at ho <;> try cases ho
    rename_i c' x' y'
    simp only [Bool.and_eq_true] at ho
    obtain ⟨t, h1, h2⟩ := hw
    simp only [offC, Bool.and_eq_true] at hof
    have hv := ar_sc (h.opd ho.1 (asB_spec h1))
    refine wp_cond hv ?_
    cases t
    · exact ihy y' ho.2.2 hof.2 h2 h hfx
    · exact ihx x' ho.2.1 hof.1 h2 h hfx
  | block id b ih =>
    intro c' R e a w ho hof hw h hfx
    cases c' <;> simp only [okC] at ho <;> try cases ho
    rename_i id' b'
    simp only [Bool.and_eq_true, beq_iff_eq] at ho
    obtain ⟨rfl, ho⟩ := ho
    simp only [offC] at hof
    refine wp_block (Go.wp_mono (ih b' ho hof hw h hfx) fun en a' w' hl => ?_)
    cases en with
    | normal => exact hl
    | exit i =>
      obtain ⟨e', h1, h2, h3⟩ := hl
      simp only [X.out] at h1
      simp only [Exit.inBlock]
      split
      · rename_i hi; rw [if_pos hi] at h1; exact ⟨e', h1, h2, h3⟩
      · rename_i hi; rw [if_neg hi] at h1; exact ⟨e', h1, h2, h3⟩
    | ret => exact hl
    | goto l => exact hl.elim
    | panic c => exact hl.elim
    | outgrown => exact hl.elim
  | loop b ih =>
    intro c' R e a w ho hof hw h hfx
    cases c' <;> simp only [okC] at ho <;> try cases ho
    rename_i b'
    simp only [offC] at hof
    have key := hw (fun e => ∀ a w, Rel cx nt e a w → Fx fx f0 a → ∀ (fr : Frame) (k : List Item) (cs : List Frame), ∃ en a' w', Lift cx nt fx f0 R en a' w' ∧ Arrives P (lone (fr.at a (.code b' :: .inLoop b' :: k)) cs w) fr k cs en a' w') (fun e1 he1 a1 w1 hr1 hfx1 fr k cs => by
      obtain ⟨en, a2, w2, hq, harr⟩ := ih b' ho hof he1 hr1 hfx1 fr (.inLoop b' :: k) cs
      cases en with
      | normal =>
        obtain ⟨e2, h1, h2, h3⟩ := hq
        obtain ⟨en, a3, w3, hq3, harr3⟩ := h1 a2 w2 h2 h3 fr k cs
        exact ⟨en, a3, w3, hq3, .of_steps (Steps.trans harr (.one step_inLoop)) harr3⟩
      | exit id => exact ⟨.exit id, a2, w2, hq, .pass (x := .inLoop b') rfl (fun _ _ => .inl (by simp)) harr⟩
      | ret => exact ⟨.ret, a2, w2, hq, .pass (x := .inLoop b') rfl (fun _ _ => .inl (by simp)) harr⟩
      | goto l => exact hq.elim
      | panic c => exact hq.elim
      | outgrown => exact hq.elim)
    intro fr k cs
    obtain ⟨en, a', w', hq, harr⟩ := key a w h hfx fr k cs
    exact ⟨en, a', w', hq, .of_steps (.one step_loop) harr⟩
  | exit id =>
    intro c' R e a w ho hof hw h hfx
    cases c' <;> simp only [okC] at ho <;> try cases ho
    rename_i id'
    simp only [beq_iff_eq] at ho
    subst ho
    exact wp_exit ⟨e, hw, h, hfx⟩
  | ret =>
    intro c' R e a w ho hof hw h hfx
    cases c' <;> simp only [okC] at ho <;> try cases ho
    exact wp_ret ⟨e, hw, h, hfx⟩

end
end Go.Mch
