/- Struct literals and appends, against the model's operations. -/
import Derived.Test.YtkdoegjnnfmpaaaYbL
namespace Go.Mch

section
variable {P : Program} {cx : Cx} {nt : Nat} {Kt : Env → Prop} {o : Oper} {a : Act} {w : World} {e : Env} {d : Nat}

theorem arepL_seg {fm : Nat → Nat} {ok : K → Nat → Prop} {vl : Vl} {g g' f : Nat → Value} {vs us : List V} {i : Nat} (h : arepL fm ok e vl w g 0 vs) (hu : arepL fm ok e vl w f 0 us) (hl : i + us.length ≤ vs.length)
    (hg : ∀ j, j < vs.length → g' j = if i ≤ j ∧ j < i + us.length then f (j - i) else g j) : arepL fm ok e vl w g' 0 (vs.take i ++ us ++ vs.drop (i + us.length)) := by
  have hs : vs = vs.take i ++ ((vs.drop i).take us.length ++ vs.drop (i + us.length)) := by
    rw [← List.drop_drop, List.take_append_drop, List.take_append_drop]
  have h' := h
  rw [hs, arepL_append, arepL_append] at h'
  obtain ⟨h1, _, h3⟩ := h'
  have hti : (vs.take i).length = i := by simp; omega
  have htu : ((vs.drop i).take us.length).length = us.length := by simp; omega
  rw [hti, htu, Nat.zero_add] at h3
  rw [arepL_append, arepL_append]
  refine ⟨⟨arepL_congr _ 0 (fun j _ hj => ?_) h1, ?_⟩, ?_⟩
  · rw [hti] at hj
    rw [hg j (by omega), if_neg (by omega)]
  · rw [hti, arepL_shift]
    refine arepL_congr us 0 (fun j _ hj => ?_) hu
    rw [hg (j + i) (by omega), if_pos (by omega), Nat.add_sub_cancel]
  · simp only [List.length_append, hti, Nat.zero_add]
    refine arepL_congr _ _ (fun j hj1 hj2 => ?_) h3
    simp only [List.length_drop] at hj2
    rw [hg j (by omega), if_neg (by omega)]

def pairs (P : Program) (cx : Cx) (e : Env) (a : Act) (w : World) (place : Nat → Option (Nat × Nat)) : List (Nat × Nat × V) → List (Nat × Value) → Prop
  | [], [] => True
  | (i, n, x) :: ps, (j, v) :: l => place j = some (i, n) ∧ AR cx e a w v x ∧ pairs P cx e a w place ps l
  | _, _ => False

theorem arep_one {v : Value} {x : V} (h : AR cx e a w v x) (hx : match x with | .vagg _ => False | .vtup _ => False | .val (.agg _) => False | .val .gone => False | .val .nul => False | .val (.tup _) => False | _ => True) : v.cells = #[v] := by
  cases x with
  | val t =>
    cases t with
    | agg ts => exact hx.elim
    | gone => exact hx.elim
    | nul => exact hx.elim
    | tup ts => exact hx.elim
    | sc x => exact (isCell_oneCell h.2 rfl).2
    | mem k s ts => exact (isCell_oneCell h.2 rfl).2
    | fn f caps => exact (isCell_oneCell h.2 rfl).2
  | sref r p sz off len =>
    simp only [AR, arep] at h
    obtain ⟨_, _, _, _, _, _, o', h, _⟩ := h
    rw [h]; rfl
  | pref r p off =>
    simp only [AR, arep] at h
    obtain ⟨_, _, _, _, _, _, h⟩ := h
    rw [h]; rfl
  | vagg vs => exact hx.elim
  | vtup vs => exact hx.elim

theorem fill_spec {place : Nat → Option (Nat × Nat)} : ∀ (ps : List (Nat × Nat × V)) (l : List (Nat × Value)) (vs out : List V) (cells : Array Value), pairs P cx e a w place ps l → vs.length = cells.size →
    arepL cx.fm (okR cx (Own e (vlA a) w)) e (vlA a) w (fun j => cells.getD j undef) 0 vs → fillV vs ps = some out →
    ∃ cells', Instr.fill place cells l = some cells' ∧ out.length = cells'.size ∧ arepL cx.fm (okR cx (Own e (vlA a) w)) e (vlA a) w (fun j => cells'.getD j undef) 0 out
  | [], [], vs, out, cells, _, hl, h, hf => by
    simp only [fillV, Option.some.injEq] at hf
    subst hf
    exact ⟨cells, rfl, hl, h⟩
  | (i, n, x) :: ps, (j, v) :: l, vs, out, cells, hp, hl, h, hf => by
    obtain ⟨h1, h2, h3⟩ := hp
    have step : ∀ (us : List V), us.length = n → i + n ≤ vs.length → v.cells.size = us.length → arepL cx.fm (okR cx (Own e (vlA a) w)) e (vlA a) w (fun j => v.cells.getD j undef) 0 us →
        fillV (vs.take i ++ us ++ vs.drop (i + n)) ps = some out → ∃ cells', Instr.fill place cells ((j, v) :: l) = some cells' ∧ out.length = cells'.size ∧ arepL cx.fm (okR cx (Own e (vlA a) w)) e (vlA a) w (fun j => cells'.getD j undef) 0 out := by
      intro us hn hin hsz hus hf'
      obtain ⟨c1, g1, g2, g3⟩ := zip_put v.cells cells i (by omega)
      have hseg := arepL_seg (g' := fun j => c1.getD j undef) h hus (i := i) (by omega) (fun j' hj' => by
        simp only [Array.getD_eq_getD_getElem?]
        rw [g3, hsz]
        split <;> rfl)
      rw [hn] at hseg
      obtain ⟨c2, k1, k2, k3⟩ := fill_spec ps l _ out c1 h3 (by rw [g2, ← hl]; simp; omega) hseg hf'
      refine ⟨c2, ?_, k2, k3⟩
      simp only [Instr.fill, h1]
      rw [if_neg (by simp only [Bool.or_eq_true, decide_eq_true_eq, ne_eq, not_or]; omega)]
      rw [g1]
      exact k1
    have one : n = 1 ∧ i + n ≤ vs.length → v.cells = #[v] → fillV (vs.take i ++ [x] ++ vs.drop (i + n)) ps = some out → ∃ cells', Instr.fill place cells ((j, v) :: l) = some cells' ∧ out.length = cells'.size ∧ arepL cx.fm (okR cx (Own e (vlA a) w)) e (vlA a) w (fun j => cells'.getD j undef) 0 out := by
      intro hc hv hf'
      refine step [x] (by simp [hc.1]) hc.2 (by rw [hv]; rfl) ?_ hf'
      rw [hv]
      exact ⟨by simpa using h2, trivial⟩
    cases x with
    | vagg us =>
      simp only [fillV] at hf
      split at hf
      · rename_i hc
        simp only [AR, arep] at h2
        obtain ⟨⟨cs, rfl, hsz⟩, h2⟩ := h2
        refine step us hc.1 hc.2 hsz ?_ hf
        exact arepL_congr us 0 (fun j' _ _ => rfl) h2
      · cases hf
    | vtup us => simp [fillV] at hf
    | sref r p sz off len =>
      simp only [fillV] at hf
      split at hf
      · rename_i hc; exact one hc (arep_one h2 trivial) hf
      · cases hf
    | pref r p off =>
      simp only [fillV] at hf
      split at hf
      · rename_i hc; exact one hc (arep_one h2 trivial) hf
      · cases hf
    | val t =>
      cases t with
      | agg ts => simp [fillV] at hf
      | gone => simp [fillV] at hf
      | nul => simp [fillV] at hf
      | tup ts => simp [fillV] at hf
      | sc y =>
        simp only [fillV] at hf
        split at hf
        · rename_i hc; exact one hc (arep_one h2 trivial) hf
        · cases hf
      | mem k s ts =>
        simp only [fillV] at hf
        split at hf
        · rename_i hc; exact one hc (arep_one h2 trivial) hf
        · cases hf
      | fn f caps =>
        simp only [fillV] at hf
        split at hf
        · rename_i hc; exact one hc (arep_one h2 trivial) hf
        · cases hf
  | [], _ :: _, _, _, _, h, _, _, _ => h.elim
  | _ :: _, [], _, _, _, h, _, _, _ => h.elim

theorem Rel.parts (h : Rel cx nt e a w) {t : TypeId} {fs : Array Field} {places : Array (Nat × Nat)} (hu : P.underlying t = some (.struct fs)) (hpl : ∀ (j : Nat) (f : Field), fs[j]? = some f → ∃ n, szOf P f.type = some n ∧ places[j]? = some (f.offset, n)) :
    ∀ (xs : List (Nat × Nat × Opd)) (ys : List (Nat × Operand)) {ps : List (Nat × Nat × V)}, okParts P cx.fm t xs ys = true → e.parts xs = some ps → pairs P cx e a w (places[·]?) ps (ys.map fun (i, x) => (i, a.eval x))
  | [], [], ps, _, h2 => by
    simp only [Env.parts, Option.some.injEq] at h2
    subst h2
    trivial
  | (i, n, x) :: xs, (j, y) :: ys, ps, h1, h2 => by
    simp only [okParts, Bool.and_eq_true] at h1
    simp only [Env.parts] at h2
    cases hx : e.opd x with
    | none => rw [hx] at h2; cases h2
    | some v =>
      rw [hx] at h2
      simp only [Option.bind_some] at h2
      cases hxs : e.parts xs with
      | none => rw [hxs] at h2; cases h2
      | some ps' =>
        rw [hxs] at h2
        simp only [Option.map_some, Option.some.injEq] at h2
        subst h2
        refine ⟨?_, h.opd h1.1.2 hx, h.parts hu hpl xs ys h1.2 hxs⟩
        have hf := h1.1.1
        rw [Option.any_eq_true] at hf
        obtain ⟨f, hf1, hf2⟩ := hf
        simp only [Bool.and_eq_true, beq_iff_eq] at hf2
        obtain ⟨fs', hu', hfj⟩ := fieldOf_spec hf1
        rw [hu] at hu'
        cases hu'
        obtain ⟨m, hm1, hm2⟩ := hpl j f hfj
        rw [hf2.2] at hm1
        cases hm1
        show places[j]? = _
        rw [hm2, hf2.1]
  | [], _ :: _, _, h1, _ => by simp [okParts] at h1
  | _ :: _, [], _, h1, _ => by simp [okParts] at h1

theorem run_placesA {P : Program} {w : World} : ∀ (fs : List Field), (∀ f, f ∈ fs → (szOf P f.type).isSome = true) →
    ∃ places : List (Nat × Nat), (fs.mapM fun f => (do pure (f.offset, ← sizeOf f.type) : Sem (Nat × Nat))).run P w = .ok places w ∧ ∀ (j : Nat) (f : Field), fs[j]? = some f → ∃ n, szOf P f.type = some n ∧ places[j]? = some (f.offset, n)
  | [], _ => ⟨[], by simp, fun j f hf => by simp at hf⟩
  | f :: fs, h => by
    obtain ⟨pl, h1, h2⟩ := run_placesA (w := w) fs (fun f hf => h f (by simp [hf]))
    obtain ⟨n, hn⟩ := Option.isSome_iff_exists.1 (h f (by simp))
    refine ⟨(f.offset, n) :: pl, ?_, fun j g hg => ?_⟩
    · simp only [List.mapM_cons, Sem.run_bind, run_szOf hn, Result.andThen_ok, Sem.run_pure, h1]
    · cases j with
      | zero => simp at hg; subst hg; exact ⟨n, hn, rfl⟩
      | succ j => exact h2 j g (by simpa using hg)

theorem good_build {zs : List Value} {ps : List (Nat × Nat × Opd)} {ps' : Array (Nat × Operand)} {t : TypeId} {fs : Array Field} {vps : List (Nat × Nat × V)} {vs : List V} (h : Rel cx nt e a w) (hop : o.op = .build t ps') (hz : (zeroOf P t).any (eqCL zs ·) = true)
    (hu : P.underlying t = some (.struct fs)) (hfs : fs.all (fun f => (szOf P f.type).isSome) = true) (hp : okParts P cx.fm t ps ps'.toList = true) (hd : o.dst = some d) (hlt : d < nt)
    (h1 : e.parts ps = some vps) (h2 : fillV (zs.map fun z => .val (.sc z)) vps = some vs) (hK : Kt (e.setD (some d) (.vagg vs))) : Good P cx nt Kt o a w := by
  obtain ⟨i, z, hi, hzv, hzc, hsc⟩ := zeroOf_spec hz
  obtain ⟨places, g1, g2⟩ := run_placesA (P := P) (w := w) fs.toList (fun f hf => by
    rw [Array.all_eq_true'] at hfs
    exact hfs f (by simpa using hf))
  have hpairs := h.parts (places := places.toArray) hu (fun j f hf => by
    obtain ⟨n, k1, k2⟩ := g2 j f (by simpa using hf)
    exact ⟨n, k1, by simpa using k2⟩) ps ps'.toList hp h1
  have hz0 : arepL cx.fm (okR cx (Own e (vlA a) w)) e (vlA a) w (fun j => z.cells.getD j undef) 0 (zs.map fun z => V.val (.sc z)) := by
    have : ∀ (zs : List Value) (g : Nat → Value) (i : Nat), (∀ j, j < zs.length → g (i + j) = zs.getD j undef) → (∀ x, x ∈ zs → scal x = true) → arepL cx.fm (okR cx (Own e (vlA a) w)) e (vlA a) w g i (zs.map fun z => V.val (.sc z)) := by
      intro zs
      induction zs with
      | nil => intros; trivial
      | cons z zs ih =>
        intro g i hg hz
        refine ⟨⟨rfl, by have := hg 0 (by simp); simpa using this, hz z (by simp)⟩, ih g (i + 1) (fun j hj => ?_) (fun x hx => hz x (by simp [hx]))⟩
        have := hg (j + 1) (by simpa using hj)
        rw [show i + 1 + j = i + (j + 1) from by omega]
        simpa using this
    refine this zs _ 0 (fun j hj => ?_) hsc
    subst hzc
    simp [Array.getD_eq_getD_getElem?, List.getD_eq_getElem?_getD]
  obtain ⟨cells', k1, k2, k3⟩ := fill_spec (P := P) vps _ _ vs z.cells hpairs (by rw [← hzc]; simp) hz0 h2
  refine good_read (v := .agg cells') h hd hlt ?_ ?_ hK
  · have g1' : (fs.mapM fun f => (do pure (f.offset, ← sizeOf f.type) : Sem (Nat × Nat))).run P w = .ok places.toArray w := by
      rw [Array.mapM_eq_mapM_toList]
      simp only [Sem.run_map, g1, Result.andThen_ok]
    simp only [execOp, hop, Instr.build, Sem.run_bind, run_zero hi hzv, Result.andThen_ok, run_und hu]
    rw [g1']
    simp only [Result.andThen_ok, Array.toList_map]
    rw [k1]
    simp
  · simp only [AR, arep]
    exact ⟨⟨cells', rfl, k2.symm⟩, arepL_congr vs 0 (fun j _ _ => rfl) k3⟩

end
end Go.Mch
