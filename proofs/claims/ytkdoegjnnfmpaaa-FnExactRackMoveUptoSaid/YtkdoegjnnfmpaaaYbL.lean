/- Literals of slices and structs, against the model's operations. -/
import Derived.Test.YtkdoegjnnfmpaaaYbK
namespace Go.Mch

theorem foldl_put : ∀ (l : List (Value × Nat)) (k off : Nat) (cells : Array Value), l.map (·.2) = List.range' k l.length → off + k + l.length ≤ cells.size →
    ∃ out, l.foldl (fun cs (x : Value × Nat) => cs.setIfInBounds (off + x.2) x.1) cells = out ∧ out.size = cells.size ∧ ∀ i, out[i]? = if off + k ≤ i ∧ i < off + k + l.length then (l[i - (off + k)]?).map (·.1) else cells[i]?
  | [], k, off, cells, _, _ => ⟨cells, rfl, rfl, fun i => by rw [if_neg (by simp only [List.length_nil]; omega)]⟩
  | (v, j) :: l, k, off, cells, hl, hs => by
    simp only [List.map_cons, List.length_cons, List.range'_succ, List.cons.injEq] at hl hs
    obtain ⟨rfl, hl⟩ := hl
    obtain ⟨out, h1, h2, h3⟩ := foldl_put l (j + 1) off (cells.setIfInBounds (off + j) v) hl (by simp; omega)
    refine ⟨out, h1, by rw [h2]; simp, fun i => ?_⟩
    rw [h3]
    by_cases hi : i = off + j
    · subst hi
      rw [if_neg (by omega), if_pos (by simp), Array.getElem?_setIfInBounds_self_of_lt (by omega), Nat.sub_self]
      rfl
    · by_cases h4 : off + (j + 1) ≤ i ∧ i < off + (j + 1) + l.length
      · rw [if_pos h4, if_pos (by simp; omega), show i - (off + j) = (i - (off + (j + 1))) + 1 from by omega]
        simp
      · rw [if_neg h4, if_neg (by simp; omega), Array.getElem?_setIfInBounds_ne (by omega)]

theorem zip_put (cs cells : Array Value) (off : Nat) (h : off + cs.size ≤ cells.size) :
    ∃ out, cs.zipIdx.foldl (fun x (c, j) => x.setIfInBounds (off + j) c) cells = out ∧ out.size = cells.size ∧ ∀ i, out[i]? = if off ≤ i ∧ i < off + cs.size then cs[i - off]? else cells[i]? := by
  obtain ⟨out, h1, h2, h3⟩ := foldl_put cs.toList.zipIdx 0 off cells (by simp [List.zipIdx_map_snd]) (by simpa using h)
  refine ⟨out, ?_, h2, fun i => ?_⟩
  · rw [← h1]
    rw [← Array.foldl_toList]
    simp
  · rw [h3]
    simp only [Nat.add_zero, List.length_zipIdx, Array.length_toList]
    split
    · simp only [List.getElem?_zipIdx, Array.getElem?_toList, Option.map_map]
      cases cs[i - off]? <;> rfl
    · rfl

theorem fill_ones : ∀ (l : List (Nat × Value)) (k : Nat) (cells : Array Value), l.map (·.1) = List.range' k l.length → (∀ p, p ∈ l → p.2.cells = #[p.2]) → k + l.length ≤ cells.size →
    ∃ out, Instr.fill (fun i => some (i * 1, 1)) cells l = some out ∧ out.size = cells.size ∧ ∀ i, out[i]? = if k ≤ i ∧ i < k + l.length then (l[i - k]?).map (·.2) else cells[i]?
  | [], k, cells, _, _, _ => ⟨cells, rfl, rfl, fun i => by rw [if_neg (by simp only [List.length_nil]; omega)]⟩
  | (j, v) :: l, k, cells, hl, h1, hs => by
    simp only [List.map_cons, List.length_cons, List.range'_succ, List.cons.injEq] at hl hs
    obtain ⟨rfl, hl⟩ := hl
    have hv : v.cells = #[v] := h1 (j, v) (by simp)
    obtain ⟨out, g1, g2, g3⟩ := fill_ones l (j + 1) (cells.setIfInBounds j v) hl (fun p hp => h1 p (by simp [hp])) (by simp; omega)
    refine ⟨out, ?_, by rw [g2]; simp, fun i => ?_⟩
    · simp only [Instr.fill, Nat.mul_one, hv, List.size_toArray, List.length_cons, List.length_nil]
      rw [if_neg (by simp; omega)]
      simpa using g1
    · rw [g3]
      by_cases hi : i = j
      · subst hi
        rw [if_neg (by omega), if_pos (by simp), Array.getElem?_setIfInBounds_self_of_lt (by omega), Nat.sub_self]
        rfl
      · by_cases h4 : j + 1 ≤ i ∧ i < j + 1 + l.length
        · rw [if_pos h4, if_pos (by simp; omega), show i - j = (i - (j + 1)) + 1 from by omega]
          simp
        · rw [if_neg h4, if_neg (by simp; omega), Array.getElem?_setIfInBounds_ne (by omega)]

section
variable {P : Program} {cx : Cx} {nt : Nat} {Kt : Env → Prop} {o : Oper} {a : Act} {w : World} {e : Env} {d : Nat}

theorem Rel.opds (h : Rel cx nt e a w) : ∀ (xs : List Opd) (ys : List Operand) {vs : List V}, okOpds cx.fm xs ys = true → e.opds xs = some vs →
    vs.length = ys.length ∧ ∀ (g : Nat → Value) (i : Nat), (∀ j, j < ys.length → g (i + j) = (ys.map a.eval).getD j undef) → arepL cx.fm (okR cx (Own e (vlA a) w)) e (vlA a) w g i vs
  | [], [], vs, _, h2 => by
    simp only [Env.opds, Option.some.injEq] at h2
    subst h2
    exact ⟨rfl, fun _ _ _ => trivial⟩
  | x :: xs, y :: ys, vs, h1, h2 => by
    simp only [okOpds, Bool.and_eq_true] at h1
    simp only [Env.opds] at h2
    cases hx : e.opd x with
    | none => rw [hx] at h2; cases h2
    | some v =>
      rw [hx] at h2
      simp only [Option.bind_some] at h2
      cases hxs : e.opds xs with
      | none => rw [hxs] at h2; cases h2
      | some vs' =>
        rw [hxs] at h2
        simp only [Option.map_some, Option.some.injEq] at h2
        subst h2
        obtain ⟨g1, g2⟩ := h.opds xs ys h1.2 hxs
        refine ⟨by simp [g1], fun g i hg => ⟨?_, g2 g (i + 1) fun j hj => ?_⟩⟩
        · have := hg 0 (by simp)
          simp only [Nat.add_zero, List.map_cons, List.getD_cons_zero] at this
          rw [this]
          exact h.opd h1.1 hx
        · have := hg (j + 1) (by simpa using hj)
          simp only [List.map_cons, List.getD_cons_succ] at this
          rw [← this, show i + 1 + j = i + (j + 1) from by omega]
  | [], _ :: _, _, h1, _ => by simp [okOpds] at h1
  | _ :: _, [], _, h1, _ => by simp [okOpds] at h1

theorem good_bsl {ps : List Opd} {ps' : Array (Nat × Operand)} {n : Nat} {t el : TypeId} {vs : List V} {ts : List T} {e1 : Env} (hN : ∀ b, ¬ cx.N b) (h : Rel cx nt e a w) (hop : o.op = .buildSlice t n ps') (hel : elOf P t = some el) (hsz : szOf P el = some 1)
    (hz : (zeroOf P el).any (fun z => z.length == 1) = true) (hn : n ≤ 16777216) (hr : ps'.toList.map (·.1) = List.range n) (hps : okOpds cx.fm ps (ps'.toList.map (·.2)) = true) (hd : o.dst = some d) (hlt : d < nt)
    (h1 : e.opds ps = some vs) (h2 : e.takeL vs = some (ts, e1)) (hcell : ts.all T.isCell = true) (hK : Kt (e1.setD (some d) (.val (.mem .own (some 1) ts)))) : Good P cx nt Kt o a w := by
  obtain ⟨g1, g2⟩ := h.opds ps _ hps h1
  have hlen : ps'.toList.length = n := by have := congrArg List.length hr; simpa using this
  have hlen2 : vs.length = n := by rw [g1]; simpa using hlen
  have g3 := g2 (fun j => ((ps'.toList.map (·.2)).map a.eval).getD j undef) 0 (fun j _ => by rw [Nat.zero_add])
  obtain ⟨vl, k1, ⟨us, k2, k3, k4⟩, k5, k6, k7, _⟩ := takeL_sound vs _ 0 nt e (vlA a) h.r h.clr (Nat.le_refl _) (arwL_of h.dom vs _ 0 g3) h2
  have hone : ∀ j, j < n → (us.getD j undef).cells = #[us.getD j undef] := by
    have hq := srep_val k5 (add_self ..)
    rw [k2] at hq
    simp only [Mch.rep] at hq
    have : ∀ (ts : List T) (g : Nat → Value) (i : Nat), ts.all T.isCell = true → repL cx.fm (okR cx (Own (e1.add nt (.val (.tup ts))) vl w)) w g i ts → True := fun _ _ _ _ _ => trivial
    intro j hj
    have hget : ∃ t, ts[j]? = some t := ⟨_, List.getElem?_eq_getElem (by omega)⟩
    obtain ⟨t, ht⟩ := hget
    have hrt := repL_get ts 0 j hq.2 ht
    have hct : t.isCell = true := by
      rw [List.all_eq_true] at hcell
      exact hcell t (List.mem_of_getElem? ht)
    have := (isCell_oneCell hrt hct).2
    simpa [kid] using this
  have hu := elOf_spec hel
  obtain ⟨iz, hiz⟩ : ∃ i, P.info? el = some i := by
    unfold szOf at hsz
    cases hi : P.info? el with
    | none => rw [hi] at hsz; cases hsz
    | some i => exact ⟨i, rfl⟩
  have hisz : iz.size = 1 := by simpa [szOf, hiz] using hsz
  obtain ⟨z, hzv⟩ : ∃ z, iz.zero = some z := by
    unfold zeroOf at hz
    rw [hiz] at hz
    cases hz' : iz.zero with
    | none => simp [hz'] at hz
    | some z => exact ⟨z, rfl⟩
  generalize hzc : (Array.range (n * 1)).map ((if n = 0 then #[] else z.cells)[· % (if n = 0 then #[] else z.cells).size]!) = cells0
  have hc0 : cells0.size = n := by rw [← hzc]; simp
  obtain ⟨out, f1, f2, f3⟩ := fill_ones (ps'.map fun (i, x) => (i, a.eval x)).toList 0 cells0 (by
      rw [Array.toList_map, List.map_map]
      simp only [List.length_map]
      rw [hlen, ← List.range_eq_range', ← hr]
      rfl) (fun p hp => by
      rw [Array.toList_map] at hp
      obtain ⟨q, hq, rfl⟩ := List.mem_map.1 hp
      obtain ⟨j, hj, rfl⟩ := List.getElem_of_mem hq
      have := hone j (by omega)
      rw [k4 j (by omega)] at this
      simp only [Nat.zero_add, List.map_map, List.getD_eq_getElem?_getD, List.getElem?_map, List.getElem?_eq_getElem hj, Option.map_some, Option.getD_some, Function.comp] at this
      exact this) (by simp only [Array.toList_map, List.length_map, hlen, hc0, Nat.zero_add]; exact Nat.le_refl _)
  simp only [Nat.zero_add, Nat.zero_le, true_and, Nat.sub_zero] at f3
  have hal := k5.alloc (s := some 1) (v' := .slice (some ⟨w.heap.size, 0, none⟩) n n) (arr := out) (elem := el) k6 hN k2 (fun j hj => by
    have hj' : j < n := by omega
    rw [f3, if_pos (by simp only [Array.toList_map, List.length_map, hlen]; exact hj'), k4 j (by omega)]
    have hjl : j < ps'.toList.length := by omega
    simp only [Nat.zero_add, List.map_map, List.getD_eq_getElem?_getD, List.getElem?_map, List.getElem?_eq_getElem hjl, Option.map_some, Option.getD_some, Function.comp, Array.toList_map]) rfl rfl
    ⟨n, rfl, by omega, by omega, Nat.le_refl _⟩ (by simp only [roomN, capOf]; omega)
  refine good_make h hd hlt ?_ hal k6 (fun s hs => by rw [vadd_ne (by omega)]; exact k1 s hs) (vadd_self ..) hK
  have hbs : (Instr.buildSlice t n (ps'.map fun (i, x) => (i, a.eval x))).run P w = .ok (.slice (some ⟨w.heap.size, 0, none⟩) n n) (w.alloc (.cells out el)) := by
    have hbig : ¬ (n * 1 > 2 ^ 24) := by omega
    simp only [Instr.buildSlice, Sem.run_bind, run_und hu, Result.andThen_ok, run_szOf hsz]
    rw [if_neg hbig]
    by_cases hn0 : n = 0
    · rw [if_pos (by omega)]
      simp only [hn0] at hzc f1
      simp only [Sem.run_bind, Sem.run_pure, Result.andThen_ok, hn0, if_true] at hzc ⊢
      simp only [Nat.zero_mul] at hzc
      rw [hzc, f1]
      simp [newRow]
    · rw [if_neg (by omega)]
      simp only [Sem.run_bind, run_zero hiz hzv, Sem.run_pure, Result.andThen_ok]
      rw [if_neg hn0] at hzc
      rw [hzc, f1]
      simp [newRow]
  simp only [execOp, hop, Sem.run_bind, hbs, Result.andThen_ok, Sem.run_pure]

end
end Go.Mch
