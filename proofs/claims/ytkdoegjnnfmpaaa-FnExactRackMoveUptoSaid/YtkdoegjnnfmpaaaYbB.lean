/- How a tree lies in the model's heap; what is owned; that what is not touched stays. -/
import Derived.Test.YtkdoegjnnfmpaaaYbM
import Derived.WalkKit
namespace Go.Mch

def scal : Value → Bool
  | .int .. => true
  | .bool _ => true
  | .string _ => true
  | .nilFunc => true
  | .nilIface => true
  | .slice none 0 0 => true
  | .slice (some _) 0 0 => true
  | .pointer none => true
  | .map none => true
  | _ => false

/-- The value of part i of a value. -/
def kid (w : World) : Value → Nat → Value
  | .pointer (some a), i => (w.cell? ⟨a.block, a.off + i, none⟩).getD undef
  | .slice (some a) _ _, i => (w.cell? ⟨a.block, a.off + i, none⟩).getD undef
  | .agg cs, i => cs.getD i undef
  | .tuple vs, i => vs.getD i undef
  | .func _ _ cs, i => cs.getD i undef
  | _, _ => undef

def blk : Value → Nat
  | .pointer (some a) => a.block
  | .slice (some a) _ _ => a.block
  | _ => 0

def ofs : Value → Nat
  | .pointer (some a) => a.off
  | .slice (some a) _ _ => a.off
  | _ => 0

def capOf : Value → Nat
  | .slice _ _ c => c
  | _ => 0

/-- The shape of a value that leads to n cells. -/
def shp (w : World) (v : Value) (s : Option Nat) (n : Nat) : Prop :=
  (match s with
   | none => v = .pointer (some ⟨blk v, ofs v, none⟩)
   | some sz => ∃ len, v = .slice (some ⟨blk v, ofs v, none⟩) len (capOf v) ∧ n = len * sz ∧ 0 < sz ∧ len ≤ capOf v) ∧
  ∀ i, i < n → (w.cell? ⟨blk v, ofs v + i, none⟩).isSome = true

/-- The block of own memory has its cells, with the room for more that a slice's capacity tells. -/
def roomOf (w : World) (v : Value) (s : Option Nat) (n : Nat) : Prop :=
  ∃ arr elem, w.heap[blk v]? = some (.cells arr elem) ∧ ofs v + (match s with | none => n | some sz => capOf v * sz) ≤ arr.size

mutual
def rep (fm : Nat → Nat) (ok : K → Nat → Prop) (w : World) (v : Value) : T → Prop
  | .sc x => v = x ∧ scal x = true
  | .gone => True
  | .nul => v = undef
  | .mem k s ts => shp w v s ts.length ∧ (k = .own ∨ ts ≠ [] → ok k (blk v)) ∧ (k = .own → roomOf w v s ts.length) ∧ (k ≠ .own → T.noOwnL ts = true) ∧ repL fm ok w (kid w v) 0 ts
  | .fn f caps => (∃ cs, v = .func (.func (fm f)) #[] cs ∧ cs.size = caps.length) ∧ T.noOwnL caps = true ∧ repL fm ok w (kid w v) 0 caps
  | .agg ts => (∃ cs, v = .agg cs ∧ cs.size = ts.length) ∧ repL fm ok w (kid w v) 0 ts
  | .tup ts => (∃ vs, v = .tuple vs ∧ vs.size = ts.length) ∧ repL fm ok w (kid w v) 0 ts
def repL (fm : Nat → Nat) (ok : K → Nat → Prop) (w : World) (g : Nat → Value) (i : Nat) : List T → Prop
  | [] => True
  | t :: ts => rep fm ok w (g i) t ∧ repL fm ok w g (i + 1) ts
end

mutual
/-- How often block b is owned by a tree. -/
def cnt (w : World) (v : Value) (b : Nat) : T → Nat
  | .mem k _ ts => if k = .own then (if blk v = b then 1 else 0) + cntL w (kid w v) b 0 ts else 0
  | .agg ts => cntL w (kid w v) b 0 ts
  | .tup ts => cntL w (kid w v) b 0 ts
  | _ => 0
def cntL (w : World) (g : Nat → Value) (b : Nat) (i : Nat) : List T → Nat
  | [] => 0
  | t :: ts => cnt w (g i) b t + cntL w g b (i + 1) ts
end

theorem rep_mem {fm : Nat → Nat} {ok : K → Nat → Prop} {w : World} {v : Value} {k : K} {s : Option Nat} {ts : List T} : rep fm ok w v (.mem k s ts) =
    (shp w v s ts.length ∧ (k = .own ∨ ts ≠ [] → ok k (blk v)) ∧ (k = .own → roomOf w v s ts.length) ∧ (k ≠ .own → T.noOwnL ts = true) ∧ repL fm ok w (kid w v) 0 ts) := by rw [rep]
theorem cnt_own {w : World} {v : Value} {b : Nat} {s : Option Nat} {ts : List T} : cnt w v b (.mem .own s ts) = (if blk v = b then 1 else 0) + cntL w (kid w v) b 0 ts := by simp [cnt]
theorem cnt_imm {w : World} {v : Value} {b : Nat} {k : K} {s : Option Nat} {ts : List T} (h : k ≠ .own) : cnt w v b (.mem k s ts) = 0 := by simp [cnt, h]

theorem kid_eq {w w' : World} {v : Value} (h : w'.heap[blk v]? = w.heap[blk v]?) : kid w' v = kid w v := by
  funext i
  match v with
  | .pointer (some a) => simp only [kid, World.cell?_of_block (a := ⟨a.block, a.off + i, none⟩) h]
  | .slice (some a) _ _ => simp only [kid, World.cell?_of_block (a := ⟨a.block, a.off + i, none⟩) h]
  | .pointer none | .slice none _ _ | .bool _ | .int .. | .float .. | .complex .. | .string _ | .map _ | .chan _ | .func .. | .nilFunc | .iface .. | .nilIface | .agg _ | .tuple _ => rfl

theorem shp_eq {w w' : World} {v : Value} {s : Option Nat} {n : Nat} (h : w'.heap[blk v]? = w.heap[blk v]?) (hs : shp w v s n) : shp w' v s n :=
  ⟨hs.1, fun i hi => by rw [World.cell?_of_block (a := ⟨blk v, ofs v + i, none⟩) h]; exact hs.2 i hi⟩

theorem roomOf_eq {w w' : World} {v : Value} {s : Option Nat} {n : Nat} (h : w'.heap[blk v]? = w.heap[blk v]?) (hs : roomOf w v s n) : roomOf w' v s n := by
  obtain ⟨a, e, h1, h2⟩ := hs
  exact ⟨a, e, h.trans h1, h2⟩

theorem shp_lt {w : World} {v : Value} {s : Option Nat} {n : Nat} (hs : shp w v s n) (hn : 0 < n) : blk v < w.heap.size := by
  have h := hs.2 0 hn
  cases hc : w.cell? ⟨blk v, ofs v + 0, none⟩ with
  | none => rw [hc] at h; cases h
  | some u => exact World.block_lt_of_cell? w ⟨blk v, ofs v + 0, none⟩ hc

theorem roomOf_lt {w : World} {v : Value} {s : Option Nat} {n : Nat} (hs : roomOf w v s n) : blk v < w.heap.size := by
  obtain ⟨a, e, h1, _⟩ := hs
  exact (Array.getElem?_eq_some_iff.1 h1).1

mutual
theorem cnt_noOwn (w : World) (v : Value) (b : Nat) : ∀ t : T, t.noOwn = true → cnt w v b t = 0
  | .sc _, _ => rfl
  | .gone, _ => rfl
  | .nul, _ => rfl
  | .fn _ _, _ => rfl
  | .mem k s ts, h => by
    simp only [T.noOwn, Bool.and_eq_true, bne_iff_ne, ne_eq] at h
    simp [cnt, h.1]
  | .agg ts, h => by simp only [T.noOwn] at h; simp only [cnt]; exact cntL_noOwn w _ b ts 0 h
  | .tup ts, h => by simp only [T.noOwn] at h; simp only [cnt]; exact cntL_noOwn w _ b ts 0 h
theorem cntL_noOwn (w : World) (g : Nat → Value) (b : Nat) : ∀ (ts : List T) (i : Nat), T.noOwnL ts = true → cntL w g b i ts = 0
  | [], _, _ => rfl
  | t :: ts, i, h => by
    simp only [T.noOwnL, Bool.and_eq_true] at h
    simp only [cntL, cnt_noOwn w _ b t h.1, cntL_noOwn w g b ts (i + 1) h.2]
end

theorem cntL_congr {w : World} {g g' : Nat → Value} {b : Nat} : ∀ (ts : List T) (i : Nat), (∀ j, i ≤ j → j < i + ts.length → g j = g' j) → cntL w g b i ts = cntL w g' b i ts
  | [], _, _ => rfl
  | t :: ts, i, h => by
    simp only [cntL]
    rw [h i (Nat.le_refl _) (by simp), cntL_congr ts (i + 1) fun j h1 h2 => h j (by omega) (by simp only [List.length_cons]; omega)]

theorem repL_congr {fm : Nat → Nat} {ok : K → Nat → Prop} {w : World} {g g' : Nat → Value} : ∀ (ts : List T) (i : Nat), (∀ j, i ≤ j → j < i + ts.length → g j = g' j) → repL fm ok w g i ts → repL fm ok w g' i ts
  | [], _, _, _ => trivial
  | t :: ts, i, h, hr => by
    simp only [repL] at hr ⊢
    refine ⟨?_, repL_congr ts (i + 1) (fun j h1 h2 => h j (by omega) (by simp only [List.length_cons]; omega)) hr.2⟩
    rw [← h i (Nat.le_refl _) (by simp)]; exact hr.1

theorem cntL_shift {w : World} {g : Nat → Value} {b : Nat} : ∀ (ts : List T) (i k : Nat), cntL w g b (i + k) ts = cntL w (fun j => g (j + k)) b i ts
  | [], _, _ => rfl
  | t :: ts, i, k => by
    simp only [cntL]
    rw [show i + k + 1 = (i + 1) + k from by omega, cntL_shift ts (i + 1) k]

theorem repL_shift {fm : Nat → Nat} {ok : K → Nat → Prop} {w : World} {g : Nat → Value} : ∀ (ts : List T) (i k : Nat), repL fm ok w g (i + k) ts ↔ repL fm ok w (fun j => g (j + k)) i ts
  | [], _, _ => Iff.rfl
  | t :: ts, i, k => by
    simp only [repL]
    rw [show i + k + 1 = (i + 1) + k from by omega, repL_shift ts (i + 1) k]

theorem repL_append {fm : Nat → Nat} {ok : K → Nat → Prop} {w : World} {g : Nat → Value} : ∀ (ts us : List T) (i : Nat), repL fm ok w g i (ts ++ us) ↔ repL fm ok w g i ts ∧ repL fm ok w g (i + ts.length) us
  | [], us, i => by simp [repL]
  | t :: ts, us, i => by
    simp only [List.cons_append, repL, repL_append ts us (i + 1), List.length_cons, and_assoc]
    rw [show i + 1 + ts.length = i + (ts.length + 1) from by omega]

theorem cntL_append {w : World} {g : Nat → Value} {b : Nat} : ∀ (ts us : List T) (i : Nat), cntL w g b i (ts ++ us) = cntL w g b i ts + cntL w g b (i + ts.length) us
  | [], us, i => by simp [cntL]
  | t :: ts, us, i => by
    simp only [List.cons_append, cntL, cntL_append ts us (i + 1), List.length_cons]
    rw [show i + 1 + ts.length = i + (ts.length + 1) from by omega]
    omega

theorem repL_get {fm : Nat → Nat} {ok : K → Nat → Prop} {w : World} {g : Nat → Value} : ∀ (ts : List T) (i j : Nat) {t : T}, repL fm ok w g i ts → ts[j]? = some t → rep fm ok w (g (i + j)) t
  | [], _, _, _, _, h => by simp at h
  | u :: ts, i, 0, t, hr, h => by simp at h; subst h; exact hr.1
  | u :: ts, i, j + 1, t, hr, h => by
    have := repL_get ts (i + 1) j hr.2 (by simpa using h)
    rwa [show i + 1 + j = i + (j + 1) from by omega] at this

theorem cntL_get {w : World} {g : Nat → Value} {b : Nat} : ∀ (ts : List T) (i j : Nat) {t : T}, ts[j]? = some t → cnt w (g (i + j)) b t ≤ cntL w g b i ts
  | [], _, _, _, h => by simp at h
  | u :: ts, i, 0, t, h => by simp at h; subst h; simp [cntL]
  | u :: ts, i, j + 1, t, h => by
    have := cntL_get (w := w) (g := g) (b := b) ts (i + 1) j (by simpa using h)
    rw [show i + 1 + j = i + (j + 1) from by omega] at this
    simp only [cntL]
    omega

/-! ### What is not touched stays -/

mutual
theorem frame {fm : Nat → Nat} {ok : K → Nat → Prop} {w w' : World} {touch : Nat → Prop}
    (hsame : ∀ b, b < w.heap.size → ¬ touch b → w'.heap[b]? = w.heap[b]?) (himm : ∀ k b, k ≠ .own → ok k b → ¬ touch b) :
    ∀ (t : T) (v : Value), rep fm ok w v t → (∀ b, touch b → cnt w v b t = 0) → rep fm ok w' v t ∧ ∀ b, cnt w' v b t = cnt w v b t
  | .sc _, _, h, _ => ⟨h, fun _ => rfl⟩
  | .gone, _, _, _ => ⟨trivial, fun _ => rfl⟩
  | .nul, _, h, _ => ⟨h, fun _ => rfl⟩
  | .fn f caps, v, h, _ => by
    simp only [rep] at h ⊢
    obtain ⟨⟨cs, rfl, hsz⟩, h2, h3⟩ := h
    refine ⟨⟨⟨cs, rfl, hsz⟩, h2, ?_⟩, fun _ => rfl⟩
    have := (frameL hsame himm caps _ 0 h3 fun b _ => cntL_noOwn w _ b caps 0 h2).1
    exact this
  | .agg ts, v, h, hc => by
    simp only [rep, cnt] at h hc ⊢
    obtain ⟨⟨cs, rfl, hsz⟩, h3⟩ := h
    have := frameL hsame himm ts _ 0 h3 hc
    exact ⟨⟨⟨cs, rfl, hsz⟩, this.1⟩, this.2⟩
  | .tup ts, v, h, hc => by
    simp only [rep, cnt] at h hc ⊢
    obtain ⟨⟨cs, rfl, hsz⟩, h3⟩ := h
    have := frameL hsame himm ts _ 0 h3 hc
    exact ⟨⟨⟨cs, rfl, hsz⟩, this.1⟩, this.2⟩
  | .mem k s ts, v, h, hc => by
    rw [rep_mem] at h ⊢
    obtain ⟨h1, h2, h3, h4, h5⟩ := h
    by_cases hk : k = .own
    · subst hk
      simp only [cnt_own] at hc ⊢
      have hb : w'.heap[blk v]? = w.heap[blk v]? := hsame _ (roomOf_lt (h3 rfl)) fun ht => by
        have := hc _ ht
        simp at this
      have h5' := frameL hsame himm ts _ 0 h5 fun b ht => by have := hc b ht; omega
      rw [kid_eq hb]
      exact ⟨⟨shp_eq hb h1, fun _ => h2 (.inl rfl), fun _ => roomOf_eq hb (h3 rfl), h4, h5'.1⟩, fun b => by rw [h5'.2]⟩
    · refine ⟨?_, fun b => by rw [cnt_imm hk, cnt_imm hk]⟩
      cases hts : ts with
      | nil =>
        subst hts
        refine ⟨⟨h1.1, fun i hi => absurd hi (by simp)⟩, fun h => ?_, fun h => (hk h).elim, fun _ => rfl, trivial⟩
        rcases h with h | h
        · exact (hk h).elim
        · exact (h rfl).elim
      | cons t r =>
        have hne : ts ≠ [] := by rw [hts]; simp
        rw [← hts]
        have hb : w'.heap[blk v]? = w.heap[blk v]? := hsame _ (shp_lt h1 (by rw [hts]; simp)) (himm k _ hk (h2 (.inr hne)))
        rw [kid_eq hb]
        exact ⟨shp_eq hb h1, h2, fun h => (hk h).elim, h4, (frameL hsame himm ts _ 0 h5 fun b _ => cntL_noOwn w _ b ts 0 (h4 hk)).1⟩
theorem frameL {fm : Nat → Nat} {ok : K → Nat → Prop} {w w' : World} {touch : Nat → Prop}
    (hsame : ∀ b, b < w.heap.size → ¬ touch b → w'.heap[b]? = w.heap[b]?) (himm : ∀ k b, k ≠ .own → ok k b → ¬ touch b) :
    ∀ (ts : List T) (g : Nat → Value) (i : Nat), repL fm ok w g i ts → (∀ b, touch b → cntL w g b i ts = 0) → repL fm ok w' g i ts ∧ ∀ b, cntL w' g b i ts = cntL w g b i ts
  | [], _, _, _, _ => ⟨trivial, fun _ => rfl⟩
  | t :: ts, g, i, h, hc => by
    simp only [repL, cntL] at h hc ⊢
    have h1 := frame hsame himm t _ h.1 fun b ht => by have := hc b ht; omega
    have h2 := frameL hsame himm ts g (i + 1) h.2 fun b ht => by have := hc b ht; omega
    exact ⟨⟨h1.1, h2.1⟩, fun b => by rw [h1.2, h2.2]⟩
end

/-! ### What blocks are let -/

mutual
theorem rep_ok {fm : Nat → Nat} {ok ok' : K → Nat → Prop} {w : World} (himm : ∀ k b, k ≠ .own → b < w.heap.size → ok k b → ok' k b) :
    ∀ (t : T) (v : Value), (∀ b, 1 ≤ cnt w v b t → b < w.heap.size → ok .own b → ok' .own b) → rep fm ok w v t → rep fm ok' w v t
  | .sc _, _, _, h => h
  | .gone, _, _, _ => trivial
  | .nul, _, _, h => h
  | .fn f caps, v, _, h => by
    simp only [rep] at h ⊢
    exact ⟨h.1, h.2.1, repL_ok himm caps _ 0 (fun b hb => by rw [cntL_noOwn w _ b caps 0 h.2.1] at hb; omega) h.2.2⟩
  | .agg ts, v, ho, h => by
    simp only [rep, cnt] at h ho ⊢
    exact ⟨h.1, repL_ok himm ts _ 0 ho h.2⟩
  | .tup ts, v, ho, h => by
    simp only [rep, cnt] at h ho ⊢
    exact ⟨h.1, repL_ok himm ts _ 0 ho h.2⟩
  | .mem k s ts, v, ho, h => by
    simp only [rep, cnt] at h ho ⊢
    obtain ⟨h1, h2, h3, h4, h5⟩ := h
    by_cases hk : k = .own
    · simp only [hk, if_true] at ho
      refine ⟨h1, fun hh => ?_, h3, h4, repL_ok himm ts _ 0 (fun b hb => ho b (by omega)) h5⟩
      rw [hk]
      exact ho _ (by simp) (roomOf_lt (h3 hk)) (hk ▸ h2 (.inl hk))
    · refine ⟨h1, fun hh => ?_, h3, h4, repL_ok himm ts _ 0 (fun b hb => by rw [cntL_noOwn w _ b ts 0 (h4 hk)] at hb; omega) h5⟩
      rcases hh with hh | hh
      · exact (hk hh).elim
      · exact himm k _ hk (shp_lt h1 (by cases ts <;> simp_all)) (h2 (.inr hh))
theorem repL_ok {fm : Nat → Nat} {ok ok' : K → Nat → Prop} {w : World} (himm : ∀ k b, k ≠ .own → b < w.heap.size → ok k b → ok' k b) :
    ∀ (ts : List T) (g : Nat → Value) (i : Nat), (∀ b, 1 ≤ cntL w g b i ts → b < w.heap.size → ok .own b → ok' .own b) → repL fm ok w g i ts → repL fm ok' w g i ts
  | [], _, _, _, _ => trivial
  | t :: ts, g, i, ho, h => by
    simp only [repL, cntL] at h ho ⊢
    exact ⟨rep_ok himm t _ (fun b hb => ho b (by omega)) h.1, repL_ok himm ts g (i + 1) (fun b hb => ho b (by omega)) h.2⟩
end

mutual
/-- What is owned is let, and there. -/
theorem rep_owned {fm : Nat → Nat} {ok : K → Nat → Prop} {w : World} : ∀ (t : T) (v : Value), rep fm ok w v t → ∀ b, 1 ≤ cnt w v b t → ok .own b ∧ b < w.heap.size
  | .sc _, _, _, b, h => by simp [cnt] at h
  | .gone, _, _, b, h => by simp [cnt] at h
  | .nul, _, _, b, h => by simp [cnt] at h
  | .fn _ _, _, _, b, h => by simp [cnt] at h
  | .agg ts, v, h, b, hb => by
    simp only [rep, cnt] at h hb
    exact repL_owned ts _ 0 h.2 b hb
  | .tup ts, v, h, b, hb => by
    simp only [rep, cnt] at h hb
    exact repL_owned ts _ 0 h.2 b hb
  | .mem k s ts, v, h, b, hb => by
    simp only [rep, cnt] at h hb
    obtain ⟨h1, h2, h3, h4, h5⟩ := h
    by_cases hk : k = .own
    · simp only [hk, if_true] at hb
      by_cases hbl : blk v = b
      · subst hbl
        exact ⟨hk ▸ h2 (.inl hk), roomOf_lt (h3 hk)⟩
      · rw [if_neg hbl] at hb
        exact repL_owned ts _ 0 h5 b (by omega)
    · rw [if_neg hk] at hb; omega
theorem repL_owned {fm : Nat → Nat} {ok : K → Nat → Prop} {w : World} : ∀ (ts : List T) (g : Nat → Value) (i : Nat), repL fm ok w g i ts → ∀ b, 1 ≤ cntL w g b i ts → ok .own b ∧ b < w.heap.size
  | [], _, _, _, b, h => by simp [cntL] at h
  | t :: ts, g, i, h, b, hb => by
    simp only [repL, cntL] at h hb
    by_cases h1 : 1 ≤ cnt w (g i) b t
    · exact rep_owned t _ h.1 b h1
    · exact repL_owned ts g (i + 1) h.2 b (by omega)
end

/-! ### Paths -/

/-- The value of the part of a value to which a path leads. -/
def nodeV (w : World) : Value → List Nat → Value
  | v, [] => v
  | v, i :: p => nodeV w (kid w v i) p

theorem rep_kids {fm : Nat → Nat} {ok : K → Nat → Prop} {w : World} {v : Value} {t : T} (h : rep fm ok w v t) : repL fm ok w (kid w v) 0 t.kids := by
  cases t with
  | mem k s ts =>
    cases k
    · simp only [rep] at h; exact h.2.2.2.2
    · trivial
    · trivial
  | agg ts => simp only [rep] at h; exact h.2
  | tup ts => simp only [rep] at h; exact h.2
  | _ => trivial

theorem cnt_kids (w : World) (v : Value) (b : Nat) (t : T) : cntL w (kid w v) b 0 t.kids ≤ cnt w v b t := by
  cases t with
  | mem k s ts =>
    cases k
    · simp [T.kids, cnt]
    · simp [T.kids, cntL]
    · simp [T.kids, cntL]
  | agg ts => simp [T.kids, cnt]
  | tup ts => simp [T.kids, cnt]
  | _ => simp [T.kids, cntL]

theorem focus {fm : Nat → Nat} {ok : K → Nat → Prop} {w : World} : ∀ (p : List Nat) (t : T) (v : Value) {u : T}, rep fm ok w v t → t.at p = some u →
    rep fm ok w (nodeV w v p) u ∧ ∀ b, cnt w (nodeV w v p) b u ≤ cnt w v b t
  | [], t, v, u, h, hp => by
    simp only [T.at, Option.some.injEq] at hp
    subst hp
    exact ⟨h, fun _ => Nat.le_refl _⟩
  | i :: p, t, v, u, h, hp => by
    simp only [T.at] at hp
    cases hi : t.kids[i]? with
    | none => rw [hi] at hp; cases hp
    | some c =>
      rw [hi] at hp
      simp only [Option.bind_some] at hp
      have hc := repL_get t.kids 0 i (rep_kids h) hi
      rw [Nat.zero_add] at hc
      have := focus p c (kid w v i) hc hp
      refine ⟨this.1, fun b => ?_⟩
      have h1 := this.2 b
      have h2 := cntL_get (w := w) (g := kid w v) (b := b) t.kids 0 i hi
      rw [Nat.zero_add] at h2
      have h3 := cnt_kids w v b t
      simp only [nodeV]
      omega

theorem frame_node {fm : Nat → Nat} {ok : K → Nat → Prop} {w w' : World} {touch : Nat → Prop}
    (hsame : ∀ b, b < w.heap.size → ¬ touch b → w'.heap[b]? = w.heap[b]?) : ∀ (p : List Nat) (t : T) (v : Value) {u : T}, rep fm ok w v t →
    (∀ b, touch b → cnt w v b t = 0) → t.at p = some u → nodeV w' v p = nodeV w v p
  | [], _, _, _, _, _, _ => rfl
  | i :: p, t, v, u, h, hc, hp => by
    simp only [T.at] at hp
    cases hi : t.kids[i]? with
    | none => rw [hi] at hp; cases hp
    | some c =>
      rw [hi] at hp
      simp only [Option.bind_some] at hp
      have hk : kid w' v i = kid w v i := by
        cases t with
        | mem k s ts =>
          cases k
          · rw [rep_mem] at h
            refine congrFun (kid_eq (hsame _ (roomOf_lt (h.2.2.1 rfl)) fun ht => ?_)) i
            have := hc _ ht
            simp [cnt] at this
          · simp [T.kids] at hi
          · simp [T.kids] at hi
        | agg ts => simp only [rep] at h; obtain ⟨⟨cs, rfl, _⟩, _⟩ := h; rfl
        | tup ts => simp only [rep] at h; obtain ⟨⟨cs, rfl, _⟩, _⟩ := h; rfl
        | _ => simp [T.kids] at hi
      have hc' := repL_get t.kids 0 i (rep_kids h) hi
      rw [Nat.zero_add] at hc'
      simp only [nodeV, hk]
      refine frame_node hsame p c (kid w v i) hc' (fun b ht => ?_) hp
      have h1 := hc b ht
      have h2 := cntL_get (w := w) (g := kid w v) (b := b) t.kids 0 i hi
      rw [Nat.zero_add] at h2
      have h3 := cnt_kids w v b t
      omega

theorem replL {fm : Nat → Nat} {ok : K → Nat → Prop} {w w' : World} {touch : Nat → Prop}
    (hsame : ∀ b, b < w.heap.size → ¬ touch b → w'.heap[b]? = w.heap[b]?) (himm : ∀ k b, k ≠ .own → ok k b → ¬ touch b) {x : T} :
    ∀ (ts : List T) (g : Nat → Value) (k i : Nat) {c : T}, repL fm ok w g k ts → ts[i]? = some c → (∀ b, touch b → cntL w g b k ts = cnt w (g (k + i)) b c) →
      rep fm ok w' (g (k + i)) x →
      repL fm ok w' g k (ts.set i x) ∧ ∀ b, cntL w' g b k (ts.set i x) + cnt w (g (k + i)) b c = cntL w g b k ts + cnt w' (g (k + i)) b x
  | [], _, _, _, _, _, h, _, _ => by simp at h
  | u :: ts, g, k, 0, c, hr, h, hc, hx => by
    simp only [List.getElem?_cons_zero, Option.some.injEq] at h
    subst h
    simp only [repL, cntL, Nat.add_zero, List.set_cons_zero] at hr hc hx ⊢
    have h2 := frameL hsame himm ts g (k + 1) hr.2 fun b ht => by have := hc b ht; omega
    exact ⟨⟨hx, h2.1⟩, fun b => by rw [h2.2]; omega⟩
  | u :: ts, g, k, i + 1, c, hr, h, hc, hx => by
    simp only [List.getElem?_cons_succ] at h
    simp only [repL, cntL, List.set_cons_succ] at hr hc ⊢
    have e : k + (i + 1) = k + 1 + i := by omega
    rw [e] at hx
    have hle : ∀ b, cnt w (g (k + 1 + i)) b c ≤ cntL w g b (k + 1) ts := fun b => cntL_get ts (k + 1) i h
    have h1 := frame hsame himm u _ hr.1 fun b ht => by have := hc b ht; rw [e] at this; have := hle b; omega
    have h2 := replL hsame himm ts g (k + 1) i hr.2 h (fun b ht => by have := hc b ht; rw [e] at this; have := hle b; omega) hx
    refine ⟨⟨h1.1, h2.1⟩, fun b => ?_⟩
    have := h2.2 b
    rw [h1.2, e]
    omega

/-- The value of an inner node is not touched where what is touched lies below one of its parts. -/
theorem kid_still {fm : Nat → Nat} {ok : K → Nat → Prop} {w w' : World} {touch : Nat → Prop}
    (hsame : ∀ b, b < w.heap.size → ¬ touch b → w'.heap[b]? = w.heap[b]?) {t : T} {v : Value} (h : rep fm ok w v t) {i : Nat} {c : T} (hi : t.kids[i]? = some c)
    (hc : ∀ b, touch b → cnt w v b t ≤ cnt w (kid w v i) b c) : kid w' v = kid w v := by
  cases t with
  | mem k s ts =>
    cases k
    · rw [rep_mem] at h
      refine kid_eq (hsame _ (roomOf_lt (h.2.2.1 rfl)) fun ht => ?_)
      have h1 := hc _ ht
      have h2 := cntL_get (w := w) (g := kid w v) (b := blk v) ts 0 i hi
      rw [Nat.zero_add] at h2
      simp [cnt] at h1
      omega
    · simp [T.kids] at hi
    · simp [T.kids] at hi
  | agg ts => simp only [rep] at h; obtain ⟨⟨cs, rfl, _⟩, _⟩ := h; rfl
  | tup ts => simp only [rep] at h; obtain ⟨⟨cs, rfl, _⟩, _⟩ := h; rfl
  | _ => simp [T.kids] at hi

theorem withKids_rep {fm : Nat → Nat} {ok : K → Nat → Prop} {w w' : World} {v : Value} {t : T} {ts' : List T} (h : rep fm ok w v t) (hl : ts'.length = t.kids.length)
    (hne : t.kids ≠ []) (hk : kid w' v = kid w v) (hb : (∃ s, ∃ us, t = .mem .own s us) → w'.heap[blk v]? = w.heap[blk v]?) (hr : repL fm ok w' (kid w v) 0 ts') :
    rep fm ok w' v (t.withKids ts') ∧ ∀ b, cnt w' v b (t.withKids ts') + cntL w (kid w v) b 0 t.kids = cnt w v b t + cntL w' (kid w v) b 0 ts' := by
  cases t with
  | mem k s ts =>
    cases k
    · simp only [T.kids] at hl
      simp only [T.withKids, T.kids, cnt_own]
      rw [rep_mem] at h ⊢
      have hb' := hb ⟨s, ts, rfl⟩
      rw [hk, hl]
      exact ⟨⟨shp_eq hb' h.1, fun _ => h.2.1 (.inl rfl), fun _ => roomOf_eq hb' (h.2.2.1 rfl), fun hh => (hh rfl).elim, hr⟩, fun b => by omega⟩
    · simp [T.kids] at hne
    · simp [T.kids] at hne
  | agg ts =>
    simp only [T.kids] at hl
    simp only [rep, T.withKids, T.kids, cnt] at h ⊢
    rw [hk, hl]
    exact ⟨⟨h.1, hr⟩, fun b => by omega⟩
  | tup ts =>
    simp only [T.kids] at hl
    simp only [rep, T.withKids, T.kids, cnt] at h ⊢
    rw [hk, hl]
    exact ⟨⟨h.1, hr⟩, fun b => by omega⟩
  | _ => simp [T.kids] at hne

/-- A part of a tree is replaced; what is touched in the heap lies in that part. -/
theorem replace {fm : Nat → Nat} {ok : K → Nat → Prop} {w w' : World} {touch : Nat → Prop}
    (hsame : ∀ b, b < w.heap.size → ¬ touch b → w'.heap[b]? = w.heap[b]?) (himm : ∀ k b, k ≠ .own → ok k b → ¬ touch b) {u x : T} :
    ∀ (p : List Nat) (t : T) (v : Value), rep fm ok w v t → t.at p = some u → (∀ b, touch b → cnt w v b t = cnt w (nodeV w v p) b u) → rep fm ok w' (nodeV w v p) x →
      rep fm ok w' v (t.setAt p x) ∧ (∀ b, cnt w' v b (t.setAt p x) + cnt w (nodeV w v p) b u = cnt w v b t + cnt w' (nodeV w v p) b x) ∧ nodeV w' v p = nodeV w v p
  | [], t, v, _, hp, _, hx => by
    simp only [T.at, Option.some.injEq] at hp
    subst hp
    exact ⟨hx, fun b => by simp only [nodeV, T.setAt]; omega, rfl⟩
  | i :: p, t, v, h, hp, hc, hx => by
    simp only [T.at] at hp
    cases hi : t.kids[i]? with
    | none => rw [hi] at hp; cases hp
    | some c =>
      rw [hi] at hp
      simp only [Option.bind_some] at hp
      simp only [nodeV] at hc hx ⊢
      have hrc := repL_get t.kids 0 i (rep_kids h) hi
      rw [Nat.zero_add] at hrc
      have hf := focus p c (kid w v i) hrc hp
      have hle : ∀ b, cnt w (kid w v i) b c ≤ cntL w (kid w v) b 0 t.kids := fun b => by
        have := cntL_get (w := w) (g := kid w v) (b := b) t.kids 0 i hi
        rwa [Nat.zero_add] at this
      have hle2 := fun b => cnt_kids w v b t
      have hk : kid w' v = kid w v := kid_still hsame h hi fun b ht => by have := hc b ht; have := hf.2 b; omega
      have ih := replace hsame himm p c (kid w v i) hrc hp (fun b ht => by have := hc b ht; have := hf.2 b; have := hle b; have := hle2 b; omega) hx
      have hgd : t.kids.getD i .gone = c := by rw [List.getD_eq_getElem?_getD, hi]; rfl
      have hl := replL hsame himm t.kids (kid w v) 0 i (rep_kids h) hi (fun b ht => by
        rw [Nat.zero_add]; have := hc b ht; have := hf.2 b; have := hle b; have := hle2 b; omega) (by rw [Nat.zero_add]; exact ih.1)
      rw [Nat.zero_add] at hl
      have hne : t.kids ≠ [] := fun e => by rw [e] at hi; simp at hi
      have hw := withKids_rep (w' := w') h (ts' := t.kids.set i (c.setAt p x)) (by simp) hne hk (fun ⟨s, us, e⟩ => by
        subst e
        have h' := h
        rw [rep_mem] at h'
        refine hsame _ (roomOf_lt (h'.2.2.1 rfl)) fun ht => ?_
        have h1 := hc _ ht
        have h2 := hle (blk v)
        have h3 := hf.2 (blk v)
        simp [cnt, T.kids] at h1 h2
        omega) hl.1
      simp only [T.setAt, hgd]
      refine ⟨hw.1, fun b => ?_, by rw [hk]; exact ih.2.2⟩
      have h1 := hw.2 b
      have h2 := hl.2 b
      have h3 := ih.2.1 b
      omega

theorem at_setAt {x : T} : ∀ (p q : List Nat) (t : T) {s : Option Nat} {ts : List T}, p.isPrefixOf q = false → t.at q = some (.mem .own s ts) →
    ∃ ts', (t.setAt p x).at q = some (.mem .own s ts') ∧ ts'.length = ts.length
  | [], _, _, _, _, h, _ => by simp at h
  | i :: p, [], t, s, ts, _, hq => by
    simp only [T.at, Option.some.injEq] at hq
    subst hq
    exact ⟨ts.set i ((ts.getD i .gone).setAt p x), by simp [T.at, T.setAt, T.withKids, T.kids], by simp⟩
  | i :: p, j :: q, t, s, ts, h, hq => by
    simp only [T.at] at hq
    cases hj : t.kids[j]? with
    | none => rw [hj] at hq; cases hq
    | some c =>
      rw [hj] at hq
      simp only [Option.bind_some] at hq
      have hk : (t.setAt (i :: p) x).kids = t.kids.set i ((t.kids.getD i .gone).setAt p x) := by
        cases t with
        | mem k s ts => cases k <;> simp [T.setAt, T.withKids, T.kids] at hj ⊢
        | agg ts => rfl
        | tup ts => rfl
        | _ => simp [T.kids] at hj
      simp only [T.at, hk]
      by_cases hij : i = j
      · subst hij
        have hlt : i < t.kids.length := by
          rcases Nat.lt_or_ge i t.kids.length with h' | h'
          · exact h'
          · rw [List.getElem?_eq_none h'] at hj; cases hj
        have hgd : t.kids.getD i .gone = c := by rw [List.getD_eq_getElem?_getD, hj]; rfl
        rw [List.getElem?_set_self hlt, hgd]
        simp only [Option.bind_some]
        simp only [List.isPrefixOf, beq_self_eq_true, Bool.true_and] at h
        exact at_setAt p q c h hq
      · rw [List.getElem?_set_ne hij, hj]
        exact ⟨ts, hq, rfl⟩

theorem node_still {fm : Nat → Nat} {ok : K → Nat → Prop} {w w' : World} {touch : Nat → Prop}
    (hsame : ∀ b, b < w.heap.size → ¬ touch b → w'.heap[b]? = w.heap[b]?) {u : T} :
    ∀ (p q : List Nat) (t : T) (v : Value) {y : T}, rep fm ok w v t → t.at p = some u → (∀ b, touch b → cnt w v b t = cnt w (nodeV w v p) b u) →
      p.isPrefixOf q = false → t.at q = some y → nodeV w' v q = nodeV w v q
  | [], _, _, _, _, _, _, _, h, _ => by simp at h
  | _ :: _, [], _, _, _, _, _, _, _, _ => rfl
  | i :: p, j :: q, t, v, y, h, hp, hc, hn, hq => by
    simp only [T.at] at hp hq
    cases hi : t.kids[i]? with
    | none => rw [hi] at hp; cases hp
    | some c =>
      rw [hi] at hp
      simp only [Option.bind_some] at hp
      simp only [nodeV] at hc ⊢
      have hrc := repL_get t.kids 0 i (rep_kids h) hi
      rw [Nat.zero_add] at hrc
      have hf := focus p c (kid w v i) hrc hp
      have hle : ∀ b, cnt w (kid w v i) b c ≤ cntL w (kid w v) b 0 t.kids := fun b => by
        have := cntL_get (w := w) (g := kid w v) (b := b) t.kids 0 i hi
        rwa [Nat.zero_add] at this
      have hle2 := fun b => cnt_kids w v b t
      have hk : kid w' v = kid w v := kid_still hsame h hi fun b ht => by have := hc b ht; have := hf.2 b; omega
      rw [hk]
      cases hj : t.kids[j]? with
      | none => rw [hj] at hq; cases hq
      | some d =>
        rw [hj] at hq
        simp only [Option.bind_some] at hq
        by_cases hij : i = j
        · subst hij
          rw [hi] at hj
          cases hj
          simp only [List.isPrefixOf, beq_self_eq_true, Bool.true_and] at hn
          exact node_still hsame p q c (kid w v i) hrc hp (fun b ht => by have := hc b ht; have := hf.2 b; have := hle b; have := hle2 b; omega) hn hq
        · have hrd := repL_get t.kids 0 j (rep_kids h) hj
          rw [Nat.zero_add] at hrd
          refine frame_node hsame q d (kid w v j) hrd (fun b ht => ?_) hq
          have h1 := cntL_two (w := w) (g := kid w v) (b := b) t.kids 0 i j hij hi hj
          rw [Nat.zero_add, Nat.zero_add] at h1
          have := hc b ht; have := hf.2 b; have := hle b; have := hle2 b
          omega
where
  cntL_two {w : World} {g : Nat → Value} {b : Nat} : ∀ (ts : List T) (k i j : Nat) {c d : T}, i ≠ j → ts[i]? = some c → ts[j]? = some d → cnt w (g (k + i)) b c + cnt w (g (k + j)) b d ≤ cntL w g b k ts
    | [], _, _, _, _, _, _, h, _ => by simp at h
    | u :: ts, k, 0, 0, _, _, h, _, _ => (h rfl).elim
    | u :: ts, k, 0, j + 1, c, d, _, h1, h2 => by
      simp only [List.getElem?_cons_zero, Option.some.injEq, List.getElem?_cons_succ] at h1 h2
      subst h1
      have := cntL_get (w := w) (g := g) (b := b) ts (k + 1) j h2
      simp only [cntL]
      rw [show k + (j + 1) = k + 1 + j from by omega, Nat.add_zero]
      omega
    | u :: ts, k, i + 1, 0, c, d, _, h1, h2 => by
      simp only [List.getElem?_cons_zero, Option.some.injEq, List.getElem?_cons_succ] at h1 h2
      subst h2
      have := cntL_get (w := w) (g := g) (b := b) ts (k + 1) i h1
      have e1 : k + (i + 1) = k + 1 + i := by omega
      have e2 : k + 0 = k := rfl
      rw [e1, e2]
      simp only [cntL]
      omega
    | u :: ts, k, i + 1, j + 1, c, d, h, h1, h2 => by
      simp only [List.getElem?_cons_succ] at h1 h2
      have := cntL_two (w := w) (g := g) (b := b) ts (k + 1) i j (by omega) h1 h2
      have e1 : k + (i + 1) = k + 1 + i := by omega
      have e2 : k + (j + 1) = k + 1 + j := by omega
      rw [e1, e2]
      simp only [cntL]
      omega

theorem setAt_append : ∀ (p : List Nat) (t : T) (i : Nat) (x : T) {u : T}, t.at p = some u → t.setAt (p ++ [i]) x = t.setAt p (u.withKids (u.kids.set i x))
  | [], t, i, x, u, h => by
    simp only [T.at, Option.some.injEq] at h
    subst h
    simp [T.setAt]
  | j :: p, t, i, x, u, h => by
    simp only [T.at] at h
    cases hj : t.kids[j]? with
    | none => rw [hj] at h; cases h
    | some c =>
      rw [hj] at h
      simp only [Option.bind_some] at h
      have hgd : t.kids.getD j .gone = c := by rw [List.getD_eq_getElem?_getD, hj]; rfl
      simp only [List.cons_append, T.setAt, hgd, setAt_append p c i x h]

end Go.Mch
