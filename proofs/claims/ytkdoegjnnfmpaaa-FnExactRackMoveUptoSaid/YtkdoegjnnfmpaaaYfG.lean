/- The equation of solutions, as the reference and the program test it. -/
import Derived.Test.YtkdoegjnnfmpaaaYfF
namespace Go.Mch

/-- The value of a table at numbers. -/
def g2 (t : List (List Int)) (x y : Int) : Int := v2 t x.toNat y.toNat
theorem get_g2 {t : List (List Int)} {x y : Int} (hx : x.toNat < t.length) (hy : y.toNat < (t[x.toNat]).length) : (t[x.toNat])[y.toNat] = g2 t x y := get_v2 hx hy
def inN (n : Nat) (w : List Int) : Prop := ∀ x ∈ w, 0 ≤ x ∧ x < n
theorem PM.gF {f s : List (List Int)} (h : PM f s) (x y : Int) : 0 ≤ g2 f x y ∧ g2 f x y < f.length := ⟨h.tf.nonneg _ _, h.tf.lt h.pos _ _⟩
theorem PM.gS {f s : List (List Int)} (h : PM f s) (x y : Int) : 0 ≤ g2 s x y ∧ g2 s x y < f.length := ⟨h.ts.nonneg _ _, by have := h.ts.lt (by rw [h.len]; exact h.pos) x.toNat y.toNat; rw [h.len] at this; exact this⟩

/-- A word, moved at a place. -/
def dW (f s : List (List Int)) (w : List Int) (i : Nat) : List Int :=
  (w.set i (g2 f (w.getD i 0) (w.getD (i + 1) 0))).set (i + 1) (g2 s (w.getD i 0) (w.getD (i + 1) 0))
@[simp] theorem dW_length (f s : List (List Int)) (w : List Int) (i : Nat) : (dW f s w i).length = w.length := by simp [dW]
theorem set_in {n : Nat} {w : List Int} (h : inN n w) {i : Nat} {v : Int} (hv : 0 ≤ v ∧ v < n) : inN n (w.set i v) := by
  intro x hx
  rcases List.mem_or_eq_of_mem_set hx with h1 | h1
  · exact h x h1
  · rw [h1]; exact hv
theorem dW_in {f s : List (List Int)} (h : PM f s) {w : List Int} (hw : inN f.length w) (i : Nat) : inN f.length (dW f s w i) := set_in (set_in hw (h.gF _ _)) (h.gS _ _)

def S_do (pg : Pg) (n : Nat) : Prop := ∀ (f s : List (List Int)) (w : List Int) (i : Nat), PM f s → i + 1 < w.length → w.length ≤ 1048576 → inN f.length w →
  Call pg n [sol f s, ix w, I i] [sol f s, ix w, I i] (.mem .own (some 1) ((dW f s w i).map I))
set_option maxRecDepth 10000 in
theorem do_of {pg : Pg} {n : Nat} (hp : pg.fn n = some c_spec_l02Do) (h31 : S_own pg) : S_do pg n := by
  intro f s w i h hi hl hw
  refine Call.intro hp rfl (by simp) ?_
  show wp _ _ c_spec_l02Do.body (post [.t 6] _ _ _) _
  have h1 := hw _ (List.getElem_mem (show i < w.length by omega))
  have h2 := hw _ (List.getElem_mem hi)
  have fr' := fun x hx => h.tf.row (x := x) hx
  have sr' : ∀ x (hx : x < s.length), (s[x]).length = f.length := fun x hx => (h.ts.row hx).trans h.len
  have hi0 : i < w.length := by omega
  have hiI : (i : Int) + 1 < w.length := by omega
  have e1 : ((i : Int) + 1).toNat = i + 1 := by omega
  have t1 : (w[i]).toNat < f.length := by omega
  have t2 : (w[i + 1]).toNat < f.length := by omega
  have hb : -9223372036854775808 ≤ (i : Int) + 1 ∧ (i : Int) + 1 ≤ 9223372036854775807 := by omega
  have hb0 : 0 ≤ (i : Int) + 1 := by omega
  simp [c_spec_l02Do]
  refine callR (h31 _ hl) rfl rfl (fun _ => by simp) ?_
  simp [hi, hb, hb0, hi0, hiI, e1, h1, h2, t1, t2, fr', sr', h.len, get_g2]
  refine ⟨by omega, by omega, ?_⟩
  simp [dW, hi0, hi]

/-- The equation at three numbers, and everywhere. -/
def ybAt (f s : List (List Int)) (x y z : Nat) : Prop := dW f s (dW f s (dW f s [(x : Int), y, z] 0) 1) 0 = dW f s (dW f s (dW f s [(x : Int), y, z] 1) 0) 1
def YB (f s : List (List Int)) : Prop := ∀ x y z : Nat, x < f.length → y < f.length → z < f.length → ybAt f s x y z
instance (f s : List (List Int)) (x y z : Nat) : Decidable (ybAt f s x y z) := by unfold ybAt; infer_instance

theorem first3 (P : Nat → Nat → Nat → Prop) (n : Nat) : (∀ x y z, x < n → y < n → z < n → ¬ P x y z) ∨
    ∃ a b c, a < n ∧ b < n ∧ c < n ∧ P a b c ∧ ∀ x y z, x < n → y < n → z < n → P x y z → a < x ∨ (a = x ∧ (b < y ∨ (b = y ∧ c ≤ z))) := by
  by_cases h : ∃ a, a < n ∧ ∃ b, b < n ∧ ∃ c, c < n ∧ P a b c
  · right
    obtain ⟨a, ha, hb, h1⟩ := least h
    obtain ⟨b, hb, hc, h2⟩ := least hb
    obtain ⟨c, hc, hp, h3⟩ := least hc
    refine ⟨a, b, c, ha, hb, hc, hp, fun x y z hx hy hz hq => ?_⟩
    rcases Nat.lt_trichotomy a x with g | g | g
    · exact .inl g
    · subst g
      right
      refine ⟨rfl, ?_⟩
      rcases Nat.lt_trichotomy b y with g | g | g
      · exact .inl g
      · subst g
        right
        refine ⟨rfl, ?_⟩
        rcases Nat.lt_or_ge z c with g | g
        · exact absurd hq (h3 z g)
        · exact g
      · exact absurd ⟨z, hz, hq⟩ (h2 y g)
    · exact absurd ⟨y, hy, z, hz, hq⟩ (h1 x g)
  · left
    intro x y z hx hy hz hp
    exact h ⟨x, hx, y, hy, z, hz, hp⟩

/-- The first three numbers at which the equation fails; or the size, where it holds. -/
theorem fault (f s : List (List Int)) : ∃ (a b c : Nat) (l : List Int), (l.length = 0 ↔ YB f s) ∧ (a < f.length → l = [(a : Int), b, c] ∧ b < f.length ∧ c < f.length ∧ ¬ ybAt f s a b c) ∧ (¬ a < f.length → a = f.length ∧ l = []) ∧ l.length ≤ 3 ∧
    ∀ x y z, x < f.length → y < f.length → z < f.length → ¬ ybAt f s x y z → a < x ∨ (a = x ∧ (b < y ∨ (b = y ∧ c ≤ z))) := by
  rcases first3 (fun x y z => ¬ ybAt f s x y z) f.length with h | ⟨a, b, c, ha, hb, hc, hp, h⟩
  · refine ⟨f.length, 0, 0, [], ⟨fun _ x y z hx hy hz => ?_, fun _ => rfl⟩, fun h => absurd h (Nat.lt_irrefl _), fun _ => ⟨rfl, rfl⟩, by simp, fun x y z hx hy hz hn => absurd hn (h x y z hx hy hz)⟩
    exact Decidable.of_not_not (h x y z hx hy hz)
  · exact ⟨a, b, c, [(a : Int), b, c], ⟨fun h => by simp at h, fun h => absurd (h a b c ha hb hc) hp⟩, fun _ => ⟨rfl, hb, hc, hp⟩, fun h => absurd ha h, by simp, h⟩

def S_fault58 (pg : Pg) : Prop := ∀ f s : List (List Int), PM f s → ∃ l : List Int, (l.length = 0 ↔ YB f s) ∧ l.length ≤ 3 ∧ Call pg 58 [sol f s] [sol f s] (.mem .own (some 1) (l.map I))

theorem w3_in {n x y z : Nat} (hx : x < n) (hy : y < n) (hz : z < n) : inN n [(x : Int), y, z] := by
  intro v hv
  simp at hv
  omega

set_option maxRecDepth 10000 in
theorem t_fault58 {pg : Pg} (hp : pg.fn 58 = some c_spec_l02Fault) (h68 : S_do pg 68) (h67 : S_same pg) : S_fault58 pg := by
  intro f s h
  obtain ⟨a, b, c, l, hl, hf1, hf2, hf3, hmin⟩ := fault f s
  have h0 := h.pos
  have h12 := h.small
  refine ⟨l, hl, hf3, Call.intro hp rfl (by simp) ?_⟩
  show wp _ _ c_spec_l02Fault.body (post [.t 2] _ _ _) _
  simp [c_spec_l02Fault]
  refine wpLoop_count (fun x e => x ≤ a ∧ e = fr [(1, some (.val (.mem .own none [tb f, tb s]))), (3, some (.val (I f.length))), (4, some (.val (I x)))]) f.length ?_ ?_ 0 _ (by omega) ?_
  · rintro x e hx ⟨hxa, rfl⟩
    simp [hx]
    refine wpLoop_count (fun y e => (x = a → y ≤ b) ∧ e = fr [(1, some (.val (.mem .own none [tb f, tb s]))), (3, some (.val (I f.length))), (4, some (.val (I x))), (5, some (.val (I y)))]) f.length ?_ ?_ 0 _ (by omega) ?_
    · rintro y e hy ⟨hyb, rfl⟩
      simp [hy]
      refine wpLoop_count (fun z e => (x = a → y = b → z ≤ c) ∧ e = fr [(1, some (.val (.mem .own none [tb f, tb s]))), (3, some (.val (I f.length))), (4, some (.val (I x))), (5, some (.val (I y))), (6, some (.val (I z)))]) f.length ?_ ?_ 0 _ (by omega) ?_
      · rintro z e hz ⟨hzc, rfl⟩
        have hw := w3_in hx hy hz
        have d1 := dW_in h hw 0
        have d2 := dW_in h d1 1
        have d3 := dW_in h hw 1
        have d4 := dW_in h d3 0
        simp [hz]
        refine callR (h68 f s [(x : Int), y, z] 0 h (by simp) (by simp) hw) rfl rfl (fun _ => by simp) ?_
        simp
        refine callR (h68 f s _ 1 h (by simp) (by simp) d1) rfl rfl (fun _ => by simp) ?_
        simp
        refine callR (h68 f s _ 0 h (by simp) (by simp) d2) rfl rfl (fun _ => by simp) ?_
        simp
        refine callR (h68 f s [(x : Int), y, z] 1 h (by simp) (by simp) hw) rfl rfl (fun _ => by simp) ?_
        simp
        refine callR (h68 f s _ 0 h (by simp) (by simp) d3) rfl rfl (fun _ => by simp) ?_
        simp
        refine callR (h68 f s _ 1 h (by simp) (by simp) d4) rfl rfl (fun _ => by simp) ?_
        simp
        refine callR (h67 _ _ (by simp)) rfl rfl (fun _ => rfl) ?_
        by_cases hy2 : ybAt f s x y z
        · have hy3 := hy2
          unfold ybAt at hy3
          simp [hy3]
          have : ¬ (x = a ∧ y = b ∧ z = c) := fun ⟨e1, e2, e3⟩ => by
            subst e1 e2 e3
            exact (hf1 hx).2.2.2 hy2
          omega
        · have hy3 := hy2
          unfold ybAt at hy3
          have := hmin x y z hx hy hz hy2
          have e1 : x = a := by omega
          subst e1
          have e2 : y = b := by have := hyb rfl; omega
          subst e2
          have e3 : z = c := by have := hzc rfl rfl; omega
          subst e3
          simp [hy3, (hf1 hx).1]
      · rintro e ⟨hzc, rfl⟩
        simp
        have : ¬ (x = a ∧ y = b) := fun ⟨e1, e2⟩ => by
          have := hzc e1 e2
          have := (hf1 (by omega)).2.2.1
          omega
        omega
      · simp
    · rintro e ⟨hyb, rfl⟩
      simp
      have : ¬ x = a := fun e1 => by
        have := hyb e1
        have := (hf1 (by omega)).2.1
        omega
      omega
    · simp
  · rintro e ⟨h1, rfl⟩
    simp [(hf2 (by omega)).2]
  · simp

theorem yb_v2 (f s : List (List Int)) (x y z : Nat) : ybAt f s x y z ↔
    (v2 f (v2 f x y).toNat (v2 f (v2 s x y).toNat z).toNat = v2 f x (v2 f y z).toNat ∧
     v2 s (v2 f x y).toNat (v2 f (v2 s x y).toNat z).toNat = v2 f (v2 s x (v2 f y z).toNat).toNat (v2 s y z).toNat ∧
     v2 s (v2 s x y).toNat z = v2 s (v2 s x (v2 f y z).toNat).toNat (v2 s y z).toNat) := by
  simp [ybAt, dW, g2]

def S_fault61 (pg : Pg) : Prop := ∀ f s : List (List Int), PM f s → ∃ o : Option (List Int), (o = none ↔ YB f s) ∧ Call pg 61 [sol f s] [sol f s] (ownI o)
set_option maxRecDepth 10000 in
theorem t_fault61 {pg : Pg} (hp : pg.fn 61 = some c_impl_equationFault) : S_fault61 pg := by
  intro f s h
  obtain ⟨a, b, c, l, hl, hf1, hf2, hf3, hmin⟩ := fault f s
  have h0 := h.pos
  have h12 := h.small
  have fr' := fun x hx => h.tf.row (x := x) hx
  have sr' : ∀ x (hx : x < s.length), (s[x]).length = f.length := fun x hx => (h.ts.row hx).trans h.len
  have hF0 : ∀ i j, 0 ≤ v2 f i j := h.tf.nonneg
  have hF1 : ∀ i j, v2 f i j < f.length := h.tf.lt h0
  have hF2 : ∀ i j, (v2 f i j).toNat < f.length := h.tf.ltN h0
  have hS0 : ∀ i j, 0 ≤ v2 s i j := h.ts.nonneg
  have hS1 : ∀ i j, v2 s i j < f.length := fun i j => by have := h.ts.lt (by rw [h.len]; exact h0) i j; rw [h.len] at this; exact this
  have hS2 : ∀ i j, (v2 s i j).toNat < f.length := fun i j => by have := hS0 i j; have := hS1 i j; omega
  refine ⟨if a < f.length then some l else none, ?_, Call.intro hp rfl (by simp) ?_⟩
  · by_cases ha : a < f.length
    · have h1 := (hf1 ha).1
      rw [← hl, if_pos ha, h1]
      simp
    · have h1 := (hf2 ha).2
      rw [← hl, if_neg ha, h1]
      simp
  show wp _ _ c_impl_equationFault.body (post [.t 2] _ _ _) _
  simp [c_impl_equationFault]
  refine wpLoop_count (fun x e => x ≤ a ∧ e = fr [(1, some (.val (.mem .own none [tb f, tb s]))), (3, some (.val (I f.length))), (16, some (.val (I f.length))), (17, some (.val (I x)))]) f.length ?_ ?_ 0 _ (by omega) ?_
  · rintro x e hx ⟨hxa, rfl⟩
    simp [hx]
    refine wpLoop_count (fun y e => (x = a → y ≤ b) ∧ e = fr [(1, some (.val (.mem .own none [tb f, tb s]))), (3, some (.val (I f.length))), (4, some (.val (I x))), (16, some (.val (I f.length))), (17, some (.val (I x))), (20, some (.val (I f.length))), (21, some (.val (I y)))]) f.length ?_ ?_ 0 _ (by omega) ?_
    · rintro y e hy ⟨hyb, rfl⟩
      simp [hy]
      refine wpLoop_count (fun z e => (x = a → y = b → z ≤ c) ∧ e = fr [(1, some (.val (.mem .own none [tb f, tb s]))), (3, some (.val (I f.length))), (4, some (.val (I x))), (5, some (.val (I y))), (16, some (.val (I f.length))), (17, some (.val (I x))), (20, some (.val (I f.length))), (21, some (.val (I y))), (24, some (.val (I f.length))), (25, some (.val (I z)))]) f.length ?_ ?_ 0 _ (by omega) ?_
      · rintro z e hz ⟨hzc, rfl⟩
        have hyb2 := yb_v2 f s x y z
        simp [hx, hy, hz, fr', sr', h.len, get_v2, hF0, hF1, hF2, hS0, hS1, hS2]
        have bad : ¬ ybAt f s x y z → x = a ∧ y = b ∧ z = c := fun hn => by
          have := hmin x y z hx hy hz hn
          have e1 : x = a := by omega
          have e2 : y = b := by have := hyb e1; omega
          have e3 : z = c := by have := hzc e1 e2; omega
          exact ⟨e1, e2, e3⟩
        by_cases e1 : v2 f (v2 f x y).toNat (v2 f (v2 s x y).toNat z).toNat = v2 f x (v2 f y z).toNat
        · by_cases e2 : v2 s (v2 f x y).toNat (v2 f (v2 s x y).toNat z).toNat = v2 f (v2 s x (v2 f y z).toNat).toNat (v2 s y z).toNat
          · by_cases e3 : v2 s (v2 s x y).toNat z = v2 s (v2 s x (v2 f y z).toNat).toNat (v2 s y z).toNat
            · simp [e1, e2, e3]
              have : ¬ (x = a ∧ y = b ∧ z = c) := fun ⟨g1, g2, g3⟩ => by
                subst g1 g2 g3
                exact (hf1 hx).2.2.2 (hyb2.2 ⟨e1, e2, e3⟩)
              omega
            · obtain ⟨g1, g2, g3⟩ := bad fun hh => e3 (hyb2.1 hh).2.2
              subst g1 g2 g3
              simp [e1, e2, e3, hx, (hf1 hx).1, ownI]
          · obtain ⟨g1, g2, g3⟩ := bad fun hh => e2 (hyb2.1 hh).2.1
            subst g1 g2 g3
            simp [e1, e2, undefV, hx, (hf1 hx).1, ownI]
        · obtain ⟨g1, g2, g3⟩ := bad fun hh => e1 (hyb2.1 hh).1
          subst g1 g2 g3
          simp [e1, undefV, hx, (hf1 hx).1, ownI]
      · rintro e ⟨hzc, rfl⟩
        simp
        have : ¬ (x = a ∧ y = b) := fun ⟨e1, e2⟩ => by
          have := hzc e1 e2
          have := (hf1 (by omega)).2.2.1
          omega
        omega
      · simp
    · rintro e ⟨hyb, rfl⟩
      simp
      have : ¬ x = a := fun e1 => by
        have := hyb e1
        have := (hf1 (by omega)).2.1
        omega
      omega
    · simp
  · rintro e ⟨h1, rfl⟩
    have h2 : ¬ a < f.length := by omega
    simp [h2, ownI]
  · simp

def isSol (f s : List (List Int)) : Prop := isPairMap f s ∧ Inj f s ∧ YB f s

/-- A sentence that is decided somehow. -/
noncomputable def dec (p : Prop) : Bool := @decide p (Classical.propDecidable p)
theorem dec_true {p : Prop} (h : p) : dec p = true := by simp [dec, h]
theorem dec_false {p : Prop} (h : ¬ p) : dec p = false := by simp [dec, h]

def S_isSol (pg : Pg) (n : Nat) : Prop := ∀ f s : List (List Int), fits f → fits s → Call pg n [sol f s] [sol f s] (B (dec (isSol f s)))
theorem t_l02Is {pg : Pg} (hp : pg.fn 41 = some c_spec_l02Is) (h56 : S_pairMap pg 56) (h57 : S_coll57 pg) (h58 : S_fault58 pg) : S_isSol pg 41 := by
  intro f s hf hs
  refine Call.intro hp rfl (by simp) ?_
  show wp _ _ c_spec_l02Is.body (post [.t 2] _ _ _) _
  simp [c_spec_l02Is]
  refine callR (h56 f s hf hs) rfl rfl (fun _ => rfl) ?_
  by_cases h1 : isPairMap f s
  · have hpm := PM.of h1
    obtain ⟨l, hl, hl2, hc⟩ := h57 f s hpm
    simp [h1]
    refine callR hc rfl rfl (fun _ => by simp) ?_
    by_cases h2 : Inj f s
    · have h3 := hl.2 h2
      obtain ⟨l2, hm, hm2, hc2⟩ := h58 f s hpm
      simp [h3]
      refine callR hc2 rfl rfl (fun _ => by simp) ?_
      by_cases h4 : YB f s
      · have h5 := hm.2 h4
        simp [h5, dec_true (show isSol f s from ⟨h1, h2, h4⟩)]
      · have h5 : ¬ l2.length = 0 := fun h => h4 (hm.1 h)
        have h6 : ¬ ((l2.length : Nat) : Int) = 0 := by omega
        simp [h5, dec_false (show ¬ isSol f s from fun h => h4 h.2.2)]
    · have h3 : ¬ l.length = 0 := fun h => h2 (hl.1 h)
      have h6 : ¬ ((l.length : Nat) : Int) = 0 := by omega
      simp [h3, undefV, dec_false (show ¬ isSol f s from fun h => h2 h.2.1)]
  · simp [h1, undefV, dec_false (show ¬ isSol f s from fun h => h1 h.1)]

theorem t_IsSolution {pg : Pg} (hp : pg.fn 42 = some c_impl_IsSolution) (h59 : S_pairMap pg 59) (h60 : S_coll60 pg) (h61 : S_fault61 pg) : S_isSol pg 42 := by
  intro f s hf hs
  refine Call.intro hp rfl (by simp) ?_
  show wp _ _ c_impl_IsSolution.body (post [.t 2] _ _ _) _
  simp [c_impl_IsSolution]
  refine callR (h59 f s hf hs) rfl rfl (fun _ => rfl) ?_
  by_cases h1 : isPairMap f s
  · have hpm := PM.of h1
    obtain ⟨l, hl, hc⟩ := h60 f s hpm
    simp [h1]
    refine callR hc rfl rfl (fun _ => by cases l <;> simp [ownI]) ?_
    by_cases h2 : Inj f s
    · have h3 := hl.2 h2
      subst h3
      obtain ⟨l2, hm, hc2⟩ := h61 f s hpm
      simp [ownI]
      refine callR hc2 rfl rfl (fun _ => by cases l2 <;> simp [ownI]) ?_
      by_cases h4 : YB f s
      · have h5 := hm.2 h4
        subst h5
        simp [ownI, dec_true (show isSol f s from ⟨h1, h2, h4⟩)]
      · cases l2 with
        | none => exact absurd (hm.1 rfl) h4
        | some l2 => simp [ownI, dec_false (show ¬ isSol f s from fun h => h4 h.2.2)]
    · cases l with
      | none => exact absurd (hl.1 rfl) h2
      | some l => simp [ownI, undefV, dec_false (show ¬ isSol f s from fun h => h2 h.2.1)]
  · simp [h1, undefV, dec_false (show ¬ isSol f s from fun h => h1 h.1)]
end Go.Mch
