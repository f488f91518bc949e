/- Our texts YhG YjX YkA YkB YkD YkE YgD YgW YkJ YkK YkL YhO YkP YiX, end to end. -/
import Derived.Test.YtmfppjjjamemnaaP1
import Derived.Test.YtmfppjjjamemnaaP2
import Derived.Test.YtmfppjjjamemnaaYeB
/- The runs of the exact laws, by their shapes: sol,int-tbl,int. -/
namespace Go.Mch
/-- The laws of this shape: sol, int to tbl, int. -/
def lw_pT (a b : Nat) : F where
  np := 2
  rs := [.t 4]
  body :=
    (.seq
    (.region none [ ⟨some 2, none, .box (.t 0)⟩, ⟨some 4, none, .mv (.c (.bool false))⟩] [1, 2]) (.seq
    (.region none [ ⟨some 5, none, .mv (.c (.int .i64 1048576))⟩] [1, 2, 5]) (.seq
    (.region none [ ⟨some 16, none, .ld (some 2) (.t 2)⟩, ⟨some 17, none, .mv (.t 5)⟩, ⟨some 18, none, .call (.f 14) [((.t 16), .r), ((.t 17), .r)]⟩, ⟨some 5, none, .mv (.t 18)⟩] [1, 2, 5]) (.seq (.seq
    (.region none [ ⟨some 19, none, .mv (.t 5)⟩, ⟨some 20, none, .bin .lss (.t 19) (.c (.int .i64 0))⟩] [1, 2, 20]) (.cond (.t 20) (.seq
    (.region none [ ⟨some 4, none, .mv (.c (.bool true))⟩] [4]) .ret) .skip)) (.seq
    (.region none [ ⟨some 22, none, .ld (some 2) (.t 2)⟩, ⟨some 23, none, .call (.f 16) [((.t 22), .r)]⟩, ⟨some 24, none, .mv (.t 1)⟩, ⟨some 25, none, .call (.f a) [((.t 23), .r), ((.t 24), .r)]⟩, ⟨some 21, none, .mv (.t 25)⟩, ⟨some 26, none, .ext (.t 21) 0⟩, ⟨some 27, none, .ext (.t 21) 1⟩, ⟨some 6, none, .asg (.t 26)⟩, ⟨some 7, none, .mv (.t 27)⟩] [1, 2, 6, 7]) (.seq
    (.region none [ ⟨some 28, none, .ld (some 2) (.t 2)⟩, ⟨some 29, none, .call (.f 16) [((.t 28), .r)]⟩, ⟨some 8, none, .alloc [(.slice none 0 0), (.slice none 0 0)]⟩, ⟨none, none, .st (some 2) (.t 8) (.t 29)⟩] [1, 2, 6, 7, 8]) (.seq
    (.region none [ ⟨some 31, none, .ld (some 2) (.t 8)⟩, ⟨some 32, none, .mv (.t 1)⟩, ⟨some 33, none, .call (.f b) [((.t 31), .r), ((.t 32), .r)]⟩, ⟨some 30, none, .mv (.t 33)⟩, ⟨some 34, none, .ext (.t 30) 0⟩, ⟨some 35, none, .ext (.t 30) 1⟩, ⟨some 9, none, .asg (.t 34)⟩, ⟨some 10, none, .mv (.t 35)⟩] [1, 2, 6, 7, 8, 9, 10]) (.seq (.seq
    (.region none [ ⟨some 36, none, .mv (.t 9)⟩, ⟨some 37, none, .mv (.t 6)⟩, ⟨some 38, none, .call (.f 21) [((.t 36), .r), ((.t 37), .r)]⟩, ⟨some 39, none, .un .not (.t 38)⟩, ⟨some 40, none, .mv (.t 39)⟩, ⟨some 41, (some (40, false)), .mv (.t 10)⟩, ⟨some 42, (some (40, false)), .mv (.t 7)⟩, ⟨some 43, (some (40, false)), .bin .neq (.t 41) (.t 42)⟩, ⟨some 44, none, .pick (.t 40) (.c (.bool true)) (.t 43)⟩] [1, 2, 6, 7, 8, 9, 10, 44]) (.cond (.t 44) (.seq
    (.region none [ ⟨some 4, none, .mv (.c (.bool false))⟩] [4]) .ret) .skip)) (.seq (.seq
    (.region (some [45, 46, 47]) [ ⟨some 45, none, .ld (some 2) (.t 8)⟩, ⟨some 46, none, .ld (some 2) (.t 2)⟩, ⟨some 47, none, .call (.f 16) [((.t 46), .r)]⟩, ⟨some 48, none, .call (.f 18) [((.t 45), .r), ((.t 47), .r)]⟩, ⟨some 49, none, .un .not (.t 48)⟩] [1, 2, 6, 7, 8, 9, 10, 49]) (.cond (.t 49) (.seq
    (.region none [ ⟨some 4, none, .mv (.c (.bool false))⟩] [4]) .ret) .skip)) (.seq
    (.region none [ ⟨some 11, none, .mv (.c (.int .i64 1))⟩] [1, 2, 6, 7, 8, 9, 10, 11]) (.seq
    (.region none [ ⟨some 50, none, .ld (some 2) (.t 8)⟩, ⟨some 51, none, .mv (.t 11)⟩, ⟨some 52, none, .callm (.f 22) [((.t 50), true), ((.t 51), false)] []⟩, ⟨some 11, none, .mv (.t 52)⟩] [1, 2, 6, 7, 9, 10, 11]) (.seq (.seq
    (.region none [ ⟨some 53, none, .mv (.t 11)⟩, ⟨some 54, none, .bin .lss (.t 53) (.c (.int .i64 0))⟩, ⟨some 55, none, .mv (.t 54)⟩, ⟨some 56, (some (55, false)), .mv (.t 9)⟩, ⟨some 57, (some (55, false)), .mv (.t 6)⟩, ⟨some 58, (some (55, false)), .call (.f 21) [((.t 56), .r), ((.t 57), .r)]⟩, ⟨some 59, (some (55, false)), .un .not (.t 58)⟩, ⟨some 60, none, .pick (.t 55) (.c (.bool true)) (.t 59)⟩, ⟨some 61, none, .mv (.t 60)⟩, ⟨some 62, (some (61, false)), .mv (.t 10)⟩, ⟨some 63, (some (61, false)), .mv (.t 7)⟩, ⟨some 64, (some (61, false)), .bin .neq (.t 62) (.t 63)⟩, ⟨some 65, none, .pick (.t 61) (.c (.bool true)) (.t 64)⟩] [1, 2, 6, 7, 9, 65]) (.cond (.t 65) (.seq
    (.region none [ ⟨some 4, none, .mv (.c (.bool false))⟩] [4]) .ret) .skip)) (.seq
    (.region none [ ⟨some 12, none, .mv (.c (.int .i64 1))⟩] [1, 2, 6, 7, 9, 12]) (.seq
    (.region none [ ⟨some 66, none, .mv (.t 9)⟩, ⟨some 67, none, .mv (.t 12)⟩, ⟨some 68, none, .callm (.f 23) [((.t 66), true), ((.t 67), false)] []⟩, ⟨some 12, none, .mv (.t 68)⟩] [1, 2, 6, 7, 9, 12]) (.seq
    (.region none [ ⟨some 13, none, .mv (.c (.int .i64 1))⟩] [1, 2, 6, 7, 9, 12, 13]) (.seq
    (.region none [ ⟨some 69, none, .mv (.t 9)⟩, ⟨some 70, none, .mv (.t 13)⟩, ⟨some 71, none, .call (.f 24) [((.t 69), .r), ((.t 70), .r)]⟩, ⟨some 13, none, .mv (.t 71)⟩] [1, 2, 6, 7, 9, 12, 13]) (.seq (.seq
    (.region none [ ⟨some 72, none, .mv (.t 13)⟩, ⟨some 73, none, .bin .lss (.t 72) (.c (.int .i64 0))⟩] [1, 2, 6, 7, 9, 12, 13, 73]) (.cond (.t 73) (.seq
    (.region none [ ⟨some 4, none, .mv (.c (.bool false))⟩] [4]) .ret) .skip)) (.seq (.seq
    (.region none [ ⟨some 74, none, .mv (.t 13)⟩, ⟨some 75, none, .mv (.t 12)⟩, ⟨some 76, none, .bin .neq (.t 74) (.t 75)⟩] [1, 2, 6, 7, 9, 12, 76]) (.cond (.t 76) (.seq
    (.region none [ ⟨some 4, none, .mv (.c (.bool false))⟩] [4]) .ret) .skip)) (.seq
    (.region none [ ⟨some 78, none, .ld (some 2) (.t 2)⟩, ⟨some 79, none, .call (.f 16) [((.t 78), .r)]⟩, ⟨some 80, none, .mv (.t 1)⟩, ⟨some 81, none, .call (.f b) [((.t 79), .r), ((.t 80), .r)]⟩, ⟨some 77, none, .mv (.t 81)⟩, ⟨some 82, none, .ext (.t 77) 0⟩, ⟨some 83, none, .ext (.t 77) 1⟩, ⟨some 14, none, .asg (.t 82)⟩, ⟨some 15, none, .mv (.t 83)⟩] [6, 7, 9, 12, 14, 15]) (.seq (.seq
    (.region none [ ⟨some 84, none, .mv (.t 14)⟩, ⟨some 85, none, .mv (.t 6)⟩, ⟨some 86, none, .call (.f 21) [((.t 84), .r), ((.t 85), .r)]⟩, ⟨some 87, none, .un .not (.t 86)⟩, ⟨some 88, none, .mv (.t 87)⟩, ⟨some 89, (some (88, false)), .mv (.t 15)⟩, ⟨some 90, (some (88, false)), .mv (.t 7)⟩, ⟨some 91, (some (88, false)), .bin .neq (.t 89) (.t 90)⟩, ⟨some 92, none, .pick (.t 88) (.c (.bool true)) (.t 91)⟩] [9, 12, 92]) (.cond (.t 92) (.seq
    (.region none [ ⟨some 4, none, .mv (.c (.bool false))⟩] [4]) .ret) .skip)) (.seq
    (.region none [ ⟨some 13, none, .mv (.c (.int .i64 1))⟩] [9, 12, 13]) (.seq
    (.region none [ ⟨some 93, none, .mv (.t 9)⟩, ⟨some 94, none, .mv (.t 13)⟩, ⟨some 95, none, .call (.f 24) [((.t 93), .r), ((.t 94), .r)]⟩, ⟨some 13, none, .mv (.t 95)⟩] [12, 13]) (.seq (.seq
    (.region none [ ⟨some 96, none, .mv (.t 13)⟩, ⟨some 97, none, .bin .lss (.t 96) (.c (.int .i64 0))⟩] [12, 13, 97]) (.cond (.t 97) (.seq
    (.region none [ ⟨some 4, none, .mv (.c (.bool false))⟩] [4]) .ret) .skip)) (.seq (.seq
    (.region none [ ⟨some 98, none, .mv (.t 13)⟩, ⟨some 99, none, .mv (.t 12)⟩, ⟨some 100, none, .bin .neq (.t 98) (.t 99)⟩] [100]) (.cond (.t 100) (.seq
    (.region none [ ⟨some 4, none, .mv (.c (.bool false))⟩] [4]) .ret) .skip)) (.seq
    (.region none [ ⟨some 4, none, .mv (.c (.bool true))⟩] [4]) .ret)))))))))))))))))))))))))
def S_sh_pT (pg : Pg) (n : Nat) (R0 : List (List Int) → List (List Int) → Int → List (List Int)) (R1 : List (List Int) → List (List Int) → Int → Int) : Prop := ∀ (f0 s0 : List (List Int)) (p1 : Int), fits f0 → fits s0 → ∃ o0, lso o0 = R0 f0 s0 p1 ∧ Call pg n [sol f0 s0, I p1] [sol f0 s0, I p1] (.tup [ownT o0, I (R1 f0 s0 p1)])
def S_lw_pT (pg : Pg) (n : Nat) : Prop := ∀ (a0 b0 : Rw (Rw Int)) (p1 : Int), small a0 → small b0 → ∃ args', Call pg n [.agg [rawT a0, rawT b0], I p1] args' (B true)
end Go.Mch
/- The inverse of a solution: in plain Lean. -/
namespace Go.Mch

theorem dm_pair {n x y : Nat} (hy : y < n) : (x * n + y) / n = x ∧ (x * n + y) % n = y := by
  have hn : 0 < n := by omega
  refine ⟨?_, ?_⟩
  · rw [Nat.mul_comm, Nat.mul_add_div hn, Nat.div_eq_of_lt hy, Nat.add_zero]
  · rw [Nat.mul_comm, Nat.mul_add_mod, Nat.mod_eq_of_lt hy]
theorem pair_lt {n x y : Nat} (hx : x < n) (hy : y < n) : x * n + y < n * n := by
  have : (x + 1) * n ≤ n * n := Nat.mul_le_mul_right n hx
  rw [Nat.add_mul] at this
  omega
theorem inj_pair {f s : List (List Int)} (hi : Inj f s) {x y x' y' : Nat} (hx : x < f.length) (hy : y < f.length) (hx' : x' < f.length) (hy' : y' < f.length) (h1 : v2 f x y = v2 f x' y') (h2 : v2 s x y = v2 s x' y') : x = x' ∧ y = y' := by
  have hp := dm_pair (x := x) hy
  have hp' := dm_pair (x := x') hy'
  by_cases he : x * f.length + y = x' * f.length + y'
  · exact ⟨by rw [← hp.1, he, hp'.1], by rw [← hp.2, he, hp'.2]⟩
  · exact absurd ⟨he, by rw [hp.1, hp.2, hp'.1, hp'.2]; exact h1, by rw [hp.1, hp.2, hp'.1, hp'.2]; exact h2⟩ (hi _ (pair_lt hx hy) _ (pair_lt hx' hy'))
theorem sur_pair {f s : List (List Int)} (h : PM f s) (hi : Inj f s) {a b : Nat} (ha : a < f.length) (hb : b < f.length) : ∃ x y, x < f.length ∧ y < f.length ∧ v2 f x y = a ∧ v2 s x y = b := by
  have r1 : ∀ x y : Nat, 0 ≤ v2 f x y ∧ v2 f x y < f.length := fun x y => by simpa [g2] using h.gF x y
  have r2 : ∀ x y : Nat, 0 ≤ v2 s x y ∧ v2 s x y < f.length := fun x y => by simpa [g2] using h.gS x y
  have hs := surj_of_inj (n := f.length * f.length) (g := fun p => (v2 f (p / f.length) (p % f.length)).toNat * f.length + (v2 s (p / f.length) (p % f.length)).toNat) (fun p _ => by
    have := r1 (p / f.length) (p % f.length)
    have := r2 (p / f.length) (p % f.length)
    exact pair_lt (by omega) (by omega)) (fun p p' hp hp' he => by
    have hd := dm_lt hp
    have hd' := dm_lt hp'
    have q1 := r1 (p / f.length) (p % f.length)
    have q2 := r2 (p / f.length) (p % f.length)
    have q1' := r1 (p' / f.length) (p' % f.length)
    have q2' := r2 (p' / f.length) (p' % f.length)
    have u := dm_pair (n := f.length) (x := (v2 f (p / f.length) (p % f.length)).toNat) (y := (v2 s (p / f.length) (p % f.length)).toNat) (by omega)
    have u' := dm_pair (n := f.length) (x := (v2 f (p' / f.length) (p' % f.length)).toNat) (y := (v2 s (p' / f.length) (p' % f.length)).toNat) (by omega)
    rw [he] at u
    have e1 := u.1.symm.trans u'.1
    have e2 := u.2.symm.trans u'.2
    have := inj_pair hi hd.1 hd.2 hd'.1 hd'.2 (by omega) (by omega)
    rw [← Nat.div_add_mod p f.length, ← Nat.div_add_mod p' f.length, this.1, this.2])
  obtain ⟨p, hp, he⟩ := hs _ (pair_lt ha hb)
  have hd := dm_lt hp
  have q1 := r1 (p / f.length) (p % f.length)
  have q2 := r2 (p / f.length) (p % f.length)
  have u := dm_pair (n := f.length) (x := (v2 f (p / f.length) (p % f.length)).toNat) (y := (v2 s (p / f.length) (p % f.length)).toNat) (by omega)
  have u' := dm_pair (n := f.length) (x := a) hb
  rw [he] at u
  have e1 := u.1.symm.trans u'.1
  have e2 := u.2.symm.trans u'.2
  exact ⟨_, _, hd.1, hd.2, by omega, by omega⟩
end Go.Mch
/- The inverse of a solution: the tables, and both walks. -/
namespace Go.Mch

/-- A pair that is led to these two. -/
def pre (f s : List (List Int)) (u v : Nat) (x y : Nat) : Prop := x < f.length ∧ y < f.length ∧ σN f x y = u ∧ τN s y x = v
noncomputable def preX (f s : List (List Int)) (u v : Nat) : Nat := by
  classical exact if h : ∃ x, ∃ y, pre f s u v x y then Classical.choose h else 0
noncomputable def preY (f s : List (List Int)) (u v : Nat) : Nat := by
  classical exact if h : ∃ y, ∃ x, pre f s u v x y then Classical.choose h else 0
theorem pre_uniq {f s : List (List Int)} (h : PM f s) (hi : Inj f s) {u v x y x' y' : Nat} (h1 : pre f s u v x y) (h2 : pre f s u v x' y') : x = x' ∧ y = y' := by
  obtain ⟨a1, a2, a3, a4⟩ := h1
  obtain ⟨b1, b2, b3, b4⟩ := h2
  have e1 := h.v2f x y
  have e2 := h.v2f x' y'
  have e3 := h.v2s x y
  have e4 := h.v2s x' y'
  exact inj_pair hi a1 a2 b1 b2 (by omega) (by omega)
theorem pre_eq {f s : List (List Int)} (h : PM f s) (hi : Inj f s) {u v x y : Nat} (h1 : pre f s u v x y) : preX f s u v = x ∧ preY f s u v = y := by
  have hx : ∃ x, ∃ y, pre f s u v x y := ⟨x, y, h1⟩
  have hy : ∃ y, ∃ x, pre f s u v x y := ⟨y, x, h1⟩
  constructor
  · unfold preX
    rw [dif_pos hx]
    obtain ⟨y', h2⟩ := Classical.choose_spec hx
    exact (pre_uniq h hi h2 h1).1
  · unfold preY
    rw [dif_pos hy]
    obtain ⟨y', h2⟩ := Classical.choose_spec hy
    exact (pre_uniq h hi h2 h1).2
theorem pre_ex {f s : List (List Int)} (h : PM f s) (hi : Inj f s) {u v : Nat} (hu : u < f.length) (hv : v < f.length) : ∃ x y, pre f s u v x y := by
  obtain ⟨x, y, h1, h2, h3, h4⟩ := sur_pair h hi hu hv
  have e1 := h.v2f x y
  have e3 := h.v2s x y
  exact ⟨x, y, h1, h2, by omega, by omega⟩
theorem pre_self {f s : List (List Int)} (h : PM f s) (hi : Inj f s) {u v : Nat} (hu : u < f.length) (hv : v < f.length) : pre f s u v (preX f s u v) (preY f s u v) := by
  obtain ⟨x, y, h1⟩ := pre_ex h hi hu hv
  have := pre_eq h hi h1
  rw [this.1, this.2]
  exact h1
theorem pre_at {f s : List (List Int)} (h : PM f s) (hi : Inj f s) {x y : Nat} (hx : x < f.length) (hy : y < f.length) : preX f s (σN f x y) (τN s y x) = x ∧ preY f s (σN f x y) (τN s y x) = y := pre_eq h hi ⟨hx, hy, rfl, rfl⟩

noncomputable def invF (f s : List (List Int)) : List (List Int) := tabL f.length fun u v => (preX f s u v : Int)
noncomputable def invS (f s : List (List Int)) : List (List Int) := tabL f.length fun u v => (preY f s u v : Int)
@[simp] theorem invF_length (f s : List (List Int)) : (invF f s).length = f.length := by simp [invF]
@[simp] theorem invS_length (f s : List (List Int)) : (invS f s).length = f.length := by simp [invS]
theorem inv_pm {f s : List (List Int)} (h : PM f s) (hi : Inj f s) : PM (invF f s) (invS f s) where
  tf := tab_of fun x y hx hy => by have := (pre_self h hi hx hy).1; omega
  ts := tab_of fun x y hx hy => by have := (pre_self h hi hx hy).2.1; omega
  len := by simp
  pos := by simpa using h.pos
  small := by simpa using h.small

/-! ### Tables on their way -/

/-- What the first pairs are led to. -/
def hit (f s : List (List Int)) (a b i j : Nat) : Prop := ∃ x y, x < f.length ∧ y < f.length ∧ (x < a ∨ (x = a ∧ y < b)) ∧ σN f x y = i ∧ τN s y x = j
noncomputable def wT (f s : List (List Int)) (R : Nat → Nat → Nat) (Z : Nat → Nat → Int) (a b : Nat) : List (List Int) := tabL f.length fun i j => if dec (hit f s a b i j) then (R i j : Int) else Z i j
@[simp] theorem wT_length (f s : List (List Int)) (R : Nat → Nat → Nat) (Z : Nat → Nat → Int) (a b : Nat) : (wT f s R Z a b).length = f.length := by simp [wT]
theorem wT_row (f s : List (List Int)) (R : Nat → Nat → Nat) (Z : Nat → Nat → Int) (a b : Nat) {i : Nat} (h : i < (wT f s R Z a b).length) : (wT f s R Z a b)[i].length = f.length := tabL_row (by rw [← wT]; exact List.getElem_mem h)
theorem wT_zero (f s : List (List Int)) (R : Nat → Nat → Nat) (Z : Nat → Nat → Int) : wT f s R Z 0 0 = tabL f.length Z := by
  apply tabL_congr
  intro i j _ _
  have : ¬ hit f s 0 0 i j := fun ⟨x, y, _, _, h, _⟩ => by omega
  rw [dec_false this]
  rfl
theorem wT_next (f s : List (List Int)) (R : Nat → Nat → Nat) (Z : Nat → Nat → Int) (a : Nat) : wT f s R Z a f.length = wT f s R Z (a + 1) 0 := by
  apply tabL_congr
  intro i j _ _
  have : hit f s a f.length i j ↔ hit f s (a + 1) 0 i j := by
    constructor
    · rintro ⟨x, y, h1, h2, h3, h4⟩
      exact ⟨x, y, h1, h2, by omega, h4⟩
    · rintro ⟨x, y, h1, h2, h3, h4⟩
      exact ⟨x, y, h1, h2, by omega, h4⟩
  by_cases hc : hit f s a f.length i j
  · rw [dec_true hc, dec_true (this.1 hc)]
  · rw [dec_false hc, dec_false (fun h => hc (this.2 h))]
theorem wT_all {f s : List (List Int)} (h : PM f s) (hi : Inj f s) (R : Nat → Nat → Nat) (Z : Nat → Nat → Int) : wT f s R Z f.length 0 = tabL f.length fun i j => (R i j : Int) := by
  apply tabL_congr
  intro i j hi' hj'
  obtain ⟨x, y, h1, h2, h3, h4⟩ := pre_ex h hi hi' hj'
  have : hit f s f.length 0 i j := ⟨x, y, h1, h2, .inl h1, h3, h4⟩
  rw [dec_true this]
  rfl
theorem wT_set (f s : List (List Int)) (R : Nat → Nat → Nat) (Z : Nat → Nat → Int) {a b : Nat} (ha : a < f.length) (hb : b < f.length) :
    (wT f s R Z a b).set (σN f a b) (((wT f s R Z a b).getD (σN f a b) []).set (τN s b a) (R (σN f a b) (τN s b a) : Int)) = wT f s R Z a (b + 1) := by
  have hcov : ∀ i j, hit f s a (b + 1) i j ↔ hit f s a b i j ∨ (i = σN f a b ∧ j = τN s b a) := fun i j => by
    constructor
    · rintro ⟨x, y, h1, h2, h3, rfl, rfl⟩
      by_cases hxy : x = a ∧ y = b
      · obtain ⟨rfl, rfl⟩ := hxy; exact .inr ⟨rfl, rfl⟩
      · exact .inl ⟨x, y, h1, h2, by omega, rfl, rfl⟩
    · rintro (⟨x, y, h1, h2, h3, h4⟩ | ⟨rfl, rfl⟩)
      · exact ⟨x, y, h1, h2, by omega, h4⟩
      · exact ⟨a, b, ha, hb, by omega, rfl, rfl⟩
  apply List.ext_getElem
  · simp
  · intro i h1 h2
    simp only [wT_length] at h2
    have hgi : ∀ b', (wT f s R Z a b')[i]'(by simpa using h2) = (List.range f.length).map fun j => if dec (hit f s a b' i j) then (R i j : Int) else Z i j := fun b' => by simp [wT, tabL]
    rw [List.getElem_set, hgi (b + 1)]
    by_cases hi : σN f a b = i
    · rw [if_pos hi]
      subst hi
      have hgd : (wT f s R Z a b).getD (σN f a b) [] = (wT f s R Z a b)[σN f a b]'(by simpa using h2) := by
        rw [List.getD_eq_getElem?_getD, List.getElem?_eq_getElem (by simpa using h2)]; rfl
      rw [hgd, hgi b]
      apply List.ext_getElem
      · simp
      · intro j h3 h4
        simp only [List.length_map, List.length_range] at h4
        simp only [List.getElem_set, List.getElem_map, List.getElem_range]
        by_cases hj : τN s b a = j
        · subst hj
          rw [if_pos rfl, dec_true ((hcov _ _).2 (.inr ⟨rfl, rfl⟩))]
          rfl
        · rw [if_neg hj]
          by_cases hc : hit f s a b (σN f a b) j
          · rw [dec_true hc, dec_true ((hcov _ _).2 (.inl hc))]
          · rw [dec_false hc, dec_false fun h => ((hcov _ _).1 h).elim hc fun h => hj h.2.symm]
    · rw [if_neg hi, hgi b]
      apply List.map_congr_left
      intro j _
      by_cases hc : hit f s a b i j
      · rw [dec_true hc, dec_true ((hcov _ _).2 (.inl hc))]
      · rw [dec_false hc, dec_false fun h => ((hcov _ _).1 h).elim hc fun h => hi h.1.symm]
theorem zeroT_tab (n : Nat) : zeroT n n = tabL n fun _ _ => 0 := by
  apply List.ext_getElem
  · simp [zeroT]
  · intro i h1 h2
    apply List.ext_getElem
    · simp [tabL, zeroT]
    · intro j h3 h4
      simp [tabL, zeroT]

def S_inv406 (pg : Pg) : Prop := ∀ f s : List (List Int), PM f s → Inj f s → Call pg 406 [sol f s] [sol f s] (.agg [.mem .own (some 1) (rows (invF f s)), .mem .own (some 1) (rows (invS f s))])
set_option maxRecDepth 10000 in
theorem t_l02Inverse {pg : Pg} (hp : pg.fn 406 = some c_spec_l02Inverse) (h398 : S_empty pg) : S_inv406 pg := by
  intro f s hpm hinj
  have h0 := hpm.pos
  have h12 := hpm.small
  have hls := hpm.len
  refine Call.intro hp rfl (by simp) ?_
  show wp _ _ c_spec_l02Inverse.body (post [.cell 2 (some 2)] _ _ _) _
  simp [c_spec_l02Inverse]
  refine callR (h398 f.length h0 (by omega)) rfl rfl (fun _ => by simp) ?_
  simp
  refine wpLoop_count (fun a e => e = fr [(1, some (.val (.mem .own none [tb f, tb s]))), (2, some (.val (.mem .own none [nil, nil]))), (3, some (.val (I f.length))), (4, some (.val (.mem .own none [.mem .own (some 1) (rows (wT f s (preX f s) (fun _ _ => 0) a 0)), .mem .own (some 1) (rows (wT f s (preY f s) (fun _ _ => 0) a 0))]))), (5, some (.val (I a)))]) f.length ?_ ?_ 0 _ (by omega) ?_
  · rintro a e ha rfl
    simp [ha]
    refine wpLoop_count (fun b e => e = fr [(1, some (.val (.mem .own none [tb f, tb s]))), (2, some (.val (.mem .own none [nil, nil]))), (3, some (.val (I f.length))), (4, some (.val (.mem .own none [.mem .own (some 1) (rows (wT f s (preX f s) (fun _ _ => 0) a b)), .mem .own (some 1) (rows (wT f s (preY f s) (fun _ _ => 0) a b))]))), (5, some (.val (I a))), (6, some (.val (I b)))]) f.length ?_ ?_ 0 _ (by omega) ?_
    · rintro b e hb rfl
      have hf := hpm.v2f a b
      have hs2 := hpm.v2s a b
      have hfr := hpm.tf.row ha
      have hsr := (hpm.ts.row (x := a) (by omega)).trans hls
      have has : a < s.length := by omega
      have hfg : (f[a])[b]'(by omega) = v2 f a b := get_v2 _ _
      have hsg : (s[a])[b]'(by omega) = v2 s a b := get_v2 _ _
      have pa := pre_at hpm hinj ha hb
      have p1 := wT_set f s (preX f s) (fun _ _ => 0) ha hb
      have p2 := wT_set f s (preY f s) (fun _ _ => 0) ha hb
      rw [pa.1] at p1
      rw [pa.2] at p2
      have l1 := wT_length f s (preX f s) (fun _ _ => 0) a b
      have l2 := wT_length f s (preY f s) (fun _ _ => 0) a b
      have r1 := fun {i : Nat} h => wT_row f s (preX f s) (fun _ _ => 0) a b (i := i) h
      have r2 := fun {i : Nat} h => wT_row f s (preY f s) (fun _ _ => 0) a b (i := i) h
      rw [← p1, ← p2]
      generalize wT f s (preX f s) (fun _ _ => 0) a b = X at *
      generalize wT f s (preY f s) (fun _ _ => 0) a b = Y at *
      obtain ⟨hf1, hf2⟩ := hf
      obtain ⟨hs1, hs2⟩ := hs2
      rw [← hf1] at hfg
      rw [← hs1] at hsg
      generalize σN f a b = u at *
      generalize τN s b a = v at *
      have xr := r1 (i := u) (by omega)
      have yr := r2 (i := u) (by omega)
      have lx : u < X.length := by omega
      have ly : u < Y.length := by omega
      simp [ha, hb, has, hfr, hsr, hfg, hsg, lx, ly, xr, yr, hs2]
      refine ⟨by omega, by omega, ?_⟩
      rw [← rows_set2 lx, ← rows_set2 ly]
    · rintro e rfl
      rw [wT_next, wT_next]
      simp
      omega
    · simp
  · rintro e rfl
    rw [wT_all hpm hinj, wT_all hpm hinj]
    simp [invF, invS]
  · simp [wT_zero, zeroT_tab]

def spT (f s : List (List Int)) : T := .agg [.mem .own (some 1) (rows f), .mem .own (some 1) (rows s)]
def S_inv411 (pg : Pg) : Prop := ∀ f s : List (List Int), fits f → fits s → isSol f s → Call pg 411 [sol f s] [sol f s] (.tup [spT (invF f s) (invS f s), I 0])
set_option maxRecDepth 10000 in
theorem t_InverseSolution {pg : Pg} (hp : pg.fn 411 = some c_impl_InverseSolution) (h42 : S_isSol pg 42) (h275 : S_copyT pg 275) : S_inv411 pg := by
  intro f s hff hfs h
  have hpm := PM.of h.1
  have hinj := h.2.1
  have h0 := hpm.pos
  have h12 := hpm.small
  have hls := hpm.len
  have ef : f = tabL f.length (v2 f) := tab_eq rfl fun r hr => by rw [(hpm.tf r hr).1]
  have es : s = tabL f.length (v2 s) := tab_eq hls fun r hr => by rw [(hpm.ts r hr).1, hls]
  refine Call.intro hp rfl (by simp) ?_
  show wp _ _ c_impl_InverseSolution.body (post [.cell 2 (some 2), .t 3] _ _ _) _
  simp [c_impl_InverseSolution]
  refine callR (h42 f s hff hfs) rfl rfl (fun _ => rfl) ?_
  simp [dec_true h]
  refine callR (h275 f hff) rfl rfl (fun _ => by simp) ?_
  simp
  refine callR (h275 s hfs) rfl rfl (fun _ => by simp) ?_
  simp
  refine wpLoop_count (fun a e => e = fr [(1, some (.val (.mem .own none [tb f, tb s]))), (2, some (.val (.mem .own none [nil, nil]))), (4, some (.val (.mem .own none [.mem .own (some 1) (rows (wT f s (preX f s) (v2 f) a 0)), .mem .own (some 1) (rows (wT f s (preY f s) (v2 s) a 0))]))), (22, some (.val (tb f))), (23, some (.val (I f.length))), (24, some (.val (I a)))]) f.length ?_ ?_ 0 _ (by omega) ?_
  · rintro a e ha rfl
    have hfr := hpm.tf.row ha
    have hsr := (hpm.ts.row (x := a) (by omega)).trans hls
    have has : a < s.length := by omega
    simp [ha, hfr]
    refine wpLoop_count (fun b e => e = fr [(1, some (.val (.mem .own none [tb f, tb s]))), (2, some (.val (.mem .own none [nil, nil]))), (4, some (.val (.mem .own none [.mem .own (some 1) (rows (wT f s (preX f s) (v2 f) a b)), .mem .own (some 1) (rows (wT f s (preY f s) (v2 s) a b))]))), (5, some (.val (I a))), (22, some (.val (tb f))), (23, some (.val (I f.length))), (24, some (.val (I a))), (29, some (.val (ix f[a]))), (30, some (.val (I f.length))), (31, some (.val (I b)))]) f.length ?_ ?_ 0 _ (by omega) ?_
    · rintro b e hb rfl
      have hf := hpm.v2f a b
      have hs2 := hpm.v2s a b
      have hfg : (f[a])[b]'(by omega) = v2 f a b := get_v2 _ _
      have hsg : (s[a])[b]'(by omega) = v2 s a b := get_v2 _ _
      have pa := pre_at hpm hinj ha hb
      have p1 := wT_set f s (preX f s) (v2 f) ha hb
      have p2 := wT_set f s (preY f s) (v2 s) ha hb
      rw [pa.1] at p1
      rw [pa.2] at p2
      have l1 := wT_length f s (preX f s) (v2 f) a b
      have l2 := wT_length f s (preY f s) (v2 s) a b
      have r1 := fun {i : Nat} h => wT_row f s (preX f s) (v2 f) a b (i := i) h
      have r2 := fun {i : Nat} h => wT_row f s (preY f s) (v2 s) a b (i := i) h
      rw [← p1, ← p2]
      generalize wT f s (preX f s) (v2 f) a b = X at *
      generalize wT f s (preY f s) (v2 s) a b = Y at *
      obtain ⟨hf1, hf2⟩ := hf
      obtain ⟨hs1, hs2⟩ := hs2
      rw [← hf1] at hfg
      rw [← hs1] at hsg
      generalize σN f a b = u at *
      generalize τN s b a = v at *
      have xr := r1 (i := u) (by omega)
      have yr := r2 (i := u) (by omega)
      have lx : u < X.length := by omega
      have ly : u < Y.length := by omega
      have hbf : b < f[a].length := by omega
      simp [hb, has, hfr, hsr, hfg, hsg, lx, ly, xr, yr, hs2]
      refine ⟨by omega, by omega, ?_⟩
      rw [← rows_set2 lx, ← rows_set2 ly]
    · rintro e rfl
      rw [wT_next, wT_next]
      simp
      omega
    · simp
  · rintro e rfl
    rw [wT_all hpm hinj, wT_all hpm hinj]
    simp [invF, invS, spT]
  · rw [wT_zero, wT_zero, ← ef, ← es]
    simp
end Go.Mch
/- Words: the checks, and classes of words as orbits under moves of a solution and of its inverse. -/
namespace Go.Mch

def isWd (n : Int) (w : List Int) : Prop := inR 0 (n - 1) w ∧ w.length ≤ 8
instance (n : Int) (w : List Int) : Decidable (isWd n w) := by unfold isWd; infer_instance
/-! ### Classes -/

/-- A move of a word by a solution, or by its inverse. -/
noncomputable def cMv (f s : List (List Int)) (x : List Int) (p : Nat) : List Int := if p % 2 = 0 then dW f s x (p / 2) else dW (invF f s) (invS f s) x (p / 2)
theorem cMv_0 (f s : List (List Int)) (x : List Int) (k : Nat) : cMv f s x (2 * k) = dW f s x k := by
  unfold cMv
  rw [if_pos (by omega), show 2 * k / 2 = k from by omega]
theorem cMv_1 (f s : List (List Int)) (x : List Int) (k : Nat) : cMv f s x (2 * k + 1) = dW (invF f s) (invS f s) x k := by
  unfold cMv
  rw [if_neg (by omega), show (2 * k + 1) / 2 = k from by omega]
@[simp] theorem cMv_length (f s : List (List Int)) (x : List Int) (p : Nat) : (cMv f s x p).length = x.length := by unfold cMv; split <;> simp
theorem cMv_in {f s : List (List Int)} (h : PM f s) (hi : Inj f s) {x : List Int} (hx : inN f.length x) (p : Nat) : inN f.length (cMv f s x p) := by
  unfold cMv
  split
  · exact dW_in h hx _
  · have := dW_in (inv_pm h hi) (w := x) (by simpa using hx) (p / 2)
    simpa using this
theorem CR_in {f s : List (List Int)} (h : PM f s) (hi : Inj f s) {w : List Int} (hw : inN f.length w) {m : Nat} {x : List Int} (hx : TR (cMv f s) m w x) : inN f.length x ∧ x.length = w.length :=
  hx (fun y => inN f.length y ∧ y.length = w.length) ⟨hw, rfl⟩ fun y hy i _ => ⟨cMv_in h hi hy.1 i, by rw [cMv_length]; exact hy.2⟩
noncomputable def cO (f s : List (List Int)) (w : List Int) (lim : Nat) : Option (List (List Int)) := orbO (cMv f s) (2 * (w.length - 1)) w lim

def S_class (pg : Pg) : Prop := ∀ (f s : List (List Int)) (w : List Int) (lim : Nat), isSol f s → inN f.length w → w.length ≤ 12 → 0 < lim → lim ≤ 10000 → Call pg 339 [sol f s, ix w, I lim] [sol f s, ix w, I lim] (grpT (cO f s w lim))
set_option maxRecDepth 10000 in
theorem t_l09Class {pg : Pg} (hp : pg.fn 339 = some c_spec_l09Class) (h406 : S_inv406 pg) (h31 : S_own pg) (h68 : S_do pg 68) (h349 : S_put pg) (h280 : S_copyT pg 280) : S_class pg := by
  intro f s w lim h hw hl hlim0 hlim
  have hpm := PM.of h.1
  have hinj := h.2.1
  have hipm := inv_pm hpm hinj
  have hro : ∀ n, n ≤ 100000 → n ≤ roomy := fun n hn => by unfold roomy; omega
  refine Call.intro hp rfl (by simp) ?_
  show wp _ _ c_spec_l09Class.body (post [.t 6, .t 7] _ _ _) _
  simp [c_spec_l09Class]
  refine callR (h406 f s hpm hinj) rfl rfl (fun _ => by simp) ?_
  simp
  refine callR (h31 w (by omega)) rfl rfl (fun _ => by simp) ?_
  simp
  refine callR (h31 w (by omega)) rfl rfl (fun _ => by simp) ?_
  simp
  refine wpLoop_lower (α := Nat) (fun z => lim + 1 - z) (fun z e => ExTT fun Q S ts => (TB (cMv f s) (2 * (w.length - 1)) w Q z 0 ∧ Q.length ≤ lim ∧ z ≤ Q.length ∧ Srt S ∧ (∀ x, x ∈ S ↔ x ∈ Q) ∧ Rds ts S) ∧ e = fr [(1, some (.val (ix w))), (2, some (.val (I lim))), (3, some (.val (.mem .own none [tb f, tb s]))), (8, some (.val (.mem .own none [.mem .own (some 1) (rows (invF f s)), .mem .own (some 1) (rows (invS f s))]))), (9, some (.val (.mem .own (some 1) (rowsF Q)))), (10, some (.val (.mem .own (some 1) ts))), (11, some (.val (I z)))]) ?_ 0 _ (ExTT.mk [w] [w] (rowsF [w]) ⟨⟨TB.start _ _ w, by simp; omega, by simp, by simp [Srt], fun x => Iff.rfl, Rds.fresh _⟩, by simp [rowsF]⟩)
  rintro i e ⟨Q, S, ts, ⟨gb, gl, gi, gs, gm, gr⟩, rfl⟩
  by_cases hi : i < Q.length
  · simp [hi]
    refine wpLoop_lower (α := Nat) (fun z => w.length - z) (fun z e => ExTT fun Q S ts => (TB (cMv f s) (2 * (w.length - 1)) w Q i (2 * z) ∧ Q.length ≤ lim + 2 * z ∧ i < Q.length ∧ z ≤ w.length - 1 ∧ Srt S ∧ (∀ x, x ∈ S ↔ x ∈ Q) ∧ Rds ts S) ∧ e = fr [(1, some (.val (ix w))), (2, some (.val (I lim))), (3, some (.val (.mem .own none [tb f, tb s]))), (8, some (.val (.mem .own none [.mem .own (some 1) (rows (invF f s)), .mem .own (some 1) (rows (invS f s))]))), (9, some (.val (.mem .own (some 1) (rowsF Q)))), (10, some (.val (.mem .own (some 1) ts))), (11, some (.val (I i))), (12, some (.val (I z)))]) ?_ 0 _ (ExTT.mk Q S ts ⟨⟨gb, by omega, hi, by omega, gs, gm, gr⟩, by simp⟩)
    clear gb gl gi hi gs gm gr Q S ts
    rintro k e ⟨Q, S, ts, ⟨gb, gl, gi, gk, gs, gm, gr⟩, rfl⟩
    have gf := gb.f
    by_cases hk : k < w.length - 1
    · have hk' : (k : Int) + 1 < w.length := by omega
      have hQi := CR_in hpm hinj hw (gf.gr _ (List.getElem_mem gi))
      have hm1 := h68 f s Q[i] k hpm (by omega) (by omega) hQi.1
      have hm2 := h68 (invF f s) (invS f s) Q[i] k hipm (by omega) (by omega) (by simpa using hQi.1)
      rw [← cMv_0] at hm1
      rw [← cMv_1] at hm2
      simp [hk', gi]
      repeat (refine And.intro (by omega) ?_)
      refine callR hm1 rfl rfl (fun _ => by simp) ?_
      simp [gi]
      repeat (refine And.intro (by omega) ?_)
      refine callR hm2 rfl rfl (fun _ => by simp) ?_
      simp
      obtain ⟨L, hL1, hL2, hL3⟩ : ∃ L : List (List Int), L.length = 2 ∧ (∀ j (h : j < L.length), L[j] = cMv f s Q[i] (2 * k + j)) ∧ [T.mem .fresh (some 1) (List.map I (cMv f s Q[i] (2 * k))), T.mem .fresh (some 1) (List.map I (cMv f s Q[i] (2 * k + 1)))] = rowsF L := ⟨[cMv f s Q[i] (2 * k), cMv f s Q[i] (2 * k + 1)], rfl, fun j hj => by
        match j, hj with
        | 0, _ => rfl
        | 1, _ => rfl, rfl⟩
      rw [hL3]
      have hxi : Q[i]? = some Q[i] := List.getElem?_eq_getElem gi
      generalize Q[i] = x at *
      refine wpLoop_count (fun j e => ExTT fun Q' S' ts' => (TB (cMv f s) (2 * (w.length - 1)) w Q' i (2 * k + j) ∧ Q'.length ≤ lim + 2 * k + j ∧ Q'[i]? = some x ∧ Srt S' ∧ (∀ x, x ∈ S' ↔ x ∈ Q') ∧ Rds ts' S') ∧ e = fr [(1, some (.val (ix w))), (2, some (.val (I lim))), (3, some (.val (.mem .own none [tb f, tb s]))), (8, some (.val (.mem .own none [.mem .own (some 1) (rows (invF f s)), .mem .own (some 1) (rows (invS f s))]))), (9, some (.val (.mem .own (some 1) (rowsF Q')))), (10, some (.val (.mem .own (some 1) ts'))), (11, some (.val (I i))), (12, some (.val (I k))), (13, some (.val (.mem .fresh (some 1) (rowsF L)))), (14, some (.val (I j)))]) 2 ?_ ?_ 0 _ (by omega) (ExTT.mk Q S ts ⟨⟨gb, by omega, hxi, gs, gm, gr⟩, by simp⟩)
      · clear gb gl hxi gs gm gr gf gi hm1 hm2 hL3
        rintro j e hj ⟨Q, S, ts, ⟨gb, gl, gx, gs, gm, gr⟩, rfl⟩
        have gf := gb.f
        obtain ⟨gi, gx⟩ := List.getElem?_eq_some_iff.1 gx
        have hSl := len_of_same gs.nodup gf.nd gm
        have hjL : j < L.length := by omega
        have hW := hL2 j hjL
        rw [← gx] at hW
        have hQr : ∀ x ∈ Q, x.length = w.length := fun x hx => (CR_in hpm hinj hw (gf.gr x hx)).2
        have hWl : L[j].length ≤ 1048576 := by rw [hW, cMv_length, hQr _ (List.getElem_mem gi)]; omega
        obtain ⟨S', b, args', p1, p2, p3, p4, p5, p6⟩ := h349 S L[j] gs (by omega) (fun x hx => by have := hQr x ((gm x).1 hx); omega) hWl
        have hold := fun hin => gb.old gi hin
        have hnew := fun hin => gb.new gi (k := 2 * k + j) (by omega) hin
        rw [← hW] at hold hnew
        obtain ⟨r1, r2, r3, r4⟩ := gr
        have hjI : (j : Int) < 2 := by omega
        simp [hj, hjI, hL1]
        repeat (refine And.intro (by omega) ?_)
        generalize hWe : L[j] = W at *
        obtain ⟨a1, a2, rfl⟩ : ∃ a1 a2, args' = [a1, a2] := by
          cases args' with
          | nil => simp at p5
          | cons a1 l => cases l with
            | nil => simp at p5
            | cons a2 l => cases l with
              | nil => exact ⟨a1, a2, rfl⟩
              | cons => simp at p5
        refine callM (ts' := [a1, a2]) (r := .tup [.mem .own (some 1) (tbL S'), B b]) ?_ ?_ ?_ ?_
        · simp
        · simpa [r3] using p6
        · simp
        · have hWS : W ∈ S ↔ W ∈ Q := gm W
          by_cases hin : W ∈ Q
          · have hb : b = false := by
              cases b with
              | false => rfl
              | true => exact absurd (hWS.2 hin) (p3.1 rfl)
            subst hb
            simp
            refine ⟨by omega, ExTT.mk Q S' (tbL S') ⟨⟨hold hin, by omega, List.getElem?_eq_some_iff.2 ⟨gi, gx⟩, p1, fun x => ?_, Rds.old _⟩, by simp⟩⟩
            rw [p2, gm]
            exact ⟨fun h => h.elim id fun h => h ▸ hin, .inl⟩
          · have hb : b = true := p3.2 fun h => hin (hWS.1 h)
            subst hb
            simp [hL1, hj, hjI, hWe]
            refine ⟨hro _ (by omega), by omega, ExTT.mk (Q ++ [W]) S' (tbL S') ⟨⟨hnew hin, by simp; omega, by rw [List.getElem?_append_left gi]; exact List.getElem?_eq_some_iff.2 ⟨gi, gx⟩, p1, fun x => ?_, Rds.old _⟩, by rw [rowsF_snoc]⟩⟩
            rw [p2, gm, List.mem_append, List.mem_singleton]
      · rintro e ⟨Q, S, ts, ⟨gb, gl, gx, gs, gm, gr⟩, rfl⟩
        obtain ⟨gi, gx⟩ := List.getElem?_eq_some_iff.1 gx
        simp [hL1]
        repeat (refine And.intro (by omega) ?_)
        exact ⟨k + 1, by omega, ExTT.mk Q S ts ⟨⟨gb, by omega, gi, by omega, gs, gm, gr⟩, by simp⟩⟩
    · have hk' : ¬ (k : Int) + 1 < w.length := by omega
      have hkm : k = w.length - 1 := by omega
      subst hkm
      by_cases hbig : lim < Q.length
      · have hno : cO f s w lim = none := orbO_none gf hbig
        simp [hk', hbig, hno, grpT]
        omega
      · have hb2 : ¬ (lim : Int) < Q.length := by omega
        simp [hk', hb2]
        repeat (refine And.intro (by omega) ?_)
        exact ⟨i + 1, by omega, ExTT.mk Q S ts ⟨⟨gb.up gi, by omega, by omega, gs, gm, gr⟩, by simp⟩⟩
  · have hX : Orb (cMv f s) (2 * (w.length - 1)) w S := ⟨gs, fun x => (gm x).trans ⟨gb.f.gr x, gb.all hi x⟩⟩
    have hSl := len_of_same gs.nodup gb.f.nd gm
    have hs : cO f s w lim = some S := orbO_some hX (by omega)
    obtain ⟨r1, r2, r3, r4⟩ := gr
    have hcp := h280 S ⟨by omega, fun r hr => by have := (CR_in hpm hinj hw (gb.f.gr r ((gm r).1 hr))).2; omega⟩
    have hwn : win ts 0 ts.length = ts := by simp [win]
    simp [hi, hwn, r1]
    refine callR hcp rfl rfl (fun _ => by simp) ?_
    simp [hs, grpT]

/-! ### Classes, of the program -/

theorem frzRowsF (X : List (List Int)) : T.frzL .fresh (rows X) = rowsF X := by
  induction X with
  | nil => rfl
  | cons x X ih => simp only [rows, rowsF, List.map_cons] at ih ⊢; simp [ih]
theorem frz_sp (X Y : List (List Int)) : T.frz .fresh (.tup [.agg [.mem .own (some 1) (rows X), .mem .own (some 1) (rows Y)], I 0]) = .tup [.agg [.mem .fresh (some 1) (rowsF X), .mem .fresh (some 1) (rowsF Y)], I 0] := by
  show T.tup [T.agg [T.mem .fresh (some 1) (T.frzL .fresh (rows X)), T.mem .fresh (some 1) (T.frzL .fresh (rows Y))], I 0] = _
  rw [frzRowsF, frzRowsF]
def S_wordClass (pg : Pg) : Prop := ∀ (f s : List (List Int)) (w : List Int) (lim : Nat), fits f → fits s → isSol f s → inN f.length w → w.length ≤ 12 → 0 < lim → lim ≤ 10000 → Call pg 352 [sol f s, ix w, I lim] [sol f s, ix w, I lim] (grpT (cO f s w lim))
set_option maxRecDepth 10000 in
theorem t_wordClass {pg : Pg} (hp : pg.fn 352 = some c_impl_wordClass) (h411 : S_inv411 pg) (h36 : S_clone pg) (h312 : S_text pg) (h44 : S_do pg 44) (h313 : S_sort pg) : S_wordClass pg := by
  intro f s w lim hff hfs h hw hl hlim0 hlim
  have hpm := PM.of h.1
  have hinj := h.2.1
  have hipm := inv_pm hpm hinj
  have h12 := hpm.small
  have hx12 : ∀ m x, TR (cMv f s) m w x → inN 12 x := fun m x hx v hv => by have := (CR_in hpm hinj hw hx).1 v hv; omega
  refine Call.intro hp rfl (by simp) ?_
  show wp _ _ c_impl_wordClass.body (post [.t 6, .t 7] _ _ _) _
  simp [c_impl_wordClass]
  refine callR (h411 f s hff hfs h) rfl rfl (fun _ => by simp [spT]) ?_
  simp [spT, frz_sp]
  refine callR (h36 w (by omega)) rfl rfl (fun _ => by simp) ?_
  simp
  refine callR (h312 w (hx12 0 w (TR.start _ _ w)) (by omega)) rfl rfl (fun _ => rfl) ?_
  simp
  refine wpLoop_lower (α := Nat) (fun z => lim + 1 - z) (fun z e => ExT fun Q => (TB (cMv f s) (2 * (w.length - 1)) w Q z 0 ∧ Q.length ≤ lim ∧ z ≤ Q.length) ∧ e = fr [(1, some (.val (ix w))), (2, some (.val (I lim))), (3, some (.val (.mem .own none [tb f, tb s]))), (8, some (.val (.mem .own none [.mem .fresh (some 1) (rowsF (invF f s)), .mem .fresh (some 1) (rowsF (invS f s))]))), (10, some (.val (.mem .own (some 1) (rows Q)))), (11, some (.val (.set (Q.map txt)))), (12, some (.val (I z)))]) ?_ 0 _ (ExT.mk [w] ⟨⟨TB.start _ _ w, by simp; omega, by simp⟩, by simp [rows]⟩)
  rintro i e ⟨Q, ⟨gb, gl, gi⟩, rfl⟩
  by_cases hi : i < Q.length
  · simp [hi]
    repeat (refine And.intro (by omega) ?_)
    refine wpLoop_lower (α := Nat) (fun z => w.length - z) (fun z e => ExT fun Q => (TB (cMv f s) (2 * (w.length - 1)) w Q i (2 * z) ∧ Q.length ≤ lim ∧ i < Q.length ∧ z ≤ w.length - 1) ∧ e = fr [(1, some (.val (ix w))), (2, some (.val (I lim))), (3, some (.val (.mem .own none [tb f, tb s]))), (8, some (.val (.mem .own none [.mem .fresh (some 1) (rowsF (invF f s)), .mem .fresh (some 1) (rowsF (invS f s))]))), (10, some (.val (.mem .own (some 1) (rows Q)))), (11, some (.val (.set (Q.map txt)))), (12, some (.val (I i))), (38, some (.val (I ((w.length : Int) - 1)))), (39, some (.val (I z)))]) ?_ 0 _ (ExT.mk Q ⟨⟨gb, gl, hi, by omega⟩, by simp⟩)
    clear gb gl gi hi Q
    rintro k e ⟨Q, ⟨gb, gl, gi, gk⟩, rfl⟩
    have gf := gb.f
    by_cases hk : k < w.length - 1
    · have hk' : (k : Int) < (w.length : Int) - 1 := by omega
      simp [hk']
      refine wpLoop_count (fun j e => ExT fun Q => (TB (cMv f s) (2 * (w.length - 1)) w Q i (2 * k + j) ∧ Q.length ≤ lim ∧ i < Q.length) ∧ e = fr [(1, some (.val (ix w))), (2, some (.val (I lim))), (3, some (.val (.mem .own none [tb f, tb s]))), (8, some (.val (.mem .own none [.mem .fresh (some 1) (rowsF (invF f s)), .mem .fresh (some 1) (rowsF (invS f s))]))), (10, some (.val (.mem .own (some 1) (rows Q)))), (11, some (.val (.set (Q.map txt)))), (12, some (.val (I i))), (13, some (.val (I k))), (38, some (.val (I ((w.length : Int) - 1)))), (39, some (.val (I k))), (44, some (.vagg [.val (tb f), .val (tb s), .val (.mem .fresh (some 1) (rowsF (invF f s))), .val (.mem .fresh (some 1) (rowsF (invS f s)))])), (45, some (.val (I j)))]) 2 ?_ ?_ 0 _ (by omega) (ExT.mk Q ⟨⟨gb, gl, gi⟩, by simp⟩)
      · clear gb gl gf gi Q
        rintro j e hj ⟨Q, ⟨gb, gl, gi⟩, rfl⟩
        have gf := gb.f
        have hQi := CR_in hpm hinj hw (gf.gr _ (List.getElem_mem gi))
        have hil : (i : Int) < Q.length := by omega
        obtain rfl | rfl : j = 0 ∨ j = 1 := by omega
        · rw [Nat.add_zero] at gb
          have hmv := h44 f s Q[i] k hpm (by omega) (by omega) hQi.1
          rw [← cMv_0] at hmv
          have hWr := (gf.gr _ (List.getElem_mem gi)).step (cMv f s) (2 * (w.length - 1)) w (i := 2 * k) (by omega)
          have hWl : (cMv f s Q[i] (2 * k)).length = w.length := by rw [cMv_length]; exact hQi.2
          have htx := h312 (cMv f s Q[i] (2 * k)) (hx12 _ _ hWr) (by omega)
          have hkey : txt (cMv f s Q[i] (2 * k)) ∈ Q.map txt ↔ cMv f s Q[i] (2 * k) ∈ Q := by
            rw [List.mem_map]
            constructor
            · rintro ⟨y, hy, he⟩
              exact txt_inj (hx12 _ y (gf.gr y hy)) (hx12 _ _ hWr) he ▸ hy
            · exact fun hh => ⟨_, hh, rfl⟩
          have hold := fun hin => gb.old gi (k := 2 * k) hin
          have hnew := fun hin => gb.new gi (k := 2 * k) (by omega) hin
          have hnewF := fun hin => gf.new gi (k := 2 * k) (by omega) hin
          simp [gi, hil]
          repeat (refine And.intro (by omega) ?_)
          refine callR hmv rfl rfl (fun _ => by simp) ?_
          generalize cMv f s Q[i] (2 * k) = W at *
          simp
          refine callR htx rfl rfl (fun _ => rfl) ?_
          by_cases hin : W ∈ Q
          · have hk2 := hkey.2 hin
            generalize hK : Q.map txt = KS at *
            simp [hk2]
            repeat (refine And.intro (by omega) ?_)
            exact ExT.mk Q ⟨⟨hold hin, gl, gi⟩, by simp [hK]⟩
          · have hk2 : ¬ txt W ∈ Q.map txt := fun hh => hin (hkey.1 hh)
            have hK2 : (Q ++ [W]).map txt = Q.map txt ++ [txt W] := by simp
            have n1 := hnewF hin
            generalize hK : Q.map txt = KS at *
            by_cases h5 : Q.length = lim
            · have hno : cO f s w lim = none := orbO_none n1 (by simp; omega)
              simp [hk2, h5, hno, grpT]
            · have h5' : ¬ (Q.length : Int) = lim := by omega
              have hro : Q.length + 1 ≤ roomy := by unfold roomy; omega
              simp [hk2, h5', hro]
              repeat (refine And.intro (by omega) ?_)
              exact ExT.mk (Q ++ [W]) ⟨⟨hnew hin, by simp; omega, by simp; omega⟩, by simp [hK2, rows]⟩
        ·
          have hmv := h44 (invF f s) (invS f s) Q[i] k hipm (by omega) (by omega) (by simpa using hQi.1)
          rw [← cMv_1] at hmv
          have hWr := (gf.gr _ (List.getElem_mem gi)).step (cMv f s) (2 * (w.length - 1)) w (i := 2 * k + 1) (by omega)
          have hWl : (cMv f s Q[i] (2 * k + 1)).length = w.length := by rw [cMv_length]; exact hQi.2
          have htx := h312 (cMv f s Q[i] (2 * k + 1)) (hx12 _ _ hWr) (by omega)
          have hkey : txt (cMv f s Q[i] (2 * k + 1)) ∈ Q.map txt ↔ cMv f s Q[i] (2 * k + 1) ∈ Q := by
            rw [List.mem_map]
            constructor
            · rintro ⟨y, hy, he⟩
              exact txt_inj (hx12 _ y (gf.gr y hy)) (hx12 _ _ hWr) he ▸ hy
            · exact fun hh => ⟨_, hh, rfl⟩
          have hold := fun hin => gb.old gi (k := 2 * k + 1) hin
          have hnew := fun hin => gb.new gi (k := 2 * k + 1) (by omega) hin
          have hnewF := fun hin => gf.new gi (k := 2 * k + 1) (by omega) hin
          simp [gi, hil]
          repeat (refine And.intro (by omega) ?_)
          refine callR hmv rfl rfl (fun _ => by simp) ?_
          generalize cMv f s Q[i] (2 * k + 1) = W at *
          simp
          refine callR htx rfl rfl (fun _ => rfl) ?_
          by_cases hin : W ∈ Q
          · have hk2 := hkey.2 hin
            generalize hK : Q.map txt = KS at *
            simp [hk2]
            repeat (refine And.intro (by omega) ?_)
            exact ExT.mk Q ⟨⟨hold hin, gl, gi⟩, by simp [hK]⟩
          · have hk2 : ¬ txt W ∈ Q.map txt := fun hh => hin (hkey.1 hh)
            have hK2 : (Q ++ [W]).map txt = Q.map txt ++ [txt W] := by simp
            have n1 := hnewF hin
            generalize hK : Q.map txt = KS at *
            by_cases h5 : Q.length = lim
            · have hno : cO f s w lim = none := orbO_none n1 (by simp; omega)
              simp [hk2, h5, hno, grpT]
            · have h5' : ¬ (Q.length : Int) = lim := by omega
              have hro : Q.length + 1 ≤ roomy := by unfold roomy; omega
              simp [hk2, h5', hro]
              repeat (refine And.intro (by omega) ?_)
              exact ExT.mk (Q ++ [W]) ⟨⟨hnew hin, by simp; omega, by simp; omega⟩, by simp [hK2, rows]⟩
      · rintro e ⟨Q, ⟨gb, gl, gi⟩, rfl⟩
        simp
        repeat (refine And.intro (by omega) ?_)
        exact ⟨k + 1, by omega, ExT.mk Q ⟨⟨gb, gl, gi, by omega⟩, by simp⟩⟩
    · have hk' : ¬ (k : Int) < (w.length : Int) - 1 := by omega
      have hkm : k = w.length - 1 := by omega
      subst hkm
      simp [hk']
      repeat (refine And.intro (by omega) ?_)
      exact ⟨i + 1, by omega, ExT.mk Q ⟨⟨gb.up gi, gl, by omega⟩, by simp⟩⟩
  · have hQr : ∀ x ∈ Q, x.length = w.length := fun x hx => (CR_in hpm hinj hw (gb.f.gr x hx)).2
    obtain ⟨Y, ⟨y1, y2⟩, hy⟩ := h313 Q ⟨by omega, fun k => by
      by_cases hk : k < Q.length
      · have := hQr _ (List.getElem_mem hk)
        rw [← gt_at hk]
        omega
      · simp [gt, hk]⟩ (dj_of gb.f.nd)
    have hYl := len_of_same y1.nodup gb.f.nd y2
    have hres : cO f s w lim = some Y := orbO_some ⟨y1, fun x => (y2 x).trans ⟨gb.f.gr x, gb.all hi x⟩⟩ (by omega)
    simp [hi]
    refine callM (ts' := [ownR Y, .fn 314 []]) (r := .tup []) ?_ ?_ ?_ ?_
    · simp
    · simpa using hy
    · simp
    · simp [hres, grpT]
end Go.Mch
/- Classes of words, equal words and normal words. -/
namespace Go.Mch

/-! ### Lists among lists -/

/-! ### ClassOfWord -/

theorem cO_len {f s : List (List Int)} (h : isSol f s) {w : List Int} (hw : inN f.length w) {lim : Nat} {Z : List (List Int)} (hz : cO f s w lim = some Z) : Z.length ≤ lim ∧ (∀ x ∈ Z, inN f.length x ∧ x.length = w.length) ∧ w ∈ Z := by
  have := orbO_spec hz
  exact ⟨this.2, fun x hx => CR_in (PM.of h.1) h.2.1 hw ((this.1.2 x).1 hx), (this.1.2 w).2 (TR.start _ _ w)⟩
end Go.Mch
/- Equal words and normal words. -/
namespace Go.Mch

/-! ### Normal words -/

def hd0 (X : List (List Int)) : List Int := X.getD 0 []
end Go.Mch
/- Orbits of tuples, found by going on from each: in plain Lean. -/
namespace Go.Mch

/-- A number that has not been seen is seen and put into the queue. -/
def visW (st : List Bool × List Nat) (w : Nat) : List Bool × List Nat := if st.1.getD w false then st else (st.1.set w true, st.2 ++ [w])
def left (st : List Bool × List Nat) : Nat := st.1.count false + st.2.length
@[simp] theorem visW_length (st : List Bool × List Nat) (w : Nat) : (visW st w).1.length = st.1.length := by unfold visW; split <;> simp
theorem visL_length (ws : List Nat) (st : List Bool × List Nat) : (ws.foldl visW st).1.length = st.1.length := by
  induction ws generalizing st with
  | nil => rfl
  | cons w ws ih => simp [ih]
/-- What has been seen when the queue is empty. -/
def bfsF (nb : Nat → List Nat) : Nat → List Bool → List Nat → List Bool
  | 0, s, _ => s
  | _ + 1, s, [] => s
  | f + 1, s, v :: q => bfsF nb f ((nb v).foldl visW (s, q)).1 ((nb v).foldl visW (s, q)).2
/-- What has been seen, and how many orbits there were, when k starts are done. -/
def orbC (nb : Nat → List Nat) (N : Nat) : Nat → List Bool × Int
  | 0 => (List.replicate N false, 0)
  | k + 1 => if (orbC nb N k).1.getD k false then orbC nb N k else (bfsF nb (N + 1) ((orbC nb N k).1.set k true) [k], (orbC nb N k).2 + 1)
theorem bfsF_length (nb : Nat → List Nat) : ∀ (f : Nat) (s : List Bool) (q : List Nat), (bfsF nb f s q).length = s.length
  | 0, _, _ => rfl
  | _ + 1, _, [] => rfl
  | f + 1, s, v :: q => by rw [bfsF, bfsF_length nb f, visL_length]
@[simp] theorem orbC_length (nb : Nat → List Nat) (N k : Nat) : (orbC nb N k).1.length = N := by
  induction k with
  | zero => simp [orbC]
  | succ k ih => unfold orbC; split <;> simp [ih, bfsF_length]
/-! ### Tuples and their numbers -/

def digT (n m v : Nat) : List Int := (List.range m).map fun j => ((v / n ^ (m - 1 - j) % n : Nat) : Int)
@[simp] theorem digT_length (n m v : Nat) : (digT n m v).length = m := by simp [digT]
theorem digT_rng {n m v : Nat} (hn : 0 < n) : inN n (digT n m v) := fun x hx => by
  simp only [digT, List.mem_map, List.mem_range] at hx
  obtain ⟨j, _, rfl⟩ := hx
  have := Nat.mod_lt (v / n ^ (m - 1 - j)) hn
  omega
def numT (n : Nat) (w : List Int) : Int := w.foldl (fun a x => a * n + x) 0
theorem numT_snoc (n : Nat) (w : List Int) (x : Int) : numT n (w ++ [x]) = numT n w * n + x := by simp [numT]
theorem numT_rng {n : Nat} {w : List Int} (hw : inN n w) : ∀ k, k ≤ w.length → 0 ≤ numT n (w.take k) ∧ numT n (w.take k) < ((n ^ k : Nat) : Int) := by
  intro k
  induction k with
  | zero => intro _; simp [numT]
  | succ k ih =>
    intro hk
    obtain ⟨h1, h2⟩ := ih (by omega)
    have hx := hw _ (List.getElem_mem (show k < w.length by omega))
    rw [List.take_succ_eq_append_getElem (by omega), numT_snoc, Nat.pow_succ, Int.natCast_mul]
    constructor
    · have := Int.mul_nonneg h1 (show (0 : Int) ≤ n by omega)
      omega
    · have h3 : numT n (w.take k) + 1 ≤ ((n ^ k : Nat) : Int) := by omega
      have := Int.mul_le_mul_of_nonneg_right h3 (show (0 : Int) ≤ n by omega)
      rw [Int.add_mul, Int.one_mul] at this
      omega
/-- The numbers of the tuples that one move leads to. -/
def nbT (f s : List (List Int)) (m v : Nat) : List Nat := (List.range (m - 1)).map fun i => (numT f.length (dW f s (digT f.length m v) i)).toNat
@[simp] theorem nbT_length (f s : List (List Int)) (m v : Nat) : (nbT f s m v).length = m - 1 := by simp [nbT]
/-- The last c digits. -/
def digP (n m v c : Nat) : List Int := (List.range m).map fun j => if m - c ≤ j then ((v / n ^ (m - 1 - j) % n : Nat) : Int) else 0
@[simp] theorem digP_length (n m v c : Nat) : (digP n m v c).length = m := by simp [digP]
theorem digP_zero (n m v : Nat) : digP n m v 0 = List.replicate m 0 := by
  apply List.ext_getElem
  · simp
  · intro i h1 h2
    have : ¬ m ≤ i := by simpa using h1
    simp [digP, this]
theorem digP_all (n m v : Nat) : digP n m v m = digT n m v := by
  apply List.map_congr_left
  intro j _
  rw [if_pos (by omega)]
theorem digP_succ {n m v c : Nat} (hc : c < m) : (digP n m v c).set (m - 1 - c) ((v / n ^ c % n : Nat) : Int) = digP n m v (c + 1) := by
  apply List.ext_getElem
  · simp
  · intro i h1 h2
    simp only [digP_length] at h2
    simp only [List.getElem_set, digP, List.getElem_map, List.getElem_range]
    by_cases hi : m - 1 - c = i
    · rw [if_pos hi, if_pos (by omega), show m - 1 - i = c from by omega]
    · rw [if_neg hi]
      by_cases h3 : m - c ≤ i
      · rw [if_pos h3, if_pos (by omega)]
      · rw [if_neg h3, if_neg (by omega)]
theorem div_le' (v c n : Nat) : v / n ^ c ≤ v := Nat.div_le_self _ _
def S_digI (pg : Pg) : Prop := ∀ n m v : Nat, 0 < n → n ≤ 1048576 → m ≤ 1048576 → v ≤ 1048576 → Call pg 262 [I n, I m, I v] [I n, I m, I v] (.mem .own (some 1) ((digT n m v).map I))
theorem t_tupleOf {pg : Pg} (hp : pg.fn 262 = some c_impl_tupleOf) : S_digI pg := by
  intro n m v hn hn2 hm hv
  refine Call.intro hp rfl (by simp) ?_
  show wp _ _ c_impl_tupleOf.body (post [.t 6] _ _ _) _
  have hn1 : ¬ n = 0 := by omega
  simp [c_impl_tupleOf]
  refine ⟨by unfold roomy; omega, by omega, ?_⟩
  refine wpLoop_count (fun c e => e = fr [(0, some (.val (I n))), (2, some (.val (I ((v / n ^ c : Nat) : Int)))), (7, some (.val (.mem .own (some 1) ((digP n m v c).map I)))), (8, some (.val (I ((m : Int) - 1 - c))))]) m ?_ ?_ 0 _ (by omega) ?_
  · rintro c e hc rfl
    have hj : (m : Int) - 1 - c = ((m - 1 - c : Nat) : Int) := by omega
    have hs := digP_succ (n := n) (v := v) hc
    have hd := div_le' v c n
    have hd2 := div_le' v (c + 1) n
    have hmod : ((v / n ^ c : Nat) : Int).tmod n = ((v / n ^ c % n : Nat) : Int) := by
      rw [Int.tmod_eq_emod_of_nonneg (Int.natCast_nonneg _)]; exact (Int.natCast_emod ..).symm
    have hdiv : ((v / n ^ c : Nat) : Int).tdiv n = ((v / n ^ (c + 1) : Nat) : Int) := by
      rw [Int.tdiv_eq_ediv_of_nonneg (Int.natCast_nonneg _), Nat.pow_succ, ← Nat.div_div_eq_div_mul]; exact (Int.natCast_ediv ..).symm
    rw [hj]
    rw [show (m : Int) - 1 - ((c + 1 : Nat) : Int) = ((m - 1 - c : Nat) : Int) - 1 from by omega, ← hs]
    have hjm : m - 1 - c < m := by omega
    generalize m - 1 - c = j at *
    generalize v / n ^ c % n = a at *
    generalize v / n ^ (c + 1) = b at *
    generalize v / n ^ c = g at *
    simp [hn1, hmod, hdiv, hjm]
    omega
  · rintro e rfl
    have hneg : ¬ ((m : Int) ≤ (m : Int) - 1) := by omega
    simp [digP_all, hneg]
  · simp [digP_zero]

def S_numI (pg : Pg) : Prop := ∀ (n : Nat) (w : List Int), inN n w → n ≤ 1048576 → w.length ≤ 1048576 → n ^ w.length ≤ 1048576 → Call pg 263 [I n, ix w] [I n, ix w] (I (numT n w))
theorem pow_le_len {n : Nat} {w : List Int} (hw : inN n w) (h : n ^ w.length ≤ 1048576) {k : Nat} (hk : k ≤ w.length) : n ^ k ≤ 1048576 := by
  rcases Nat.eq_zero_or_pos n with h0 | h0
  · subst h0
    cases k with
    | zero => simp
    | succ k => simp
  · exact Nat.le_trans (Nat.pow_le_pow_right h0 hk) h
theorem num_step {n : Nat} {w : List Int} (hw : inN n w) (hn : n ≤ 1048576) (h : n ^ w.length ≤ 1048576) {k : Nat} (hk : k < w.length) :
    0 ≤ numT n (w.take k) * n ∧ numT n (w.take k) * n ≤ 1099511627776 ∧ 0 ≤ w[k] ∧ w[k] < n ∧ numT n (w.take (k + 1)) = numT n (w.take k) * n + w[k] := by
  obtain ⟨h1, h2⟩ := numT_rng hw k (by omega)
  have h3 := pow_le_len hw h (show k ≤ w.length by omega)
  have hx := hw _ (List.getElem_mem hk)
  refine ⟨Int.mul_nonneg h1 (by omega), ?_, hx.1, hx.2, by rw [List.take_succ_eq_append_getElem hk, numT_snoc]⟩
  have : numT n (w.take k) * n ≤ 1048576 * 1048576 := Int.mul_le_mul (by omega) (by omega) (by omega) (by omega)
  omega
theorem t_numberOf {pg : Pg} (hp : pg.fn 263 = some c_impl_numberOf) : S_numI pg := by
  intro n w hw hn hl h
  refine Call.intro hp rfl (by simp) ?_
  show wp _ _ c_impl_numberOf.body (post [.t 4] _ _ _) _
  simp [c_impl_numberOf]
  refine wpLoop_count (fun k e => e = fr [(0, some (.val (I n))), (5, some (.val (I (numT n (w.take k))))), (8, some (.val (ix w))), (9, some (.val (I w.length))), (10, some (.val (I k)))]) w.length ?_ ?_ 0 _ (by omega) ?_
  · rintro k e hk rfl
    obtain ⟨a1, a2, a3, a4, a5⟩ := num_step hw hn h hk
    simp [hk, a5]
    omega
  · rintro e rfl
    simp
  · simp [numT]

/-! ### CountTupleOrbits -/

def nI (l : List Nat) : List Int := l.map fun x : Nat => (x : Int)
@[simp] theorem nI_length (l : List Nat) : (nI l).length = l.length := by simp [nI]
@[simp] theorem nI_append (a b : List Nat) : nI (a ++ b) = nI a ++ nI b := by simp [nI]
@[simp] theorem nI_nil : nI [] = [] := rfl
@[simp] theorem nI_cons (x : Nat) (l : List Nat) : nI (x :: l) = (x : Int) :: nI l := rfl
def ctOk (f : List (List Int)) (p : Int) : Prop := (0 ≤ p ∧ p ≤ 12) ∧ f.length ^ p.toNat ≤ 5000
instance (f : List (List Int)) (p : Int) : Decidable (ctOk f p) := by unfold ctOk; infer_instance
theorem pow_step {n k m : Nat} (hn : 0 < n) (hk : k < m) (h : 5000 < n ^ (k + 1)) : ¬ n ^ m ≤ 5000 := by
  have := Nat.pow_le_pow_right hn (show k + 1 ≤ m by omega)
  omega

end Go.Mch
/- The solution on a closed set, of the reference and of the program. -/
namespace Go.Mch

/-- Rows that were appended to nil. -/
def rowN (X : List (List Int)) : T := if X = [] then nil else .mem .own (some 1) (rows X)
theorem rowN_ne {X : List (List Int)} (h : X ≠ []) : rowN X = .mem .own (some 1) (rows X) := by simp [rowN, h]
/-! ### SubSolution -/

end Go.Mch
/- NormalWords: what is computed, and the walks of the searches. -/
namespace Go.Mch

/-- The class of the word with a number. -/
noncomputable def clV (f s : List (List Int)) (k v : Nat) : List (List Int) := lso (cO f s (digT f.length k v) 5000)
def markL (n : Nat) (seen : List Bool) (X : List (List Int)) : List Bool := X.foldl (fun l x => l.set (numT n x).toNat true) seen
@[simp] theorem markL_length (n : Nat) (X : List (List Int)) : ∀ seen : List Bool, (markL n seen X).length = seen.length := by
  induction X with
  | nil => intro _; rfl
  | cons x X ih => intro seen; simp only [markL, List.foldl_cons] at ih ⊢; rw [ih]; simp
theorem markL_snoc (n : Nat) (seen : List Bool) (X : List (List Int)) (x : List Int) : markL n seen (X ++ [x]) = (markL n seen X).set (numT n x).toNat true := by simp [markL]
/-- What has been seen, and the words, when v numbers are done. -/
noncomputable def nrmS (f s : List (List Int)) (k : Nat) : Nat → List Bool × List (List Int)
  | 0 => (List.replicate (f.length ^ k) false, [])
  | v + 1 => if (nrmS f s k v).1.getD v false then nrmS f s k v else (markL f.length (nrmS f s k v).1 (clV f s k v), (nrmS f s k v).2 ++ [digT f.length k v])
@[simp] theorem nrmS_length (f s : List (List Int)) (k v : Nat) : (nrmS f s k v).1.length = f.length ^ k := by
  induction v with
  | zero => simp [nrmS]
  | succ v ih => unfold nrmS; split <;> simp [ih]
theorem nrmS_words (f s : List (List Int)) (k v : Nat) : (nrmS f s k v).2.length ≤ v ∧ ∀ x ∈ (nrmS f s k v).2, ∃ u, x = digT f.length k u := by
  induction v with
  | zero => simp [nrmS]
  | succ v ih =>
    unfold nrmS
    split
    · exact ⟨by omega, ih.2⟩
    · refine ⟨by simp; omega, fun x hx => ?_⟩
      rcases List.mem_append.1 hx with h1 | h1
      · exact ih.2 x h1
      · rw [List.mem_singleton] at h1; exact ⟨v, h1⟩
noncomputable def nrm (f s : List (List Int)) (k : Nat) : List (List Int) := (nrmS f s k (f.length ^ k)).2
theorem nrm_len (f s : List (List Int)) (k : Nat) : (nrm f s k).length ≤ f.length ^ k := (nrmS_words f s k _).1
theorem nrm_row {f s : List (List Int)} {k : Nat} {x : List Int} (hx : x ∈ nrm f s k) : x.length = k := by
  obtain ⟨u, rfl⟩ := (nrmS_words f s k _).2 x hx
  simp
theorem cl_spec {f s : List (List Int)} (h : isSol f s) (k v : Nat) : (clV f s k v).length ≤ 5000 ∧ ∀ x ∈ clV f s k v, inN f.length x ∧ x.length = k ∧ (numT f.length x).toNat < f.length ^ k ∧ 0 ≤ numT f.length x := by
  have h0 := (PM.of h.1).pos
  unfold clV
  cases hg : cO f s (digT f.length k v) 5000 with
  | none => simp
  | some Z =>
    have hZ := cO_len h (digT_rng h0) hg
    refine ⟨hZ.1, fun x hx => ?_⟩
    obtain ⟨h1, h2⟩ := hZ.2.1 x hx
    rw [digT_length] at h2
    have := numT_rng h1 k (by omega)
    rw [List.take_of_length_le (by omega)] at this
    exact ⟨h1, h2, by omega, this.1⟩
def boolT (l : List Bool) : List T := l.map B
@[simp] theorem boolT_length (l : List Bool) : (boolT l).length = l.length := by simp [boolT]
theorem grp_lso (o : Option (List (List Int))) : (o = none ∧ grpT o = .tup [nil, B false]) ∨ ∃ X, o = some X ∧ grpT o = .tup [.mem .own (some 1) (rows X), B true] := by
  cases o with
  | none => exact .inl ⟨rfl, rfl⟩
  | some X => exact .inr ⟨X, rfl, rfl⟩
end Go.Mch
/- NormalWords: the searches' walks. -/
namespace Go.Mch

theorem pow_le {n k N : Nat} (h0 : 0 < n) (hN : n ^ k ≤ N) {j : Nat} (hj : j ≤ k) : n ^ j ≤ N := Nat.le_trans (Nat.pow_le_pow_right h0 hj) hN
def S_normals (pg : Pg) : Prop := ∀ (f s : List (List Int)) (k : Nat), isSol f s → k ≤ 8 → f.length ^ k ≤ 5000 → Call pg 296 [sol f s, I k] [sol f s, I k] (.mem .own (some 1) (rowsF (nrm f s k)))
set_option maxRecDepth 10000 in
theorem t_l09Normals {pg : Pg} (hp : pg.fn 296 = some c_spec_l09Normals) (h339 : S_class pg) : S_normals pg := by
  intro f s k h hk8 hN
  have hpm := PM.of h.1
  have h0 := hpm.pos
  have h12 := hpm.small
  have hn1 : ¬ f.length = 0 := by omega
  refine Call.intro hp rfl (by simp) ?_
  show wp _ _ c_spec_l09Normals.body (post [.t 4] _ _ _) _
  simp [c_spec_l09Normals]
  refine wpLoop_count (fun j e => e = fr [(1, some (.val (I k))), (2, some (.val (.mem .own none [tb f, tb s]))), (5, some (.val (I f.length))), (6, some (.val (I ((f.length ^ j : Nat) : Int)))), (7, some (.val (I j)))]) k ?_ ?_ 0 _ (by omega) ?_
  · rintro j e hj rfl
    have hmul : ((f.length ^ j : Nat) : Int) * f.length = ((f.length ^ (j + 1) : Nat) : Int) := by rw [Nat.pow_succ, Int.natCast_mul]
    have hb := pow_le h0 hN (show j + 1 ≤ k by omega)
    have hb2 := pow_le h0 hN (show j ≤ k by omega)
    generalize hA : f.length ^ j = A at *
    generalize hB : f.length ^ (j + 1) = A' at *
    simp [hj, hmul]
    omega
  · rintro e rfl
    have hcv := fun v => cl_spec h k v
    have hdg := fun v : Nat => digT_rng (n := f.length) (m := k) (v := v) h0
    have hcls := fun v : Nat => h339 f s (digT f.length k v) 5000 h (hdg v) (by rw [digT_length]; omega) (by omega) (by omega)
    have hlenS := nrmS_length f s k
    have hwds := nrmS_words f s k
    unfold nrm
    have hS0 : nrmS f s k 0 = (List.replicate (f.length ^ k) false, []) := rfl
    have hstep : ∀ v, nrmS f s k (v + 1) = if (nrmS f s k v).1.getD v false then nrmS f s k v else (markL f.length (nrmS f s k v).1 (clV f s k v), (nrmS f s k v).2 ++ [digT f.length k v]) := fun v => rfl
    generalize hNe : f.length ^ k = N at *
    simp
    refine ⟨by unfold roomy; omega, ?_⟩
    refine wpLoop_count (fun v e => e = fr [(1, some (.val (I k))), (2, some (.val (.mem .own none [tb f, tb s]))), (5, some (.val (I f.length))), (6, some (.val (I N))), (8, some (.val (.mem .own (some 1) ((nrmS f s k v).1.map B)))), (9, some (.val (.mem .own (some 1) (rowsF (nrmS f s k v).2)))), (10, some (.val (I v)))]) N ?_ ?_ 0 _ (by omega) ?_
    · rintro v e hv rfl
      have hSl := hlenS v
      have hwv := (hwds v).1
      have hcl := hcls v
      obtain ⟨hc1, hc2⟩ := hcv v
      rw [hstep]
      unfold clV at hc1 hc2 ⊢
      generalize cO f s (digT f.length k v) 5000 = o at *
      generalize nrmS f s k v = S at *
      have hkl : v < S.1.length := by omega
      have hg : S.1.getD v false = S.1[v] := by rw [List.getD_eq_getElem?_getD, List.getElem?_eq_getElem hkl]; rfl
      rw [hg]
      by_cases hb : S.1[v] = true
      · simp [hv, hkl, hb]
        omega
      · have hb' : S.1[v] = false := by simpa using hb
        simp [hv, hkl, hb']
        refine ⟨by unfold roomy; omega, by omega, ?_⟩
        refine wpLoop_count (fun c e => e = fr [(1, some (.val (I k))), (2, some (.val (.mem .own none [tb f, tb s]))), (5, some (.val (I f.length))), (6, some (.val (I N))), (8, some (.val (.mem .own (some 1) (S.1.map B)))), (9, some (.val (.mem .own (some 1) (rowsF S.2)))), (10, some (.val (I v))), (11, some (.val (.mem .own (some 1) ((digP f.length k v c).map I)))), (12, some (.val (I ((v / f.length ^ c : Nat) : Int)))), (13, some (.val (I ((k : Int) - 1 - c))))]) k ?_ ?_ 0 _ (by omega) ?_
        · rintro c e hc rfl
          have hj : (k : Int) - 1 - c = ((k - 1 - c : Nat) : Int) := by omega
          have hs := digP_succ (n := f.length) (v := v) hc
          have hd := div_le' v c f.length
          have hd2 := div_le' v (c + 1) f.length
          have hmod : ((v / f.length ^ c : Nat) : Int).tmod f.length = ((v / f.length ^ c % f.length : Nat) : Int) := by
            rw [Int.tmod_eq_emod_of_nonneg (Int.natCast_nonneg _)]; exact (Int.natCast_emod ..).symm
          have hdiv : ((v / f.length ^ c : Nat) : Int).tdiv f.length = ((v / f.length ^ (c + 1) : Nat) : Int) := by
            rw [Int.tdiv_eq_ediv_of_nonneg (Int.natCast_nonneg _), Nat.pow_succ, ← Nat.div_div_eq_div_mul]; exact (Int.natCast_ediv ..).symm
          rw [hj]
          rw [show (k : Int) - 1 - ((c + 1 : Nat) : Int) = ((k - 1 - c : Nat) : Int) - 1 from by omega, ← hs]
          have hjm : k - 1 - c < k := by omega
          generalize k - 1 - c = j at *
          generalize v / f.length ^ c % f.length = a at *
          generalize v / f.length ^ (c + 1) = b at *
          generalize v / f.length ^ c = g at *
          simp [hn1, hmod, hdiv, hjm]
          omega
        · rintro e rfl
          have hneg : ¬ ((k : Int) ≤ (k : Int) - 1) := by omega
          rw [digP_all]
          generalize digT f.length k v = W at *
          have hro : S.2.length + 1 ≤ roomy := by unfold roomy; omega
          simp [hneg, hro]
          rcases grp_lso o with ⟨rfl, ho⟩ | ⟨X, rfl, ho⟩
          · rw [ho] at hcl
            refine callR hcl rfl rfl (fun _ => by simp) ?_
            rw [rowsF_snoc]
            simp
            refine wpLoop_count (fun j e => e = fr [(1, some (.val (I k))), (2, some (.val (.mem .own none [tb f, tb s]))), (5, some (.val (I f.length))), (6, some (.val (I N))), (8, some (.val (.mem .own (some 1) (S.1.map B)))), (9, some (.val (.mem .own (some 1) (rowsF S.2 ++ [.mem .fresh (some 1) (W.map I)])))), (10, some (.val (I v))), (14, some (.val nil)), (16, some (.val (I j)))]) 0 ?_ ?_ 0 _ (by omega) ?_
            · intro j e hj
              omega
            · rintro e rfl
              simp [markL]
              omega
            · simp
          · rw [ho] at hcl
            simp only [lso_some] at hc1 hc2 ⊢
            refine callR hcl rfl rfl (fun _ => by simp) ?_
            rw [← rowsF_snoc]
            generalize S.2 ++ [W] = S2 at *
            simp
            refine wpLoop_count (fun j e => e = fr [(1, some (.val (I k))), (2, some (.val (.mem .own none [tb f, tb s]))), (5, some (.val (I f.length))), (6, some (.val (I N))), (8, some (.val (.mem .own (some 1) ((markL f.length S.1 (X.take j)).map B)))), (9, some (.val (.mem .own (some 1) (rowsF S2)))), (10, some (.val (I v))), (14, some (.val (.mem .own (some 1) (rows X)))), (16, some (.val (I j)))]) X.length ?_ ?_ 0 _ (by omega) ?_
            · rintro j e hj rfl
              obtain ⟨x1, x2, x3, x4⟩ := hc2 _ (List.getElem_mem hj)
              have hmk := markL_snoc f.length S.1 (X.take j) X[j]
              rw [← List.take_succ_eq_append_getElem hj] at hmk
              have hml := markL_length f.length (X.take j) S.1
              rw [hmk]
              generalize markL f.length S.1 (X.take j) = Mk at *
              have hpw : f.length ^ X[j].length ≤ 1048576 := by rw [x2, hNe]; omega
              simp [hj]
              refine wpLoop_count (fun c e => e = fr [(1, some (.val (I k))), (2, some (.val (.mem .own none [tb f, tb s]))), (5, some (.val (I f.length))), (6, some (.val (I N))), (8, some (.val (.mem .own (some 1) (Mk.map B)))), (9, some (.val (.mem .own (some 1) (rowsF S2)))), (10, some (.val (I v))), (14, some (.val (.mem .own (some 1) (rows X)))), (16, some (.val (I j))), (17, some (.val (I (numT f.length (X[j].take c))))), (18, some (.val (I c)))]) X[j].length ?_ ?_ 0 _ (by omega) ?_
              · rintro c e hc rfl
                obtain ⟨a1, a2, a3, a4, a5⟩ := num_step x1 (by omega) hpw hc
                simp [hj, hc, a5]
                omega
              · rintro e rfl
                have hlt : (numT f.length X[j]).toNat < Mk.length := by omega
                have hlt2 : numT f.length X[j] < Mk.length := by omega
                simp [hj, x4, hlt, hlt2]
                omega
              · simp [numT]
            · rintro e rfl
              simp
              omega
            · simp [markL]
        · simp [digP_zero]
    · rintro e rfl
      simp
    · rw [hS0]
      simp [rowsF]
  · rfl

/-! ### The program -/

theorem frz_grp (X : List (List Int)) : T.frz .fresh (.tup [.mem .own (some 1) (rows X), B true]) = .tup [.mem .fresh (some 1) (rowsF X), B true] := by
  show T.tup [T.mem .fresh (some 1) (T.frzL .fresh (rows X)), B true] = _
  rw [frzRowsF]
theorem frz_gno : T.frz .fresh (.tup [nil, B false]) = .tup [nil, B false] := rfl
def S_normI (pg : Pg) : Prop := ∀ (f s : List (List Int)) (k : Nat), fits f → fits s → isSol f s → k ≤ 8 → f.length ^ k ≤ 5000 → Call pg 294 [sol f s, I k, I ((f.length ^ k : Nat) : Int)] [sol f s, I k, I ((f.length ^ k : Nat) : Int)] (rowN (nrm f s k))
set_option maxRecDepth 10000 in
theorem t_normalWords {pg : Pg} (hp : pg.fn 294 = some c_impl_normalWords) (h262 : S_digI pg) (h352 : S_wordClass pg) (h263 : S_numI pg) : S_normI pg := by
  intro f s k hff hfs h hk8 hN
  have hpm := PM.of h.1
  have h0 := hpm.pos
  have h12 := hpm.small
  have hcv := fun v => cl_spec h k v
  have hdg := fun v : Nat => digT_rng (n := f.length) (m := k) (v := v) h0
  have hcls := fun v : Nat => h352 f s (digT f.length k v) 5000 hff hfs h (hdg v) (by rw [digT_length]; omega) (by omega) (by omega)
  have hlenS := nrmS_length f s k
  have hwds := nrmS_words f s k
  unfold nrm
  have hS0 : nrmS f s k 0 = (List.replicate (f.length ^ k) false, []) := rfl
  have hstep : ∀ v, nrmS f s k (v + 1) = if (nrmS f s k v).1.getD v false then nrmS f s k v else (markL f.length (nrmS f s k v).1 (clV f s k v), (nrmS f s k v).2 ++ [digT f.length k v]) := fun v => rfl
  generalize hNe : f.length ^ k = N at *
  refine Call.intro hp rfl (by simp) ?_
  show wp _ _ c_impl_normalWords.body (post [.t 6] _ _ _) _
  simp [c_impl_normalWords]
  refine ⟨by unfold roomy; omega, ?_⟩
  refine wpLoop_count (fun v e => e = fr [(1, some (.val (I k))), (3, some (.val (.mem .own none [tb f, tb s]))), (7, some (.val (I f.length))), (8, some (.val (.mem .own (some 1) ((nrmS f s k v).1.map B)))), (9, some (.val (rowN (nrmS f s k v).2))), (22, some (.val (I N))), (23, some (.val (I v)))]) N ?_ ?_ 0 _ (by omega) ?_
  · rintro v e hv rfl
    have hSl := hlenS v
    have hwv := (hwds v).1
    have hcl := hcls v
    have hdc := h262 f.length k v h0 (by omega) (by omega) (by omega)
    obtain ⟨hc1, hc2⟩ := hcv v
    rw [hstep]
    unfold clV at hc1 hc2 ⊢
    generalize cO f s (digT f.length k v) 5000 = o at *
    generalize nrmS f s k v = S at *
    have hkl : v < S.1.length := by omega
    have hg : S.1.getD v false = S.1[v] := by rw [List.getD_eq_getElem?_getD, List.getElem?_eq_getElem hkl]; rfl
    rw [hg]
    by_cases hb : S.1[v] = true
    · simp [hv, hkl, hb]
      omega
    · have hb' : S.1[v] = false := by simpa using hb
      simp [hv, hkl, hb']
      refine callR hdc rfl rfl (fun _ => by simp) ?_
      generalize digT f.length k v = W at *
      have hro : S.2.length + 1 ≤ roomy := by unfold roomy; omega
      have hne : S.2 ++ [W] ≠ [] := by simp
      rw [rowN_ne hne]
      by_cases hS2 : S.2 = []
      · rw [show rowN S.2 = nil from by simp [rowN, hS2]]
        simp [roomy]
        rw [show [T.mem .own (some 1) (List.map I W)] = rows (S.2 ++ [W]) from by simp [hS2, rows]]
        have hS2l : (S.2 ++ [W]).length = 1 := by simp [hS2]
        generalize S.2 ++ [W] = S2 at *
        rcases grp_lso o with ⟨rfl, ho⟩ | ⟨X, rfl, ho⟩
        · rw [ho] at hcl
          refine callR hcl rfl rfl (fun _ => by simp) ?_
          simp [frz_gno, hS2l]
          refine wpLoop_count (fun j e => e = fr [(1, some (.val (I k))), (3, some (.val (.mem .own none [tb f, tb s]))), (7, some (.val (I f.length))), (8, some (.val (.mem .own (some 1) (S.1.map B)))), (9, some (.val (.mem .own (some 1) (rows S2)))), (22, some (.val (I N))), (23, some (.val (I v))), (44, some (.val nil)), (45, some (.val (I 0))), (46, some (.val (I j)))]) 0 ?_ ?_ 0 _ (by omega) ?_
          · intro j e hj
            omega
          · rintro e rfl
            simp [markL]
            omega
          · simp
        · rw [ho] at hcl
          simp only [lso_some] at hc1 hc2 ⊢
          refine callR hcl rfl rfl (fun _ => by simp) ?_
          simp [frz_grp, hS2l]
          refine wpLoop_count (fun j e => e = fr [(1, some (.val (I k))), (3, some (.val (.mem .own none [tb f, tb s]))), (7, some (.val (I f.length))), (8, some (.val (.mem .own (some 1) ((markL f.length S.1 (X.take j)).map B)))), (9, some (.val (.mem .own (some 1) (rows S2)))), (22, some (.val (I N))), (23, some (.val (I v))), (44, some (.val (.mem .fresh (some 1) (rowsF X)))), (45, some (.val (I X.length))), (46, some (.val (I j)))]) X.length ?_ ?_ 0 _ (by omega) ?_
          · rintro j e hj rfl
            obtain ⟨x1, x2, x3, x4⟩ := hc2 _ (List.getElem_mem hj)
            have hmk := markL_snoc f.length S.1 (X.take j) X[j]
            rw [← List.take_succ_eq_append_getElem hj] at hmk
            have hml := markL_length f.length (X.take j) S.1
            rw [hmk]
            generalize markL f.length S.1 (X.take j) = Mk at *
            have hpw : f.length ^ X[j].length ≤ 1048576 := by rw [x2, hNe]; omega
            have hnm := h263 f.length X[j] x1 (by omega) (by omega) hpw
            have hlt : (numT f.length X[j]).toNat < Mk.length := by omega
            have hlt2 : numT f.length X[j] < Mk.length := by omega
            simp [hj]
            refine callR hnm rfl rfl (fun _ => rfl) ?_
            simp [x4, hlt, hlt2]
            omega
          · rintro e rfl
            simp
            omega
          · simp [markL]
      · rw [rowN_ne hS2]
        simp [hro]
        rw [show rows S.2 ++ [T.mem .own (some 1) (List.map I W)] = rows (S.2 ++ [W]) from by simp [rows]]
        have hS2l : (S.2 ++ [W]).length = S.2.length + 1 := by simp
        generalize S.2 ++ [W] = S2 at *
        rcases grp_lso o with ⟨rfl, ho⟩ | ⟨X, rfl, ho⟩
        · rw [ho] at hcl
          refine callR hcl rfl rfl (fun _ => by simp) ?_
          simp [frz_gno, hS2l]
          refine wpLoop_count (fun j e => e = fr [(1, some (.val (I k))), (3, some (.val (.mem .own none [tb f, tb s]))), (7, some (.val (I f.length))), (8, some (.val (.mem .own (some 1) (S.1.map B)))), (9, some (.val (.mem .own (some 1) (rows S2)))), (22, some (.val (I N))), (23, some (.val (I v))), (44, some (.val nil)), (45, some (.val (I 0))), (46, some (.val (I j)))]) 0 ?_ ?_ 0 _ (by omega) ?_
          · intro j e hj
            omega
          · rintro e rfl
            simp [markL]
            omega
          · simp
        · rw [ho] at hcl
          simp only [lso_some] at hc1 hc2 ⊢
          refine callR hcl rfl rfl (fun _ => by simp) ?_
          simp [frz_grp, hS2l]
          refine wpLoop_count (fun j e => e = fr [(1, some (.val (I k))), (3, some (.val (.mem .own none [tb f, tb s]))), (7, some (.val (I f.length))), (8, some (.val (.mem .own (some 1) ((markL f.length S.1 (X.take j)).map B)))), (9, some (.val (.mem .own (some 1) (rows S2)))), (22, some (.val (I N))), (23, some (.val (I v))), (44, some (.val (.mem .fresh (some 1) (rowsF X)))), (45, some (.val (I X.length))), (46, some (.val (I j)))]) X.length ?_ ?_ 0 _ (by omega) ?_
          · rintro j e hj rfl
            obtain ⟨x1, x2, x3, x4⟩ := hc2 _ (List.getElem_mem hj)
            have hmk := markL_snoc f.length S.1 (X.take j) X[j]
            rw [← List.take_succ_eq_append_getElem hj] at hmk
            have hml := markL_length f.length (X.take j) S.1
            rw [hmk]
            generalize markL f.length S.1 (X.take j) = Mk at *
            have hpw : f.length ^ X[j].length ≤ 1048576 := by rw [x2, hNe]; omega
            have hnm := h263 f.length X[j] x1 (by omega) (by omega) hpw
            have hlt : (numT f.length X[j]).toNat < Mk.length := by omega
            have hlt2 : numT f.length X[j] < Mk.length := by omega
            simp [hj]
            refine callR hnm rfl rfl (fun _ => rfl) ?_
            simp [x4, hlt, hlt2]
            omega
          · rintro e rfl
            simp
            omega
          · simp [markL]
  · rintro e rfl
    by_cases hS2 : (nrmS f s k N).2 = []
    · simp [rowN, hS2]
    · simp [rowN_ne hS2]
  · rw [hS0]
    simp [rowN]
end Go.Mch
/- CountClasses. -/
namespace Go.Mch

def nmOk (f : List (List Int)) (p : Int) : Prop := (0 ≤ p ∧ p ≤ 8) ∧ f.length ^ p.toNat ≤ 5000
instance (f : List (List Int)) (p : Int) : Decidable (nmOk f p) := by unfold nmOk; infer_instance
open Classical in
noncomputable def nmR (f s : List (List Int)) (p : Int) : List (List Int) := if isSol f s ∧ nmOk f p then nrm f s p.toNat else []
open Classical in
noncomputable def nmC (f s : List (List Int)) (p : Int) : Int := if isSol f s then if 0 ≤ p ∧ p ≤ 8 then if f.length ^ p.toNat ≤ 5000 then 0 else 3 else 2 else 1
def S_many (pg : Pg) : Prop := ∀ (f s : List (List Int)) (p : Int), fits f → fits s → Call pg 295 [sol f s, I p] [sol f s, I p] (I (nmC f s p))
theorem t_l09Many {pg : Pg} (hp : pg.fn 295 = some c_spec_l09Many) (h41 : S_isSol pg 41) (h30 : S_in pg 30) : S_many pg := by
  intro f s p hf hs
  refine Call.intro hp rfl (by simp) ?_
  show wp _ _ c_spec_l09Many.body (post [.t 4] _ _ _) _
  simp [c_spec_l09Many]
  refine callR (h41 f s hf hs) rfl rfl (fun _ => rfl) ?_
  by_cases h : isSol f s
  · have hpm := PM.of h.1
    have h0 := hpm.pos
    have h12 := hpm.small
    simp [dec_true h]
    refine callR (h30 p 0 8) rfl rfl (fun _ => rfl) ?_
    by_cases h1 : 0 ≤ p ∧ p ≤ 8
    · simp [h1]
      obtain ⟨m, rfl⟩ := Int.eq_ofNat_of_zero_le h1.1
      have hm8 : m ≤ 8 := by omega
      have hbig : f.length ^ m ≤ 429981696 := Nat.le_trans (Nat.pow_le_pow_left h12 m) (Nat.le_trans (Nat.pow_le_pow_right (by omega) hm8) (by decide))
      have hpw : ∀ j, j ≤ m → f.length ^ j ≤ 429981696 := fun j hj => Nat.le_trans (Nat.pow_le_pow_right h0 hj) hbig
      refine wpLoop_count (fun j e => e = fr [(1, some (.val (I m))), (2, some (.val (.mem .own none [tb f, tb s]))), (5, some (.val (I ((f.length ^ j : Nat) : Int)))), (6, some (.val (I j)))]) m ?_ ?_ 0 _ (by omega) ?_
      · rintro j e hj rfl
        have hmul : ((f.length ^ j : Nat) : Int) * f.length = ((f.length ^ (j + 1) : Nat) : Int) := by rw [Nat.pow_succ, Int.natCast_mul]
        have hb := hpw (j + 1) (by omega)
        generalize hA : f.length ^ j = A at *
        generalize hB : f.length ^ (j + 1) = A' at *
        simp [hj, hmul]
        omega
      · rintro e rfl
        have e1 : nmC f s m = if f.length ^ m ≤ 5000 then 0 else 3 := by simp [nmC, h, h1]
        rw [e1]
        generalize f.length ^ m = A at *
        by_cases h5 : A ≤ 5000
        · have h5' : ¬ (5000 : Int) < A := by omega
          simp [h5, h5']
        · have h5' : (5000 : Int) < A := by omega
          simp [h5, h5']
      · rfl
    · have e2 : nmC f s p = 2 := by simp [nmC, h, h1]
      simp [h1, e2]
  · have e1 : nmC f s p = 1 := by simp [nmC, h]
    simp [dec_false h, e1]
theorem nm_0 {f s : List (List Int)} {p : Int} (h : nmC f s p = 0) : isSol f s ∧ nmOk f p := by
  unfold nmC at h
  split at h
  · rename_i h1
    split at h
    · rename_i h2
      split at h
      · rename_i h3; exact ⟨h1, h2, h3⟩
      · omega
    · omega
  · omega
theorem nm_ne {f s : List (List Int)} {p : Int} (h : nmC f s p ≠ 0) : nmR f s p = [] := by
  unfold nmR
  split
  · rename_i h1
    exact absurd (by simp [nmC, h1.1, h1.2.1, h1.2.2]) h
  · rfl
/-- NormalWords, of the program. -/
def S_nmF (pg : Pg) : Prop := ∀ (f s : List (List Int)) (p : Int), fits f → fits s → Call pg 155 [sol f s, I p] [sol f s, I p] (.tup [rowN (nmR f s p), I (nmC f s p)])
set_option maxRecDepth 10000 in
theorem t_NormalWords {pg : Pg} (hp : pg.fn 155 = some c_impl_NormalWords) (h42 : S_isSol pg 42) (h35 : S_in pg 35) (h294 : S_normI pg) : S_nmF pg := by
  intro f s p hf hs
  refine Call.intro hp rfl (by simp) ?_
  show wp _ _ c_impl_NormalWords.body (post [.t 4, .t 5] _ _ _) _
  simp [c_impl_NormalWords]
  refine callR (h42 f s hf hs) rfl rfl (fun _ => rfl) ?_
  by_cases h : isSol f s
  · have hpm := PM.of h.1
    have h0 := hpm.pos
    have h12 := hpm.small
    simp [dec_true h]
    refine callR (h35 p 0 8) rfl rfl (fun _ => rfl) ?_
    by_cases h1 : 0 ≤ p ∧ p ≤ 8
    · simp [h1]
      obtain ⟨m, rfl⟩ := Int.eq_ofNat_of_zero_le h1.1
      have hm8 : m ≤ 8 := by omega
      refine wpLoop_count (fun j e => f.length ^ j ≤ 5000 ∧ e = fr [(1, some (.val (I m))), (2, some (.val (.mem .own none [tb f, tb s]))), (6, some (.val (I ((f.length ^ j : Nat) : Int)))), (13, some (.val (I m))), (14, some (.val (I j)))]) m ?_ ?_ 0 _ (by omega) ?_
      · rintro j e hj ⟨hk5, rfl⟩
        have hmul : ((f.length ^ j : Nat) : Int) * f.length = ((f.length ^ (j + 1) : Nat) : Int) := by rw [Nat.pow_succ, Int.natCast_mul]
        have hb : f.length ^ (j + 1) ≤ 60000 := by
          rw [Nat.pow_succ]
          exact Nat.le_trans (Nat.mul_le_mul hk5 h12) (by omega)
        have hno := fun h5 : 5000 < f.length ^ (j + 1) => pow_step h0 hj h5
        generalize hA : f.length ^ j = A at *
        generalize hB : f.length ^ (j + 1) = A' at *
        simp [hj, hmul]
        by_cases h5 : A' ≤ 5000
        · have h5' : ¬ (5000 : Int) < A' := by omega
          simp [h5']
          omega
        · have h5' : (5000 : Int) < A' := by omega
          have hn := hno (by omega)
          have e2 : nmC f s m = 3 := by simp [nmC, h, h1, hn]
          simp [h5', e2, nm_ne (f := f) (s := s) (p := m) (by omega), rowN]
          omega
      · rintro e ⟨hk5, rfl⟩
        have e1 : nmR f s m = nrm f s m := by simp [nmR, h, nmOk, hk5]; omega
        have e2 : nmC f s m = 0 := by simp [nmC, h, h1, hk5]
        have hc := h294 f s m hf hs h hm8 hk5
        rw [e1, e2]
        generalize nrm f s m = Z at *
        by_cases hZ : Z = []
        · subst hZ
          simp
          refine callR hc rfl rfl (fun _ => by simp [rowN]) ?_
          simp [rowN]
        · rw [rowN_ne hZ] at hc ⊢
          simp
          refine callR hc rfl rfl (fun _ => by simp) ?_
          simp
      · exact ⟨by simp, rfl⟩
    · have e2 : nmC f s p = 2 := by simp [nmC, h, h1]
      simp [h1, e2, nm_ne (f := f) (s := s) (p := p) (by omega), rowN]
  · have e1 : nmC f s p = 1 := by simp [nmC, h]
    simp [dec_false h, e1, nm_ne (f := f) (s := s) (p := p) (by omega), rowN]
end Go.Mch
/- The runs of laws whose reference hands back what is frozen: pT. -/
namespace Go.Mch
def fshT : Option (List (List Int)) → T
  | none => nil
  | some X => .mem .own (some 1) (rowsF X)
/-- What the reference hands back is frozen. -/
def S_sh_pTf (pg : Pg) (n : Nat) (Q0 : List (List Int) → List (List Int) → Int → Option (List (List Int))) (R1 : List (List Int) → List (List Int) → Int → Int) : Prop := ∀ (f0 s0 : List (List Int)) (p1 : Int), fits f0 → fits s0 → Call pg n [sol f0 s0, I p1] [sol f0 s0, I p1] (.tup [fshT (Q0 f0 s0 p1), I (R1 f0 s0 p1)])
set_option maxRecDepth 20000 in
theorem t_lw_pTf {pg : Pg} {n a b : Nat} {Q0 : List (List Int) → List (List Int) → Int → Option (List (List Int))} {R1 : List (List Int) → List (List Int) → Int → Int} (hp : pg.fn n = some (lw_pT a b)) (hA : S_sh_pTf pg a Q0 R1) (hB : S_sh_pT pg b (fun f s p => lso (Q0 f s p)) R1) (hz0 : ∀ (f0 s0 : List (List Int)) (p1 : Int), fits f0 → fits s0 → smallT (lso (Q0 f0 s0 p1))) (h14 : S_szSol pg) (h16 : S_toSol pg) (h18 : S_eqSol pg) (h22 : S_markSol pg) (h21 : S_eqT pg) (h23 : S_markT pg) (h24 : S_heldT pg) : S_lw_pT pg n := by
  intro a0 b0 p1 ha0 hb0
  refine ⟨[.agg [rawT a0, rawT b0], I p1], Call.intro hp rfl (by simp) ?_⟩
  obtain ⟨r, hr1, hr2, hsz⟩ := h14 a0 b0 1048576 ha0 hb0 (by omega) (by omega)
  have hto0 := h16 a0 b0 ha0 hb0
  have hfa0 := fitsT_of ha0
  have hfb0 := fitsT_of hb0
  generalize hF0 : (lst a0).map lst = F0 at *
  generalize hS0 : (lst b0).map lst = S0 at *
  have hc1 := hA F0 S0 p1 hfa0 hfb0
  obtain ⟨q0, g0, hc2⟩ := hB F0 S0 p1 hfa0 hfb0
  have hsm0 := hz0 F0 S0 p1 hfa0 hfb0
  have g0 : lso q0 = lso (Q0 F0 S0 p1) := g0
  rw [← g0] at hsm0
  have heq0 := g0
  clear g0
  generalize Q0 F0 S0 p1 = o0 at *
  generalize R1 F0 S0 p1 = o1 at *
  have hk0a := kAt_le (k := (1 : Int)) hfa0 F0.length (Nat.le_refl _)
  have hk0b := kAt_le (k := (kAt (1 : Int) F0 F0.length)) hfb0 S0.length (Nat.le_refl _)
  have hfl0 := hfa0.1
  have hsl0 := hfb0.1
  have hkN : ¬ (kAt (kAt (1 : Int) F0 F0.length) S0 S0.length) < 0 := by omega
  show wp _ _ (lw_pT a b).body (post [.t 4] _ _ _) _
  simp [lw_pT]
  refine callR hsz rfl rfl (fun _ => rfl) ?_
  by_cases hneg : r < 0
  · simp [hneg]
  · simp [hneg]
    cases o0 with
    | some X0 =>
      cases q0 with
      | some Y0 =>
        simp only [ownT, fshT, lso_some] at *
        subst heq0
        have hm0 := kAt_le (k := (1 : Int)) hsm0 Y0.length (Nat.le_refl _)
        have hy0 := hsm0.1
        have hn0 : ¬ (kAt (1 : Int) Y0 Y0.length) < 0 := by omega
        refine callR hto0 rfl rfl (fun _ => by simp) ?_
        simp
        refine callR hc1 rfl rfl (fun _ => by simp) ?_
        simp
        refine callR hto0 rfl rfl (fun _ => by simp) ?_
        simp
        refine callR hc2 rfl rfl (fun _ => by simp) ?_
        simp
        refine callR (h21.o (some Y0) (some Y0) hsm0) rfl rfl (fun _ => rfl) ?_
        simp
        refine callR hto0 rfl rfl (fun _ => by simp) ?_
        simp
        refine callR (h18.o F0 S0 F0 S0 hfa0 hfb0) rfl rfl (fun _ => rfl) ?_
        simp
        refine callM (ts' := [.agg [.mem .own (some 1) (rows (upT (1 : Int) F0)), .mem .own (some 1) (rows (upT (kAt (1 : Int) F0 F0.length) S0))], I (1 : Int)]) (r := I (kAt (kAt (1 : Int) F0 F0.length) S0 S0.length)) ?_ ?_ ?_ ?_
        · simp
        · simpa using h22 F0 S0 (1 : Int) hfa0 hfb0 (by omega) (by omega)
        · simp
        simp [hkN]
        refine callR (h21.o (some Y0) (some Y0) hsm0) rfl rfl (fun _ => rfl) ?_
        simp
        refine callM (ts' := [.mem .own (some 1) (rows (upT (1 : Int) Y0)), I (1 : Int)]) (r := I (kAt (1 : Int) Y0 Y0.length)) ?_ ?_ ?_ ?_
        · simp
        · simpa using h23.at Y0 (1 : Int) hsm0 (by omega) (by omega)
        · simp
        simp
        refine callR (h24.o (some (upT (1 : Int) Y0)) (1 : Int) (upT_small hsm0 (1 : Int)) (by omega) (by omega)) rfl rfl (fun _ => rfl) ?_
        simp [heldL_all, hn0]
        refine callR hto0 rfl rfl (fun _ => by simp) ?_
        simp
        refine callR hc2 rfl rfl (fun _ => by simp) ?_
        simp
        refine callR (h21.o (some Y0) (some Y0) hsm0) rfl rfl (fun _ => rfl) ?_
        simp
        refine callR (h24.o (some (upT (1 : Int) Y0)) (1 : Int) (upT_small hsm0 (1 : Int)) (by omega) (by omega)) rfl rfl (fun _ => rfl) ?_
        simp [heldL_all, hn0]
      | none =>
        simp only [ownT, fshT, lso_some, lso_none] at *
        subst heq0
        refine callR hto0 rfl rfl (fun _ => by simp) ?_
        simp
        refine callR hc1 rfl rfl (fun _ => by simp) ?_
        simp
        refine callR hto0 rfl rfl (fun _ => by simp) ?_
        simp
        refine callR hc2 rfl rfl (fun _ => by simp) ?_
        simp
        refine callR (h21.o none (some []) hsm0) rfl rfl (fun _ => rfl) ?_
        simp
        refine callR hto0 rfl rfl (fun _ => by simp) ?_
        simp
        refine callR (h18.o F0 S0 F0 S0 hfa0 hfb0) rfl rfl (fun _ => rfl) ?_
        simp
        refine callM (ts' := [.agg [.mem .own (some 1) (rows (upT (1 : Int) F0)), .mem .own (some 1) (rows (upT (kAt (1 : Int) F0 F0.length) S0))], I (1 : Int)]) (r := I (kAt (kAt (1 : Int) F0 F0.length) S0 S0.length)) ?_ ?_ ?_ ?_
        · simp
        · simpa using h22 F0 S0 (1 : Int) hfa0 hfb0 (by omega) (by omega)
        · simp
        simp [hkN]
        refine callR (h21.o none (some []) hsm0) rfl rfl (fun _ => rfl) ?_
        simp
        refine callM (ts' := [nil, I (1 : Int)]) (r := I (1 : Int)) ?_ ?_ ?_ ?_
        · simp
        · simpa using h23.at0 (1 : Int) (by omega) (by omega)
        · simp
        simp
        refine callR (h24.o none (1 : Int) hsm0 (by omega) (by omega)) rfl rfl (fun _ => rfl) ?_
        simp [heldL]
        refine callR hto0 rfl rfl (fun _ => by simp) ?_
        simp
        refine callR hc2 rfl rfl (fun _ => by simp) ?_
        simp
        refine callR (h21.o none (some []) hsm0) rfl rfl (fun _ => rfl) ?_
        simp
        refine callR (h24.o none (1 : Int) hsm0 (by omega) (by omega)) rfl rfl (fun _ => rfl) ?_
        simp [heldL]
    | none =>
      cases q0 with
      | some Y0 =>
        simp only [ownT, fshT, lso_some, lso_none] at *
        subst heq0
        have hm0 := kAt_le (k := (1 : Int)) hsm0 ([] : List (List Int)).length (Nat.le_refl _)
        have hy0 := hsm0.1
        have hn0 : ¬ (kAt (1 : Int) ([] : List (List Int)) ([] : List (List Int)).length) < 0 := by omega
        refine callR hto0 rfl rfl (fun _ => by simp) ?_
        simp
        refine callR hc1 rfl rfl (fun _ => by simp) ?_
        simp
        refine callR hto0 rfl rfl (fun _ => by simp) ?_
        simp
        refine callR hc2 rfl rfl (fun _ => by simp) ?_
        simp
        refine callR (h21.o (some ([] : List (List Int))) none hsm0) rfl rfl (fun _ => rfl) ?_
        simp
        refine callR hto0 rfl rfl (fun _ => by simp) ?_
        simp
        refine callR (h18.o F0 S0 F0 S0 hfa0 hfb0) rfl rfl (fun _ => rfl) ?_
        simp
        refine callM (ts' := [.agg [.mem .own (some 1) (rows (upT (1 : Int) F0)), .mem .own (some 1) (rows (upT (kAt (1 : Int) F0 F0.length) S0))], I (1 : Int)]) (r := I (kAt (kAt (1 : Int) F0 F0.length) S0 S0.length)) ?_ ?_ ?_ ?_
        · simp
        · simpa using h22 F0 S0 (1 : Int) hfa0 hfb0 (by omega) (by omega)
        · simp
        simp [hkN]
        refine callR (h21.o (some ([] : List (List Int))) none hsm0) rfl rfl (fun _ => rfl) ?_
        simp
        refine callM (ts' := [.mem .own (some 1) (rows (upT (1 : Int) ([] : List (List Int)))), I (1 : Int)]) (r := I (kAt (1 : Int) ([] : List (List Int)) ([] : List (List Int)).length)) ?_ ?_ ?_ ?_
        · simp
        · simpa using h23.at ([] : List (List Int)) (1 : Int) hsm0 (by omega) (by omega)
        · simp
        simp
        refine callR (h24.o (some (upT (1 : Int) ([] : List (List Int)))) (1 : Int) (upT_small hsm0 (1 : Int)) (by omega) (by omega)) rfl rfl (fun _ => rfl) ?_
        simp [heldL_all, kAt_zero]
        refine callR hto0 rfl rfl (fun _ => by simp) ?_
        simp
        refine callR hc2 rfl rfl (fun _ => by simp) ?_
        simp
        refine callR (h21.o (some ([] : List (List Int))) none hsm0) rfl rfl (fun _ => rfl) ?_
        simp
        refine callR (h24.o (some (upT (1 : Int) ([] : List (List Int)))) (1 : Int) (upT_small hsm0 (1 : Int)) (by omega) (by omega)) rfl rfl (fun _ => rfl) ?_
        simp [heldL_all, kAt_zero]
      | none =>
        simp only [ownT, fshT, lso_none] at *
        refine callR hto0 rfl rfl (fun _ => by simp) ?_
        simp
        refine callR hc1 rfl rfl (fun _ => by simp) ?_
        simp
        refine callR hto0 rfl rfl (fun _ => by simp) ?_
        simp
        refine callR hc2 rfl rfl (fun _ => by simp) ?_
        simp
        refine callR (h21.o none none hsm0) rfl rfl (fun _ => rfl) ?_
        simp
        refine callR hto0 rfl rfl (fun _ => by simp) ?_
        simp
        refine callR (h18.o F0 S0 F0 S0 hfa0 hfb0) rfl rfl (fun _ => rfl) ?_
        simp
        refine callM (ts' := [.agg [.mem .own (some 1) (rows (upT (1 : Int) F0)), .mem .own (some 1) (rows (upT (kAt (1 : Int) F0 F0.length) S0))], I (1 : Int)]) (r := I (kAt (kAt (1 : Int) F0 F0.length) S0 S0.length)) ?_ ?_ ?_ ?_
        · simp
        · simpa using h22 F0 S0 (1 : Int) hfa0 hfb0 (by omega) (by omega)
        · simp
        simp [hkN]
        refine callR (h21.o none none hsm0) rfl rfl (fun _ => rfl) ?_
        simp
        refine callM (ts' := [nil, I (1 : Int)]) (r := I (1 : Int)) ?_ ?_ ?_ ?_
        · simp
        · simpa using h23.at0 (1 : Int) (by omega) (by omega)
        · simp
        simp
        refine callR (h24.o none (1 : Int) hsm0 (by omega) (by omega)) rfl rfl (fun _ => rfl) ?_
        simp [heldL]
        refine callR hto0 rfl rfl (fun _ => by simp) ?_
        simp
        refine callR hc2 rfl rfl (fun _ => by simp) ?_
        simp
        refine callR (h21.o none none hsm0) rfl rfl (fun _ => rfl) ?_
        simp
        refine callR (h24.o none (1 : Int) hsm0 (by omega) (by omega)) rfl rfl (fun _ => rfl) ?_
        simp [heldL]
end Go.Mch
/- NormalWords, exactly. -/
namespace Go.Mch

open Classical in
noncomputable def nmO (f s : List (List Int)) (p : Int) : Option (List (List Int)) := if isSol f s ∧ nmOk f p then some (nrm f s p.toNat) else none
theorem nmR_O (f s : List (List Int)) (p : Int) : lso (nmO f s p) = nmR f s p := by
  unfold nmO nmR
  split <;> rfl
def S_nmS (pg : Pg) : Prop := ∀ (f s : List (List Int)) (p : Int), fits f → fits s → Call pg 156 [sol f s, I p] [sol f s, I p] (.tup [fshT (nmO f s p), I (nmC f s p)])
theorem t_nmS {pg : Pg} (hp : pg.fn 156 = some c_spec_NormalWords) (h295 : S_many pg) (h296 : S_normals pg) : S_nmS pg := by
  intro f s p hf hs
  refine Call.intro hp rfl (by simp) ?_
  show wp _ _ c_spec_NormalWords.body (post [.t 4, .t 5] _ _ _) _
  simp [c_spec_NormalWords]
  refine callR (h295 f s p hf hs) rfl rfl (fun _ => rfl) ?_
  by_cases h : nmC f s p = 0
  · obtain ⟨h1, h2, h3⟩ := nm_0 h
    have e1 : nmO f s p = some (nrm f s p.toNat) := by simp only [nmO, if_pos (And.intro h1 (show nmOk f p from ⟨h2, h3⟩))]
    obtain ⟨m, rfl⟩ := Int.eq_ofNat_of_zero_le h2.1
    rw [Int.toNat_natCast] at h3 e1
    have hc := h296 f s m h1 (by omega) h3
    simp [h, e1]
    refine callR hc rfl rfl (fun _ => by simp [noOldL_rowsF]) ?_
    simp [fshT]
  · have e1 : nmO f s p = none := by
      unfold nmO
      split
      · rename_i hh
        exact absurd (by simp [nmC, hh.1, hh.2.1, hh.2.2]) h
      · rfl
    simp [h, e1, fshT]
def S_nm (pg : Pg) (n : Nat) : Prop := ∀ (f s : List (List Int)) (p : Int), fits f → fits s → ∃ o, lso o = lso (nmO f s p) ∧ Call pg n [sol f s, I p] [sol f s, I p] (.tup [ownT o, I (nmC f s p)])
theorem nm_of {pg : Pg} (h155 : S_nmF pg) : S_nm pg 155 := by
  intro f s p hf hs
  have hc := h155 f s p hf hs
  rw [nmR_O]
  by_cases hZ : nmR f s p = []
  · rw [hZ] at hc ⊢
    exact ⟨none, rfl, by simpa [rowN, ownT] using hc⟩
  · rw [rowN_ne hZ] at hc
    exact ⟨some (nmR f s p), rfl, by simpa [ownT] using hc⟩
theorem nm_small (f s : List (List Int)) (p : Int) (_ : fits f) (_ : fits s) : smallT (lso (nmO f s p)) := by
  unfold nmO
  split
  · rename_i h
    have h1 := nrm_len f s p.toNat
    have h2 := h.2.2
    exact ⟨by show (nrm f s p.toNat).length ≤ 1048576; omega, fun r hr => by
      have := nrm_row hr
      have := h.2.1
      omega⟩
  · simp [smallT]
end Go.Mch
/- The run of the law of NormalWords. -/
namespace Go.Mch
def S_law113 (pg : Pg) : Prop := S_lw_pT pg 113
theorem t_law113 {pg : Pg} (hp : pg.fn 113 = some (lw_pT 156 155)) (h156 : S_nmS pg) (h155 : S_nmF pg) (h14 : S_szSol pg) (h16 : S_toSol pg) (h18 : S_eqSol pg) (h22 : S_markSol pg) (h21 : S_eqT pg) (h23 : S_markT pg) (h24 : S_heldT pg) : S_law113 pg := by
  exact t_lw_pTf (Q0 := nmO) (R1 := nmC) hp h156 (nm_of h155) nm_small h14 h16 h18 h22 h21 h23 h24
end Go.Mch
