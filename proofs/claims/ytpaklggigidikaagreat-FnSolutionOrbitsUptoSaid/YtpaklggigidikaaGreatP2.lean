/- Our texts YjU YjF YjG YjW YjX YkA YkB YkE YkF YkM YlB YjA YlC YlD YlE YlF YlG YlH YlI YgX YkS YkT YlK YkU YiZ YlL, end to end. -/
import Derived.Test.YtpaklggigidikaaGreatP1
import Derived.Test.YtpaklggigidikaaGreatYeD
import Derived.Test.YtpaklggigidikaaGreatM1
namespace Go.Mch

section
variable (mv : List Int → Nat → List Int) (m : Nat) (w : List Int)
def TR (x : List Int) : Prop := ∀ C : List Int → Prop, C w → (∀ y, C y → ∀ i, i < m → C (mv y i)) → C x
theorem TR.start : TR mv m w w := fun _ h _ => h
theorem TR.step {x : List Int} (h : TR mv m w x) {i : Nat} (hi : i < m) : TR mv m w (mv x i) := fun C h1 h2 => h2 _ (h C h1 h2) i hi
structure TF (Q : List (List Int)) : Prop where
 w0 : w ∈ Q
 nd : Q.Nodup
 gr : ∀ x ∈ Q, TR mv m w x
structure TB (Q : List (List Int)) (a k : Nat) : Prop where
 f : TF mv m w Q
 cl : ∀ i (h : i < Q.length), i < a → ∀ p, p < m → mv Q[i] p ∈ Q
 cur : ∀ h : a < Q.length, ∀ p, p < k → mv Q[a] p ∈ Q
theorem TB.start : TB mv m w [w] 0 0 := ⟨⟨by simp, by simp, fun x hx => by rw [List.mem_singleton] at hx; subst hx; exact TR.start mv m x⟩, fun i h hi => by omega, fun h p hp => by omega⟩
variable {mv m w}
theorem TB.old {Q : List (List Int)} {a k : Nat} (h : TB mv m w Q a k) (ha : a < Q.length) (hin : mv Q[a] k ∈ Q) : TB mv m w Q a (k + 1) :=
 ⟨h.f, h.cl, fun h1 p hp => by
  by_cases hpk : p = k
  · subst hpk; exact hin
  · exact h.cur h1 p (by omega)⟩
theorem TF.new {Q : List (List Int)} {a k : Nat} (h : TF mv m w Q) (ha : a < Q.length) (hk : k < m) (hin : mv Q[a] k ∉ Q) : TF mv m w (Q ++ [mv Q[a] k]) :=
 ⟨List.mem_append.2 (.inl h.w0), by
  rw [List.nodup_append]
  exact ⟨h.nd, by simp, fun x hx y hy hxy => by
   rw [List.mem_singleton] at hy
   exact hin (by rw [← hy, ← hxy]; exact hx)⟩, fun x hx => by
  rcases List.mem_append.1 hx with hx | hx
  · exact h.gr x hx
  · rw [List.mem_singleton] at hx
    subst hx
    exact (h.gr _ (List.getElem_mem ha)).step mv m w hk⟩
theorem TB.new {Q : List (List Int)} {a k : Nat} (h : TB mv m w Q a k) (ha : a < Q.length) (hk : k < m) (hin : mv Q[a] k ∉ Q) : TB mv m w (Q ++ [mv Q[a] k]) a (k + 1) :=
 ⟨h.f.new ha hk hin, fun i hi hia p hp => by
  have hl : i < Q.length := by omega
  rw [List.getElem_append_left hl]
  exact List.mem_append.2 (.inl (h.cl i hl hia p hp)), fun h1 p hp => by
  rw [List.getElem_append_left ha]
  by_cases hpk : p = k
  · subst hpk; exact List.mem_append.2 (.inr (by simp))
  · exact List.mem_append.2 (.inl (h.cur ha p (by omega)))⟩
theorem TB.up {Q : List (List Int)} {a : Nat} (h : TB mv m w Q a m) (ha : a < Q.length) : TB mv m w Q (a + 1) 0 :=
 ⟨h.f, fun i hi hia p hp => by
  by_cases he : i = a
  · subst he; exact h.cur ha p hp
  · exact h.cl i hi (by omega) p hp, fun h1 p hp => by omega⟩
theorem TB.all {Q : List (List Int)} {a : Nat} (h : TB mv m w Q a 0) (ha : ¬ a < Q.length) (x : List Int) (hx : TR mv m w x) : x ∈ Q :=
 hx (fun y => y ∈ Q) h.f.w0 fun y hy i hi => by
  obtain ⟨j, hj, rfl⟩ := List.getElem_of_mem hy
  exact h.cl j hj (by omega) i hi
variable (mv m w)
variable {mv m w}
end
end Go.Mch
namespace Go.Mch

def ExT (P : List (List Int) → Prop) : Prop := ∃ Q, P Q
theorem ExT.mk {P : List (List Int) → Prop} (Q : List (List Int)) (h : P Q) : ExT P := ⟨Q, h⟩
structure BF (ms : List (List Int)) (n : Nat) (Q : List (List Int)) (i k : Nat) : Prop where
 nd : Q.Nodup
 gr : ∀ x ∈ Q, GR ms n x
 id : idL n ∈ Q
 dn : ∀ j (hj : j < Q.length), j < i → ∀ p ∈ ms, j6n Q[j] p ∈ Q
 dk : ∀ hi : i < Q.length, ∀ p ∈ ms.take k, j6n Q[i] p ∈ Q
 le : Q.length ≤ 1000
theorem BF.start (ms : List (List Int)) (n : Nat) : BF ms n [idL n] 0 0 where
 nd := by simp
 gr := fun x hx => by simp at hx; subst hx; exact GR.id ms n
 id := by simp
 dn := fun j _ h => by omega
 dk := fun _ p hp => by simp at hp
 le := by simp
theorem BF.up {ms : List (List Int)} {n : Nat} {Q : List (List Int)} {i : Nat} (h : BF ms n Q i ms.length) (hi : i < Q.length) : BF ms n Q (i + 1) 0 :=
 ⟨h.nd, h.gr, h.id, fun j hj hl p hp => by
  by_cases he : j = i
  · subst he; exact h.dk hi p (by simpa using hp)
  · exact h.dn j hj (by omega) p hp, fun _ p hp => by simp at hp, h.le⟩
theorem BF.old {ms : List (List Int)} {n : Nat} {Q : List (List Int)} {i k : Nat} (h : BF ms n Q i k) (hk : k < ms.length) (hi : i < Q.length) (hm : j6n Q[i] ms[k] ∈ Q) : BF ms n Q i (k + 1) :=
 ⟨h.nd, h.gr, h.id, h.dn, fun _ p hp => by
  rw [List.take_succ_eq_append_getElem hk] at hp
  rcases List.mem_append.1 hp with h1 | h1
  · exact h.dk hi p h1
  · simp at h1; subst h1; exact hm, h.le⟩
theorem BF.new {ms : List (List Int)} {n : Nat} {Q : List (List Int)} {i k : Nat} (h : BF ms n Q i k) (hk : k < ms.length) (hi : i < Q.length) (hm : j6n Q[i] ms[k] ∉ Q) :
 (Q ++ [j6n Q[i] ms[k]]).Nodup ∧ (∀ x ∈ Q ++ [j6n Q[i] ms[k]], GR ms n x) ∧ (Q.length < 1000 → BF ms n (Q ++ [j6n Q[i] ms[k]]) i (k + 1)) := by
 have hnd : (Q ++ [j6n Q[i] ms[k]]).Nodup := by
  rw [List.nodup_append]
  exact ⟨h.nd, by simp, fun a ha b hb => by simp at hb; subst hb; exact fun he => hm (he ▸ ha)⟩
 have hgr : ∀ x ∈ Q ++ [j6n Q[i] ms[k]], GR ms n x := fun x hx => by
  rcases List.mem_append.1 hx with h1 | h1
  · exact h.gr x h1
  · simp at h1; subst h1; exact (h.gr _ (List.getElem_mem hi)).step (List.getElem_mem hk)
 refine ⟨hnd, hgr, fun hl => ⟨hnd, hgr, List.mem_append.2 (.inl h.id), fun j hj hl2 p hp => ?_, fun _ p hp => ?_, by simp; omega⟩⟩
 · rw [List.getElem_append_left (by omega)]
   exact List.mem_append.2 (.inl (h.dn j (by omega) hl2 p hp))
 · rw [List.getElem_append_left hi]
   rw [List.take_succ_eq_append_getElem hk] at hp
   rcases List.mem_append.1 hp with h1 | h1
   · exact List.mem_append.2 (.inl (h.dk hi p h1))
   · simp at h1; subst h1; exact List.mem_append.2 (.inr (by simp))
theorem BF.all {ms : List (List Int)} {n : Nat} {Q : List (List Int)} {i k : Nat} (h : BF ms n Q i k) (hi : ¬ i < Q.length) : ∀ x, GR ms n x → x ∈ Q := fun x hx =>
 hx (· ∈ Q) h.id fun y hy p hp => by
  obtain ⟨j, hj, rfl⟩ := List.getElem_of_mem hy
  exact h.dn j hj (by omega) p hp
end Go.Mch
namespace Go.Mch

def rowsF (X : List (List Int)) : List T := X.map fun xs => .mem .fresh (some 1) (xs.map I)
@[simp] theorem rowsF_length (X : List (List Int)) : (rowsF X).length = X.length := by simp [rowsF]
@[simp] theorem noOwnL_rowsF (X : List (List Int)) : T.j0l (rowsF X) = true := by
 induction X with
 | nil => rfl
 | cons x X ih => simp only [rowsF, List.map_cons] at ih ⊢; simp [ih]
@[simp] theorem eryL_rowsF (X : List (List Int)) : T.eryL .old (rowsF X) = tbL X := by
 induction X with
 | nil => rfl
 | cons x X ih => simp only [rowsF, tbL, List.map_cons] at ih ⊢; simp [ih]
@[simp] theorem rowsF_getElem {X : List (List Int)} {k : Nat} (h : k < (rowsF X).length) : (rowsF X)[k] = .mem .fresh (some 1) ((X[k]'(by simpa using h)).map I) := by simp [rowsF]
def Rds (ts : List T) (X : List (List Int)) : Prop := T.eryL .old ts = tbL X ∧ T.j0l ts = true ∧ T.j1t ts = tbL X ∧ ts.length = X.length
theorem Rds.fresh (X : List (List Int)) : Rds (rowsF X) X := ⟨by simp, by simp, by
 induction X with
 | nil => rfl
 | cons x X ih => simp only [rowsF, tbL, List.map_cons] at ih ⊢; simp [ih], by simp⟩
theorem Rds.old (X : List (List Int)) : Rds (tbL X) X := ⟨by simp, by simp, by
 induction X with
 | nil => rfl
 | cons x X ih => simp only [tbL, List.map_cons] at ih ⊢; simp [ih], by simp⟩
def ExTT (P : List (List Int) → List (List Int) → List T → Prop) : Prop := ∃ F S ts, P F S ts
theorem ExTT.mk {P : List (List Int) → List (List Int) → List T → Prop} (F S : List (List Int)) (ts : List T) (h : P F S ts) : ExTT P := ⟨F, S, ts, h⟩

end Go.Mch
namespace Go.Mch

@[simp] theorem noOldL_rowsF (X : List (List Int)) : T.j5t (rowsF X) = true := by
 induction X with
 | nil => rfl
 | cons x X ih => simp only [rowsF, List.map_cons] at ih ⊢; simp [ih]
end Go.Mch
namespace Go.Mch

theorem dm_pair {n x y : Nat} (hy : y < n) : (x * n + y) / n = x ∧ (x * n + y) % n = y := by
 have hn : 0 < n := by omega
 refine ⟨?_, ?_⟩
 · rw [Nat.mul_comm, Nat.mul_add_div hn, Nat.div_eq_of_lt hy, Nat.add_zero]
 · rw [Nat.mul_comm, Nat.mul_add_mod, Nat.mod_eq_of_lt hy]
theorem pair_lt {n x y : Nat} (hx : x < n) (hy : y < n) : x * n + y < n * n := by
 have : (x + 1) * n ≤ n * n := Nat.mul_le_mul_right n hx
 rw [Nat.add_mul] at this
 omega
theorem inj_pair {f s : List (List Int)} (hi : Inj f s) {x y x' y' : Nat} (hx : x < f.length) (hy : y < f.length) (hx' : x' < f.length) (hy' : y' < f.length) (h1 : v2 f x y = v2 f x' y') (h2 : v2 s x y = v2 s x' y') : x = x' ∧ y = y' := by
 have hp := dm_pair (x := x) hy
 have hp' := dm_pair (x := x') hy'
 by_cases he : x * f.length + y = x' * f.length + y'
 · exact ⟨by rw [← hp.1, he, hp'.1], by rw [← hp.2, he, hp'.2]⟩
 · exact absurd ⟨he, by rw [hp.1, hp.2, hp'.1, hp'.2]; exact h1, by rw [hp.1, hp.2, hp'.1, hp'.2]; exact h2⟩ (hi _ (pair_lt hx hy) _ (pair_lt hx' hy'))
theorem sur_pair {f s : List (List Int)} (h : PM f s) (hi : Inj f s) {a b : Nat} (ha : a < f.length) (hb : b < f.length) : ∃ x y, x < f.length ∧ y < f.length ∧ v2 f x y = a ∧ v2 s x y = b := by
 have r1 : ∀ x y : Nat, 0 ≤ v2 f x y ∧ v2 f x y < f.length := fun x y => by simpa [g2] using h.gF x y
 have r2 : ∀ x y : Nat, 0 ≤ v2 s x y ∧ v2 s x y < f.length := fun x y => by simpa [g2] using h.gS x y
 have hs := surj_of_inj (n := f.length * f.length) (g := fun p => (v2 f (p / f.length) (p % f.length)).toNat * f.length + (v2 s (p / f.length) (p % f.length)).toNat) (fun p _ => by
  have := r1 (p / f.length) (p % f.length)
  have := r2 (p / f.length) (p % f.length)
  exact pair_lt (by omega) (by omega)) (fun p p' hp hp' he => by
  have hd := dm_lt hp
  have hd' := dm_lt hp'
  have q1 := r1 (p / f.length) (p % f.length)
  have q2 := r2 (p / f.length) (p % f.length)
  have q1' := r1 (p' / f.length) (p' % f.length)
  have q2' := r2 (p' / f.length) (p' % f.length)
  have u := dm_pair (n := f.length) (x := (v2 f (p / f.length) (p % f.length)).toNat) (y := (v2 s (p / f.length) (p % f.length)).toNat) (by omega)
  have u' := dm_pair (n := f.length) (x := (v2 f (p' / f.length) (p' % f.length)).toNat) (y := (v2 s (p' / f.length) (p' % f.length)).toNat) (by omega)
  rw [he] at u
  have e1 := u.1.symm.trans u'.1
  have e2 := u.2.symm.trans u'.2
  have := inj_pair hi hd.1 hd.2 hd'.1 hd'.2 (by omega) (by omega)
  rw [← Nat.div_add_mod p f.length, ← Nat.div_add_mod p' f.length, this.1, this.2])
 obtain ⟨p, hp, he⟩ := hs _ (pair_lt ha hb)
 have hd := dm_lt hp
 have q1 := r1 (p / f.length) (p % f.length)
 have q2 := r2 (p / f.length) (p % f.length)
 have u := dm_pair (n := f.length) (x := (v2 f (p / f.length) (p % f.length)).toNat) (y := (v2 s (p / f.length) (p % f.length)).toNat) (by omega)
 have u' := dm_pair (n := f.length) (x := a) hb
 rw [he] at u
 have e1 := u.1.symm.trans u'.1
 have e2 := u.2.symm.trans u'.2
 exact ⟨_, _, hd.1, hd.2, by omega, by omega⟩
end Go.Mch
namespace Go.Mch

def pre (f s : List (List Int)) (u v : Nat) (x y : Nat) : Prop := x < f.length ∧ y < f.length ∧ σN f x y = u ∧ τN s y x = v
noncomputable def preX (f s : List (List Int)) (u v : Nat) : Nat := by
 classical exact if h : ∃ x, ∃ y, pre f s u v x y then Classical.choose h else 0
noncomputable def preY (f s : List (List Int)) (u v : Nat) : Nat := by
 classical exact if h : ∃ y, ∃ x, pre f s u v x y then Classical.choose h else 0
theorem pre_uniq {f s : List (List Int)} (h : PM f s) (hi : Inj f s) {u v x y x' y' : Nat} (h1 : pre f s u v x y) (h2 : pre f s u v x' y') : x = x' ∧ y = y' := by
 obtain ⟨a1, a2, a3, a4⟩ := h1
 obtain ⟨b1, b2, b3, b4⟩ := h2
 have e1 := h.v2f x y
 have e2 := h.v2f x' y'
 have e3 := h.v2s x y
 have e4 := h.v2s x' y'
 exact inj_pair hi a1 a2 b1 b2 (by omega) (by omega)
theorem pre_eq {f s : List (List Int)} (h : PM f s) (hi : Inj f s) {u v x y : Nat} (h1 : pre f s u v x y) : preX f s u v = x ∧ preY f s u v = y := by
 have hx : ∃ x, ∃ y, pre f s u v x y := ⟨x, y, h1⟩
 have hy : ∃ y, ∃ x, pre f s u v x y := ⟨y, x, h1⟩
 constructor
 · unfold preX
   rw [dif_pos hx]
   obtain ⟨y', h2⟩ := Classical.choose_spec hx
   exact (pre_uniq h hi h2 h1).1
 · unfold preY
   rw [dif_pos hy]
   obtain ⟨y', h2⟩ := Classical.choose_spec hy
   exact (pre_uniq h hi h2 h1).2
theorem pre_ex {f s : List (List Int)} (h : PM f s) (hi : Inj f s) {u v : Nat} (hu : u < f.length) (hv : v < f.length) : ∃ x y, pre f s u v x y := by
 obtain ⟨x, y, h1, h2, h3, h4⟩ := sur_pair h hi hu hv
 have e1 := h.v2f x y
 have e3 := h.v2s x y
 exact ⟨x, y, h1, h2, by omega, by omega⟩
theorem pre_self {f s : List (List Int)} (h : PM f s) (hi : Inj f s) {u v : Nat} (hu : u < f.length) (hv : v < f.length) : pre f s u v (preX f s u v) (preY f s u v) := by
 obtain ⟨x, y, h1⟩ := pre_ex h hi hu hv
 have := pre_eq h hi h1
 rw [this.1, this.2]
 exact h1
theorem pre_at {f s : List (List Int)} (h : PM f s) (hi : Inj f s) {x y : Nat} (hx : x < f.length) (hy : y < f.length) : preX f s (σN f x y) (τN s y x) = x ∧ preY f s (σN f x y) (τN s y x) = y := pre_eq h hi ⟨hx, hy, rfl, rfl⟩

noncomputable def invF (f s : List (List Int)) : List (List Int) := tabL f.length fun u v => (preX f s u v : Int)
noncomputable def invS (f s : List (List Int)) : List (List Int) := tabL f.length fun u v => (preY f s u v : Int)
@[simp] theorem invF_length (f s : List (List Int)) : (invF f s).length = f.length := by simp [invF]
@[simp] theorem invS_length (f s : List (List Int)) : (invS f s).length = f.length := by simp [invS]
theorem inv_pm {f s : List (List Int)} (h : PM f s) (hi : Inj f s) : PM (invF f s) (invS f s) where
 tf := tab_of fun x y hx hy => by have := (pre_self h hi hx hy).1; omega
 ts := tab_of fun x y hx hy => by have := (pre_self h hi hx hy).2.1; omega
 len := by simp
 pos := by simpa using h.pos
 small := by simpa using h.small


end Go.Mch
namespace Go.Mch

def isWd (n : Int) (w : List Int) : Prop := inR 0 (n - 1) w ∧ w.length ≤ 8
instance (n : Int) (w : List Int) : Decidable (isWd n w) := by unfold isWd; infer_instance

noncomputable def cMv (f s : List (List Int)) (x : List Int) (p : Nat) : List Int := if p % 2 = 0 then dW f s x (p / 2) else dW (invF f s) (invS f s) x (p / 2)
@[simp] theorem cMv_length (f s : List (List Int)) (x : List Int) (p : Nat) : (cMv f s x p).length = x.length := by unfold cMv; split <;> simp
theorem cMv_in {f s : List (List Int)} (h : PM f s) (hi : Inj f s) {x : List Int} (hx : inN f.length x) (p : Nat) : inN f.length (cMv f s x p) := by
 unfold cMv
 split
 · exact dW_in h hx _
 · have := dW_in (inv_pm h hi) (w := x) (by simpa using hx) (p / 2)
   simpa using this
theorem CR_in {f s : List (List Int)} (h : PM f s) (hi : Inj f s) {w : List Int} (hw : inN f.length w) {m : Nat} {x : List Int} (hx : TR (cMv f s) m w x) : inN f.length x ∧ x.length = w.length :=
 hx (fun y => inN f.length y ∧ y.length = w.length) ⟨hw, rfl⟩ fun y hy i _ => ⟨cMv_in h hi hy.1 i, by rw [cMv_length]; exact hy.2⟩

end Go.Mch
namespace Go.Mch


def hd0 (X : List (List Int)) : List Int := X.getD 0 []
end Go.Mch
namespace Go.Mch

section
variable {mv mv' : List Int → Nat → List Int} {m m' : Nat} {w x y : List Int}
theorem TR.trans (h1 : TR mv m w x) (h2 : TR mv m x y) : TR mv m w y := h2 _ h1 fun _ hz _ hi => TR.step mv m w hz hi
theorem TR.symm {P : List Int → Prop} (hw : P w) (hc : ∀ y, P y → ∀ i, i < m → P (mv y i)) (hb : ∀ y, P y → ∀ i, i < m → ∃ j, j < m ∧ mv (mv y i) j = y) (h : TR mv m w x) : TR mv m x w :=
 (h (fun y => P y ∧ TR mv m y w) ⟨hw, TR.start mv m w⟩ fun y hy i hi => ⟨hc y hy.1 i hi, by
  obtain ⟨j, hj, he⟩ := hb y hy.1 i hi
  have h1 : TR mv m (mv y i) y := by
   have := TR.step mv m (mv y i) (TR.start mv m (mv y i)) hj
   rw [he] at this
   exact this
  exact h1.trans hy.2⟩).2
theorem TR.map (φ : List Int → List Int) {P : List Int → Prop} (hw : P w) (hc : ∀ y, P y → ∀ i, i < m → P (mv y i)) (hm : ∀ y, P y → ∀ i, i < m → ∃ j, j < m' ∧ mv' (φ y) j = φ (mv y i)) (h : TR mv m w x) : TR mv' m' (φ w) (φ x) :=
 (h (fun y => P y ∧ TR mv' m' (φ w) (φ y)) ⟨hw, TR.start mv' m' (φ w)⟩ fun y hy i hi => ⟨hc y hy.1 i hi, by
  obtain ⟨j, hj, he⟩ := hm y hy.1 i hi
  rw [← he]
  exact TR.step mv' m' (φ w) hy.2 hj⟩).2
end

theorem dW_app {f s : List (List Int)} {p r : List Int} {i : Nat} (hi : i + 1 < p.length) : dW f s (p ++ r) i = dW f s p i ++ r := by
 have h1 : (p ++ r).getD i 0 = p.getD i 0 := by rw [List.getD_eq_getElem?_getD, List.getD_eq_getElem?_getD, List.getElem?_append_left (by omega)]
 have h2 : (p ++ r).getD (i + 1) 0 = p.getD (i + 1) 0 := by rw [List.getD_eq_getElem?_getD, List.getD_eq_getElem?_getD, List.getElem?_append_left (by omega)]
 unfold dW
 rw [h1, h2, List.set_append_left _ _ (by omega), List.set_append_left _ _ (by simp; omega)]
theorem dW_app2 {f s : List (List Int)} {u r : List Int} {i : Nat} : dW f s (u ++ r) (u.length + i) = u ++ dW f s r i := by
 have h1 : (u ++ r).getD (u.length + i) 0 = r.getD i 0 := by rw [List.getD_eq_getElem?_getD, List.getD_eq_getElem?_getD, List.getElem?_append_right (by omega), Nat.add_sub_cancel_left]
 have h2 : (u ++ r).getD (u.length + i + 1) 0 = r.getD (i + 1) 0 := by rw [List.getD_eq_getElem?_getD, List.getD_eq_getElem?_getD, List.getElem?_append_right (by omega), show u.length + i + 1 - u.length = i + 1 from by omega]
 unfold dW
 rw [h1, h2, List.set_append_right _ _ (by omega), List.set_append_right _ _ (by omega), Nat.add_sub_cancel_left, show u.length + i + 1 - u.length = i + 1 from by omega]
theorem cMv_app {f s : List (List Int)} {p r : List Int} {i : Nat} (hi : i < 2 * (p.length - 1)) : cMv f s (p ++ r) i = cMv f s p i ++ r := by
 unfold cMv
 split
 · exact dW_app (by omega)
 · exact dW_app (by omega)
theorem cMv_app2 {f s : List (List Int)} {u r : List Int} {i : Nat} : cMv f s (u ++ r) (2 * u.length + i) = u ++ cMv f s r i := by
 unfold cMv
 rw [show (2 * u.length + i) % 2 = i % 2 from by omega, show (2 * u.length + i) / 2 = u.length + i / 2 from by omega]
 split
 · exact dW_app2
 · exact dW_app2

theorem inN_getD {n : Nat} {w : List Int} (h : inN n w) {i : Nat} (hi : i < w.length) : 0 ≤ w.getD i 0 ∧ w.getD i 0 < n := by
 rw [List.getD_eq_getElem?_getD, List.getElem?_eq_getElem hi]
 exact h _ (List.getElem_mem hi)
theorem dW_back {f s g t : List (List Int)} {w : List Int} {i : Nat} (hi : i + 1 < w.length)
 (h : ∀ a b, a = w.getD i 0 → b = w.getD (i + 1) 0 → g2 g (g2 f a b) (g2 s a b) = a ∧ g2 t (g2 f a b) (g2 s a b) = b) : dW g t (dW f s w i) i = w := by
 obtain ⟨h1, h2⟩ := h _ _ rfl rfl
 have e1 : (dW f s w i).getD i 0 = g2 f (w.getD i 0) (w.getD (i + 1) 0) := by
  unfold dW
  rw [List.getD_eq_getElem?_getD, List.getElem?_set_ne (by omega), List.getElem?_set_self (by omega)]
  rfl
 have e2 : (dW f s w i).getD (i + 1) 0 = g2 s (w.getD i 0) (w.getD (i + 1) 0) := by
  unfold dW
  rw [List.getD_eq_getElem?_getD, List.getElem?_set_self (by simpa using hi)]
  rfl
 have e3 : dW g t (dW f s w i) i = ((dW f s w i).set i (w.getD i 0)).set (i + 1) (w.getD (i + 1) 0) := by
  rw [dW, e1, e2, h1, h2]
 rw [e3]
 apply List.ext_getElem
 · simp
 · intro j j1 j2
   have hw1 : w.getD i 0 = w[i]'(by omega) := by rw [List.getD_eq_getElem?_getD, List.getElem?_eq_getElem (by omega)]; rfl
   have hw2 : w.getD (i + 1) 0 = w[i + 1] := by rw [List.getD_eq_getElem?_getD, List.getElem?_eq_getElem hi]; rfl
   by_cases hj1 : i + 1 = j
   · subst hj1
     rw [List.getElem_set_self, hw2]
   · rw [List.getElem_set_ne (by omega)]
     by_cases hj0 : i = j
     · subst hj0
       rw [List.getElem_set_self, hw1]
     · rw [List.getElem_set_ne (by omega)]
       unfold dW
       rw [List.getElem_set_ne (by omega), List.getElem_set_ne (by omega)]
theorem inv_g2 {f s : List (List Int)} (h : PM f s) (hi : Inj f s) {a b : Int} (ha : 0 ≤ a ∧ a < f.length) (hb : 0 ≤ b ∧ b < f.length) :
 (g2 (invF f s) (g2 f a b) (g2 s a b) = a ∧ g2 (invS f s) (g2 f a b) (g2 s a b) = b) ∧ g2 f (g2 (invF f s) a b) (g2 (invS f s) a b) = a ∧ g2 s (g2 (invF f s) a b) (g2 (invS f s) a b) = b := by
 have hx : a.toNat < f.length := by omega
 have hy : b.toNat < f.length := by omega
 constructor
 · have h1 := h.v2f a.toNat b.toNat
   have h2 := h.v2s a.toNat b.toNat
   have h3 := pre_at h hi hx hy
   have e1 : (g2 f a b).toNat = σN f a.toNat b.toNat := rfl
   have e2 : (g2 s a b).toNat = τN s b.toNat a.toNat := rfl
   unfold g2 at e1 e2 ⊢
   rw [e1, e2, invF, invS, v2_tabL h1.2 h2.2, v2_tabL h1.2 h2.2, h3.1, h3.2]
   omega
 · have h1 := pre_self h hi hx hy
   have e1 : g2 (invF f s) a b = (preX f s a.toNat b.toNat : Int) := by unfold g2 invF; rw [v2_tabL hx hy]
   have e2 : g2 (invS f s) a b = (preY f s a.toNat b.toNat : Int) := by unfold g2 invS; rw [v2_tabL hx hy]
   rw [e1, e2]
   obtain ⟨p1, p2, p3, p4⟩ := h1
   have h2 := h.v2f (preX f s a.toNat b.toNat) (preY f s a.toNat b.toNat)
   have h3 := h.v2s (preX f s a.toNat b.toNat) (preY f s a.toNat b.toNat)
   unfold g2
   rw [Int.toNat_natCast, Int.toNat_natCast]
   omega
theorem cMv_back {f s : List (List Int)} (h : PM f s) (hi : Inj f s) {w : List Int} (hw : inN f.length w) {p : Nat} (hp : p < 2 * (w.length - 1)) : ∃ q, q < 2 * (w.length - 1) ∧ cMv f s (cMv f s w p) q = w := by
 have ha := inN_getD hw (i := p / 2) (by omega)
 have hb := inN_getD hw (i := p / 2 + 1) (by omega)
 have hg := inv_g2 h hi ha hb
 by_cases he : p % 2 = 0
 · refine ⟨p + 1, by omega, ?_⟩
   have e1 : cMv f s w p = dW f s w (p / 2) := by rw [cMv, if_pos he]
   have e2 : ∀ x, cMv f s x (p + 1) = dW (invF f s) (invS f s) x (p / 2) := fun x => by rw [cMv, if_neg (by omega), show (p + 1) / 2 = p / 2 from by omega]
   rw [e1, e2]
   exact dW_back (by omega) fun a b ha hb => by rw [ha, hb]; exact hg.1
 · refine ⟨p - 1, by omega, ?_⟩
   have e1 : cMv f s w p = dW (invF f s) (invS f s) w (p / 2) := by rw [cMv, if_neg he]
   have e2 : ∀ x, cMv f s x (p - 1) = dW f s x (p / 2) := fun x => by rw [cMv, if_pos (by omega), show (p - 1) / 2 = p / 2 from by omega]
   rw [e1, e2]
   exact dW_back (by omega) fun a b ha hb => by rw [ha, hb]; exact hg.2

def Eqw (f s : List (List Int)) (u v : List Int) : Prop := TR (cMv f s) (2 * (u.length - 1)) u v
section
variable {f s : List (List Int)} (h : PM f s) (hi : Inj f s)
include h hi
theorem Eqw.len {u v : List Int} (hu : inN f.length u) (e : Eqw f s u v) : inN f.length v ∧ v.length = u.length := CR_in h hi hu e
theorem Eqw.symm {u v : List Int} (hu : inN f.length u) (e : Eqw f s u v) : Eqw f s v u := by
 have hl := (e.len h hi hu).2
 unfold Eqw at e ⊢
 rw [hl]
 exact TR.symm (P := fun y => inN f.length y ∧ y.length = u.length) ⟨hu, rfl⟩ (fun y hy i _ => ⟨cMv_in h hi hy.1 i, by rw [cMv_length]; exact hy.2⟩) (fun y hy i hlt => by
  have := cMv_back h hi hy.1 (p := i) (by rw [hy.2]; exact hlt)
  rw [hy.2] at this
  exact this) e
theorem Eqw.trans {u v x : List Int} (hu : inN f.length u) (e : Eqw f s u v) (e2 : Eqw f s v x) : Eqw f s u x := by
 have hl := (e.len h hi hu).2
 unfold Eqw at e e2 ⊢
 rw [hl] at e2
 exact TR.trans e e2
theorem Eqw.app {u v : List Int} (hu : inN f.length u) (r : List Int) (e : Eqw f s u v) : Eqw f s (u ++ r) (v ++ r) := by
 unfold Eqw at e ⊢
 exact TR.map (· ++ r) (P := fun y => inN f.length y ∧ y.length = u.length) ⟨hu, rfl⟩ (fun y hy i _ => ⟨cMv_in h hi hy.1 i, by rw [cMv_length]; exact hy.2⟩) (fun y hy i hlt => ⟨i, by simp; omega, cMv_app (by rw [hy.2]; exact hlt)⟩) e
theorem Eqw.pre {r v : List Int} (hr : inN f.length r) (u : List Int) (e : Eqw f s r v) : Eqw f s (u ++ r) (u ++ v) := by
 unfold Eqw at e ⊢
 exact TR.map (u ++ ·) (P := fun y => inN f.length y ∧ y.length = r.length) ⟨hr, rfl⟩ (fun y hy i _ => ⟨cMv_in h hi hy.1 i, by rw [cMv_length]; exact hy.2⟩) (fun y hy i hlt => ⟨2 * u.length + i, by simp; omega, cMv_app2⟩) e
end
end Go.Mch
namespace Go.Mch

def iv (f s : List (List Int)) (x y : Nat) : Prop := v2 f (σN f x y) (τN s y x) = x ∧ v2 s (σN f x y) (τN s y x) = y
instance (f s : List (List Int)) (x y : Nat) : Decidable (iv f s x y) := by unfold iv; infer_instance
def isInv (f s : List (List Int)) : Prop := ∀ x, x < f.length → ∀ y, y < f.length → iv f s x y
def S_twice (pg : Pg) (n : Nat) : Prop := ∀ f s : List (List Int), PM f s → Call pg n [sol f s] [sol f s] (B (dec (isInv f s)))
set_option maxRecDepth 10000 in
theorem t_l02Twice {pg : Pg} (hp : pg.fn 351 = some j4l) : S_twice pg 351 := by
 intro f s h
 have h0 := h.pos
 have h12 := h.small
 have hls := h.len
 have fr' := fun x hx => h.tf.row (x := x) hx
 have sr' : ∀ x (hx : x < s.length), (s[x]).length = f.length := fun x hx => (h.ts.row hx).trans hls
 refine Call.intro hp rfl (by simp) ?_
 show wp _ _ j4l.body (post [.t 2] _ _ _) _
 simp [j4l]
 refine j0a (fun a e => (∀ x, x < a → ∀ y, y < f.length → iv f s x y) ∧ e = fr [(1, some (.val (.mem .own none [tb f, tb s]))), (3, some (.val (I a)))]) f.length ?_ ?_ 0 _ (by omega) ⟨fun x hx => by omega, by simp⟩
 · rintro a e ha ⟨h1, rfl⟩
   simp [ha]
   refine j0a (fun b e => (∀ y, y < b → iv f s a y) ∧ e = fr [(1, some (.val (.mem .own none [tb f, tb s]))), (3, some (.val (I a))), (4, some (.val (I b)))]) f.length ?_ ?_ 0 _ (by omega) ⟨fun x hx => by omega, by simp⟩
   · rintro b e hb ⟨h2, rfl⟩
     have hf := h.v2f a b
     have hs2 := h.v2s a b
     have has : a < s.length := by omega
     have hfr := fr' a ha
     have hsr := sr' a has
     have hfg : (f[a])[b]'(by omega) = v2 f a b := j3t _ _
     have hsg : (s[a])[b]'(by omega) = v2 s a b := j3t _ _
     have hiv : iv f s a b ↔ v2 f (σN f a b) (τN s b a) = a ∧ v2 s (σN f a b) (τN s b a) = b := Iff.rfl
     have hf3 := h.v2f (σN f a b) (τN s b a)
     have hs3 := h.v2s (σN f a b) (τN s b a)
     obtain ⟨hf1, hf2⟩ := hf
     obtain ⟨hs1, hs2⟩ := hs2
     rw [← hf1] at hfg
     rw [← hs1] at hsg
     generalize σN f a b = u at *
     generalize τN s b a = v at *
     have hus : u < s.length := by omega
     have hfu := fr' u hf2
     have hsu := sr' u hus
     have hfg2 : (f[u])[v]'(by omega) = v2 f u v := j3t _ _
     have hsg2 : (s[u])[v]'(by omega) = v2 s u v := j3t _ _
     by_cases hx : v2 f u v = a
     · by_cases hy : v2 s u v = b
       · simp [ha, hb, has, hfr, hsr, hfg, hsg, hf2, hs2, hus, hfu, hsu, hfg2, hsg2, hx, hy]
         refine ⟨by omega, fun y hyb => ?_⟩
         rcases Nat.lt_or_ge y b with h3 | h3
         · exact h2 y h3
         · have : y = b := by omega
           subst this
           exact hiv.2 ⟨hx, hy⟩
       · have hn : ¬ isInv f s := fun hh => hy (hiv.1 (hh a ha b hb)).2
         simp [ha, hb, has, hfr, hsr, hfg, hsg, hf2, hs2, hus, hfu, hsu, hfg2, hsg2, hx, hy, j0n hn]
     · have hn : ¬ isInv f s := fun hh => hx (hiv.1 (hh a ha b hb)).1
       simp [ha, hb, has, hfr, hsr, hfg, hsg, hf2, hs2, hfu, hfg2, hx, j0n hn, j03]
   · rintro e ⟨h2, rfl⟩
     simp
     refine ⟨by omega, fun x hx y hy => ?_⟩
     rcases Nat.lt_or_ge x a with h3 | h3
     · exact h1 x h3 y hy
     · have : x = a := by omega
       subst this
       exact h2 y hy
 · rintro e ⟨h1, rfl⟩
   have hn : isInv f s := fun x hx y hy => h1 x hx y hy
   simp [j0v hn]


end Go.Mch
namespace Go.Mch

def j4b (n : Nat) (r : List Int) : Prop := r.length = n ∧ ∀ v ∈ r, 0 ≤ v ∧ v < n
def TabN (n : Nat) (t : List (List Int)) : Prop := t.length = n ∧ ∀ r ∈ t, j4b n r
abbrev ownL (p : List Int) : T := .mem .own (some 1) (p.map I)
abbrev j0w (t : List (List Int)) : T := .mem .own (some 1) (rows t)
theorem j4b.set {n i : Nat} {r : List Int} {v : Int} (h : j4b n r) (hv : 0 ≤ v ∧ v < n) : j4b n (r.set i v) := by
 refine ⟨by simpa using h.1, fun x hx => ?_⟩
 rcases List.mem_or_eq_of_mem_set hx with h1 | h1
 · exact h.2 x h1
 · rw [h1]; exact hv
theorem j4b.swap {n i j : Nat} {r : List Int} (h : j4b n r) (hd : r.Nodup) (hi : i < r.length) (hj : j < r.length) : j4b n ((r.set i r[j]).set j r[i]) ∧ ((r.set i r[j]).set j r[i]).Nodup :=
 ⟨(h.set (h.2 _ (List.getElem_mem hj))).set (h.2 _ (List.getElem_mem hi)), (List.set_set_perm hi hj).nodup_iff.2 hd⟩
theorem j68 (n : Nat) : j4b n (idL n) ∧ (idL n).Nodup := by
 refine ⟨⟨by simp [idL], fun v hv => ?_⟩, ?_⟩
 · simp only [idL, List.mem_map, List.mem_range] at hv
   obtain ⟨i, hi, rfl⟩ := hv
   omega
 · unfold idL
   exact List.Pairwise.map _ (fun a b h => by omega) List.nodup_range
theorem S_nxt.at {pg : Pg} (h : S_nxt pg) {c : Rw Int} {s : Int × Int} (hs : Sr c s) {n : Nat} (hn : 0 < n) : ∃ (s' : Int × Int) (r : Nat), (Sr c s' ∧ r < n) ∧ Call pg 336 [src c s, I n] [src c s', I n] (I r) := by
 obtain ⟨s', r, ⟨g1, g2, g3, _⟩, hc⟩ := h c s n hs
 have g3 := g3 (by omega)
 obtain ⟨i, rfl⟩ : ∃ i : Nat, r = i := ⟨r.toNat, by omega⟩
 exact ⟨s', i, ⟨g1, by omega⟩, hc⟩
def S_drw (pg : Pg) : Prop := ∀ (c : Rw Int) (s : Int × Int) (n : Nat), Sr c s → n ≤ 64 → ∃ (s' : Int × Int) (p : List Int), (Sr c s' ∧ j4b n p ∧ p.Nodup) ∧ Call pg 368 [src c s, I n] [src c s', I n] (ownL p)
set_option maxRecDepth 10000 in
theorem t_drw {pg : Pg} (hp : pg.fn 368 = some j4e) (h336 : S_nxt pg) (h334 : S_unit pg) : S_drw pg := by
 intro c s n hs hn
 have hfind := Call.findA (α := (Int × Int) × List Int) (Q := fun Y => Sr c Y.1 ∧ j4b n Y.2 ∧ Y.2.Nodup) (args := [src c s, I n]) (args' := fun Y => [src c Y.1, I n]) (r := fun Y => ownL Y.2) hp rfl (by simp [F.lets, j4e, List.range, List.range.loop]) (by simp [kindOf]) ?_
 · obtain ⟨Y, h1, h2⟩ := hfind
   exact ⟨_, _, h1, h2⟩
 show wp _ _ j4e.body (j6o _ [.t 4] _ _ _) _
 generalize hR : j6o (fun Y : (Int × Int) × List Int => Sr c Y.1 ∧ j4b n Y.2 ∧ Y.2.Nodup) [.t 4] [src c s, I n] (fun Y => [src c Y.1, I n]) (fun Y => ownL Y.2) = R
 simp [j4e]
 refine j0e (h334 n (by omega)) rfl rfl (fun _ => by simp) ?_
 simp
 refine ⟨by omega, ?_⟩
 refine j6d (α := ((Int × Int) × List Int) × Nat) (fun z => z.2) (fun z e => (Sr c z.1.1 ∧ j4b n z.1.2 ∧ z.1.2.Nodup) ∧ z.2 ≤ n ∧ e = fr [(0, some (.val (src c z.1.1))), (1, some (.val (I n))), (5, some (.val (ownL z.1.2))), (6, some (.val (I ((z.2 : Int) - 1))))]) ?_ ((s, idL n), n) _ ⟨⟨hs, (j68 n).1, (j68 n).2⟩, Nat.le_refl _, rfl⟩
 rintro ⟨⟨s1, p⟩, j⟩ e ⟨⟨g1, g2, g3⟩, g4, rfl⟩
 simp only at g1 g2 g3 g4
 by_cases hj : 2 ≤ j
 · obtain ⟨i, rfl⟩ : ∃ i, j = i + 1 := ⟨j - 1, by omega⟩
   obtain ⟨s2, r, ⟨k1, k2⟩, hc⟩ := h336.at g1 (n := i + 1) (by omega)
   have hi : 0 < i := by omega
   have hil : i < p.length := by rw [g2.1]; omega
   have hrl : r < p.length := by rw [g2.1]; omega
   have hsw := g2.swap g3 hil hrl
   simp [hi]
   refine ⟨by omega, ?_⟩
   refine j2a (ts' := [rawB c, I s2.1, H64 s2.2]) (r := I r) (by simpa using hc) ?_
   simp [hil, hrl]
   exact ⟨by omega, by omega, by omega, s2.1, s2.2, (p.set i p[r]).set r p[i], i, by omega, ⟨k1, hsw.1, hsw.2⟩, by omega, by simp only [ownL, List.map_set]⟩
 · have hj' : ¬ (1 : Int) < (j : Int) := by omega
   simp [hj']
   subst hR
   exact ⟨(s1, p), ⟨g1, g2, g3⟩, by simp [post]⟩
theorem j7t (t : List (List Int)) (q : List Int) : rows (t ++ [q]) = rows t ++ [ownL q] := by simp [rows]
theorem TabN.snoc {n k : Nat} {t : List (List Int)} {r : List Int} (h : t.length = k ∧ ∀ r ∈ t, j4b n r) (hr : j4b n r) : (t ++ [r]).length = k + 1 ∧ ∀ x ∈ t ++ [r], j4b n x :=
 ⟨by simp [h.1], fun x hx => by
  rcases List.mem_append.1 hx with h1 | h1
  · exact h.2 x h1
  · rw [List.mem_singleton.1 h1]; exact hr⟩
def S_tbs (pg : Pg) : Prop := ∀ (c : Rw Int) (s : Int × Int) (n : Nat), Sr c s → 0 < n → n ≤ 64 → ∃ (s' : Int × Int) (t : List (List Int)), (Sr c s' ∧ TabN n t) ∧ Call pg 428 [src c s, I n] [src c s', I n] (j0w t)
set_option maxRecDepth 10000 in
theorem t_tbs {pg : Pg} (hp : pg.fn 428 = some j3a) (h336 : S_nxt pg) (h368 : S_drw pg) : S_tbs pg := by
 intro c s n hs h0 hn
 have hfind := Call.findA (α := (Int × Int) × List (List Int)) (Q := fun Y => Sr c Y.1 ∧ TabN n Y.2) (args := [src c s, I n]) (args' := fun Y => [src c Y.1, I n]) (r := fun Y => j0w Y.2) hp rfl (by simp [F.lets, j3a, List.range, List.range.loop]) (by simp [kindOf]) ?_
 · obtain ⟨Y, h1, h2⟩ := hfind
   exact ⟨_, _, h1, h2⟩
 show wp _ _ j3a.body (j6o _ [.t 4] _ _ _) _
 generalize hR : j6o (fun Y : (Int × Int) × List (List Int) => Sr c Y.1 ∧ TabN n Y.2) [.t 4] [src c s, I n] (fun Y => [src c Y.1, I n]) (fun Y => j0w Y.2) = R
 obtain ⟨s1, kd, ⟨k1, _⟩, hc1⟩ := h336.at hs (n := 3) (by omega)
 obtain ⟨s2, p, ⟨k2, k3, _⟩, hc2⟩ := h368 c s1 n k1 hn
 simp [j3a]
 refine j2a (ts' := [rawB c, I s1.1, H64 s1.2]) (r := I kd) (by simpa using hc1) ?_
 simp
 refine j2a (ts' := [rawB c, I s2.1, H64 s2.2]) (r := ownL p) (by simpa using hc2) ?_
 simp
 refine j0a (fun k e => ∃ (s3 : Int × Int) (t : List (List Int)), (Sr c s3 ∧ t.length = k ∧ ∀ r ∈ t, j4b n r) ∧ e = fr [(0, some (.val (src c s3))), (1, some (.val (I n))), (5, some (.val (j0w t))), (6, some (.val (I kd))), (7, some (.val (ownL p))), (8, some (.val (I k)))]) n ?_ ?_ 0 _ (by omega) ⟨s2, [], ⟨k2, rfl, by simp⟩, rfl⟩
 · rintro k e hk ⟨s3, t, ⟨g1, g2, g3⟩, rfl⟩
   obtain ⟨s4, q, ⟨j1, j2, _⟩, hc3⟩ := h368 c s3 n g1 hn
   simp [hk]
   refine j2a (ts' := [rawB c, I s4.1, H64 s4.2]) (r := ownL q) (by simpa using hc3) ?_
   simp
   by_cases hk0 : kd = 0
   · simp [hk0]
     refine j0a (fun j e => ∃ (s5 : Int × Int) (q : List Int), (Sr c s5 ∧ j4b n q) ∧ e = fr [(0, some (.val (src c s5))), (1, some (.val (I n))), (5, some (.val (j0w t))), (6, some (.val (I 0))), (7, some (.val (ownL p))), (8, some (.val (I k))), (9, some (.val (ownL q))), (10, some (.val (I j)))]) n ?_ ?_ 0 _ (by omega) ⟨s4, q, ⟨j1, j2⟩, by simp⟩
     · rintro j e hj ⟨s5, q, ⟨i1, i2⟩, rfl⟩
       obtain ⟨s6, r, ⟨m1, m2⟩, hc4⟩ := h336.at i1 (n := n) h0
       have hl : j < q.length := by rw [i2.1]; exact hj
       simp [hj]
       refine j2a (ts' := [rawB c, I s6.1, H64 s6.2]) (r := I r) (by simpa using hc4) ?_
       simp [hl]
       exact ⟨by omega, by omega, s6.1, s6.2, q.set j r, ⟨m1, i2.set ⟨by omega, by omega⟩⟩, by simp only [ownL, List.map_set]⟩
     · rintro e ⟨s5, q, ⟨i1, i2⟩, rfl⟩
       simp
       exact ⟨by unfold roomy; omega, by omega, s5.1, s5.2, t ++ [q], ⟨i1, (TabN.snoc ⟨g2, g3⟩ i2).1, (TabN.snoc ⟨g2, g3⟩ i2).2⟩, by simp only [j0w, j7t]⟩
   · by_cases hk1 : kd = 1
     · simp [hk1]
       refine j0a (fun j e => ∃ (q : List Int), j4b n q ∧ e = fr [(0, some (.val (src c s4))), (1, some (.val (I n))), (5, some (.val (j0w t))), (6, some (.val (I 1))), (7, some (.val (ownL p))), (8, some (.val (I k))), (9, some (.val (ownL q))), (11, some (.val (I j)))]) n ?_ ?_ 0 _ (by omega) ⟨q, j2, by simp⟩
       · rintro j e hj ⟨q, i2, rfl⟩
         have hl : j < q.length := by rw [i2.1]; exact hj
         obtain ⟨m, hm, hm2⟩ : ∃ m : Nat, ((k : Int) + j).tmod n = m ∧ m < p.length := ⟨(k + j) % n, by rw [Int.tmod_eq_emod_of_nonneg (by omega), Int.natCast_emod, Int.natCast_add], by rw [k3.1]; exact Nat.mod_lt _ h0⟩
         have hn0 : ¬ n = 0 := by omega
         have hv := k3.2 _ (List.getElem_mem hm2)
         simp [hj, hl, hm, hm2, hn0]
         exact ⟨by omega, by omega, by omega, q.set j p[m], i2.set hv, by simp only [ownL, List.map_set]⟩
       · rintro e ⟨q, i2, rfl⟩
         simp
         exact ⟨by unfold roomy; omega, by omega, s4.1, s4.2, t ++ [q], ⟨j1, (TabN.snoc ⟨g2, g3⟩ i2).1, (TabN.snoc ⟨g2, g3⟩ i2).2⟩, by simp only [j0w, j7t]⟩
     · have hk1' : ¬ (kd : Int) = 1 := by omega
       simp [hk0, hk1']
       exact ⟨by unfold roomy; omega, by omega, s4.1, s4.2, t ++ [q], ⟨j1, (TabN.snoc ⟨g2, g3⟩ j2).1, (TabN.snoc ⟨g2, g3⟩ j2).2⟩, by simp only [j0w, j7t]⟩
 · rintro e ⟨s3, t, ⟨g1, g2, g3⟩, rfl⟩
   simp
   subst hR
   exact ⟨(s3, t), ⟨g1, g2, g3⟩, by simp [post]⟩
end Go.Mch
namespace Go.Mch

theorem Pm.inL {p : List Int} (h : Pm p) : inN p.length p := h.pm.1
theorem invL_get {p : List Int} {x : Nat} (h : x < (invL p).length) : (invL p)[x] = (invQ p x : Int) := by simp [invL]

end Go.Mch
namespace Go.Mch
def imZ (t : List (List Int)) (p : List Int) (a b : Nat) : List (List Int) := tabL t.length fun x y => if invQ p x < a ∨ (invQ p x = a ∧ invQ p y < b) then imG t p x y else 0
@[simp] theorem imZ_length (t : List (List Int)) (p : List Int) (a b : Nat) : (imZ t p a b).length = t.length := by simp [imZ]
theorem imZ_row (t : List (List Int)) (p : List Int) (a b : Nat) {i : Nat} (h : i < (imZ t p a b).length) : (imZ t p a b)[i].length = t.length := j7e (by rw [← imZ]; exact List.getElem_mem h)
theorem imZ_next {t : List (List Int)} {p : List Int} (h : Pm p) (hl : p.length = t.length) (a : Nat) : imZ t p a t.length = imZ t p (a + 1) 0 := by
 apply tabL_congr
 intro x y hx hy
 have := h.lt (x := y) (by omega)
 have e : (invQ p x < a ∨ (invQ p x = a ∧ invQ p y < t.length)) ↔ (invQ p x < a + 1 ∨ (invQ p x = a + 1 ∧ invQ p y < 0)) := by omega
 simp only [e]
theorem imZ_last {t : List (List Int)} {p : List Int} (h : Pm p) (hl : p.length = t.length) : imZ t p t.length 0 = imT t p := by
 apply tabL_congr
 intro x y hx hy
 have := h.lt (x := x) (by omega)
 rw [if_pos (by omega)]
theorem imZ_set {t : List (List Int)} {p : List Int} (h : Pm p) (hl : p.length = t.length) {a b : Nat} (ha : a < p.length) (hb : b < p.length) {P Q : Nat} (hP : (p[a]).toNat = P) (hQ : (p[b]).toNat = Q) (hPl : P < (imZ t p a b).length) :
 (imZ t p a b).set P ((imZ t p a b)[P].set Q (p.getD (v2 t a b).toNat 0)) = imZ t p a (b + 1) := by
 have qP : invQ p P = a := hP ▸ h.back ha
 have qQ : invQ p Q = b := hQ ▸ h.back hb
 have hinj : ∀ x, x < p.length → invQ p x = a → x = P := fun x hx he => by
  have := h.at hx
  rw [he] at this
  simp [ha] at this
  omega
 have hinj2 : ∀ x, x < p.length → invQ p x = b → x = Q := fun x hx he => by
  have := h.at hx
  rw [he] at this
  simp [hb] at this
  omega
 apply List.ext_getElem
 · simp
 · intro i h1 h2
   have hi : i < t.length := by simpa using h2
   rw [List.getElem_set]
   by_cases hiP : P = i
   · subst hiP
     rw [if_pos rfl]
     apply List.ext_getElem
     · simp [imZ_row]
     · intro j h3 h4
       have hj : j < t.length := by simpa [imZ_row] using h4
       rw [List.getElem_set]
       simp only [imZ, tabL, List.getElem_map, List.getElem_range]
       by_cases hjQ : Q = j
       · subst hjQ
         rw [if_pos rfl, if_pos (by omega), imG, qP, qQ]
       · rw [if_neg hjQ]
         have : invQ p j ≠ b := fun he => hjQ (hinj2 j (by omega) he).symm
         have e : (invQ p P < a ∨ (invQ p P = a ∧ invQ p j < b)) ↔ (invQ p P < a ∨ (invQ p P = a ∧ invQ p j < b + 1)) := by omega
         simp only [e]
   · rw [if_neg hiP]
     have hne : invQ p i ≠ a := fun he => hiP (hinj i (by omega) he).symm
     simp only [imZ, tabL, List.getElem_map, List.getElem_range]
     refine List.map_congr_left fun j _ => ?_
     have e : (invQ p i < a ∨ (invQ p i = a ∧ invQ p j < b)) ↔ (invQ p i < a ∨ (invQ p i = a ∧ invQ p j < b + 1)) := by omega
     simp only [e]
def zTab (n k : Nat) : List (List Int) := (List.range k).map fun _ => List.replicate n 0
theorem imZ_zero (t : List (List Int)) (p : List Int) : imZ t p 0 0 = zTab t.length t.length := by
 unfold imZ zTab tabL
 refine List.map_congr_left fun x _ => ?_
 apply List.ext_getElem
 · simp
 · intro i h1 h2; simp
theorem imZ_setD {t : List (List Int)} {p : List Int} (h : Pm p) (hl : p.length = t.length) {a b : Nat} (ha : a < p.length) (hb : b < p.length) {P Q : Nat} (hP : (p[a]).toNat = P) (hQ : (p[b]).toNat = Q) :
 (imZ t p a b).set P (((imZ t p a b).getD P []).set Q (p.getD (v2 t a b).toNat 0)) = imZ t p a (b + 1) := by
 have ra := h.inL _ (List.getElem_mem ha)
 have hPl : P < (imZ t p a b).length := by rw [imZ_length]; omega
 have := imZ_set h hl ha hb hP hQ hPl
 rw [← this, List.getD_eq_getElem?_getD, List.getElem?_eq_getElem hPl]
 rfl
set_option maxRecDepth 10000 in
theorem t_rename {pg : Pg} (hp : pg.fn 367 = some j35) : S_image pg 367 := by
 intro t p ht h hl
 have h12 := h.sm
 have h0 := h.pos
 refine Call.intro hp rfl (by simp) ?_
 show wp _ _ j35.body (post [.t 4] _ _ _) _
 simp [j35]
 refine j0a (fun k e => e = fr [(0, some (.val (tb t))), (1, some (.val (ix p))), (5, some (.val (j0w (zTab t.length k)))), (6, some (.val (I k)))]) t.length ?_ ?_ 0 _ (by omega) ?_
 · rintro k e hk rfl
   have hz : (zTab t.length (k + 1)) = zTab t.length k ++ [List.replicate t.length 0] := by simp [zTab, List.range_succ]
   have hzl : (zTab t.length k).length = k := by simp [zTab]
   rw [hz]
   generalize zTab t.length k = Z at *
   simp [hk]
   exact ⟨by unfold roomy; omega, by unfold roomy; omega, by omega, by simp only [j0w, ownL, j7t, List.map_replicate]⟩
 · rintro e rfl
   rw [← imZ_zero t p]
   simp
   refine j0a (fun a e => e = fr [(0, some (.val (tb t))), (1, some (.val (ix p))), (5, some (.val (j0w (imZ t p a 0)))), (7, some (.val (I a)))]) t.length ?_ ?_ 0 _ (by omega) ?_
   · rintro a e ha rfl
     rw [← imZ_next h hl a]
     have hap : a < p.length := by omega
     have ra := h.inL _ (List.getElem_mem hap)
     have hXl := imZ_length t p a 0
     have hXr := fun {i : Nat} hi => imZ_row t p a 0 (i := i) hi
     obtain ⟨P, hP⟩ : ∃ P, p[a] = P := ⟨_, rfl⟩
     rw [hP] at ra
     obtain ⟨P, rfl⟩ : ∃ P' : Nat, P = P' := ⟨P.toNat, by omega⟩
     have hPX : P < (imZ t p a 0).length := by omega
     have hr := hXr hPX
     have hPt : P < t.length := by omega
     have hgr : (rows (imZ t p a 0))[P]? = some (ownL (imZ t p a 0)[P]) := by rw [j6a, List.getElem?_eq_getElem hPX]; rfl
     simp [ha, hap, hP, hPt, hr]
     refine j0a (fun b e => e = fr [(0, some (.val (tb t))), (1, some (.val (ix p))), (5, some (.val (j0w (imZ t p a b)))), (7, some (.val (I a))), (8, some (.sref 5 [P] 1 0 t.length)), (9, some (.val (I b)))]) t.length ?_ ?_ 0 _ (by omega) rfl
     · rintro b e hb rfl
       have hbp : b < p.length := by omega
       have rb := h.inL _ (List.getElem_mem hbp)
       have hXl := imZ_length t p a b
       have hXr := fun {i : Nat} hi => imZ_row t p a b (i := i) hi
       obtain ⟨Q, hQ⟩ : ∃ Q, p[b] = Q := ⟨_, rfl⟩
       rw [hQ] at rb
       obtain ⟨Q, rfl⟩ : ∃ Q' : Nat, Q = Q' := ⟨Q.toNat, by omega⟩
       have hset := imZ_setD h hl hap hbp (P := P) (Q := Q) (by rw [hP]; simp) (by rw [hQ]; simp)
       have hrow := ht.row ha
       have hbr : b < (t[a]).length := by rw [hrow]; exact hb
       have hv := j3t ha hbr
       have hv1 := ht.nonneg a b
       have hv2 := ht.lt (by omega) a b
       rw [← hset]
       clear hset
       generalize v2 t a b = v at *
       have hvl : v.toNat < p.length := by omega
       have hvl2 : v < p.length := by omega
       have hg : p[v.toNat] = p.getD v.toNat 0 := by simp [hvl]
       generalize p.getD v.toNat 0 = w at *
       clear hgr hr
       generalize imZ t p a b = X at *
       have hPX' : P < X.length := by omega
       have hr := hXr hPX'
       have hXg : X.getD P [] = X[P] := by simp [hPX']
       rw [hXg]
       have hQX : Q < (X[P]).length := by omega
       have hQt : (Q : Int) < t.length := by omega
       have hQt2 : Q < t.length := by omega
       have hgr : (rows X)[P]? = some (ownL X[P]) := by rw [j6a, List.getElem?_eq_getElem hPX']; rfl
       simp [ha, hb, hbp, hQ, hrow, hv, hvl, hvl2, hv1, hg, hPX', hQX, hQt]
       exact ⟨by omega, by omega, by simp only [j0w, ← rows_set2 hPX']⟩
     · rintro e rfl
       simp
       omega
   · rintro e rfl
     rw [imZ_last h hl]
     simp
   · simp
 · simp only [zTab, j0w, rows, List.range_zero, List.map_nil]; rfl
def S_renS (pg : Pg) : Prop := ∀ (f s : List (List Int)) (p : List Int), Tab f → Tab s → Pm p → p.length = f.length → p.length = s.length → Call pg 422 [sol f s, ix p] [sol f s, ix p] (.agg [j0w (imT f p), j0w (imT s p)])
set_option maxRecDepth 10000 in
theorem t_renS {pg : Pg} (hp : pg.fn 422 = some j34) (h367 : S_image pg 367) : S_renS pg := by
 intro f s p hf hs h hl hl2
 refine Call.intro hp rfl (by simp) ?_
 show wp _ _ j34.body (post [.cell 4 (some 2)] _ _ _) _
 simp [j34]
 refine j0e (h367 f p hf h hl) rfl rfl (fun _ => by simp) ?_
 simp
 refine j0e (h367 s p hs h hl2) rfl rfl (fun _ => by simp) ?_
 simp
theorem imT_tabN {n : Nat} {t : List (List Int)} {p : List Int} (ht : TabN n t) (hp : Pm p) (hl : p.length = n) : TabN n (imT t p) := by
 have h1 : Tab t := fun r hr => ⟨by rw [(ht.2 r hr).1, ht.1], fun v hv => by rw [ht.1]; exact (ht.2 r hr).2 v hv⟩
 refine ⟨by rw [imT, tabL_length]; exact ht.1, fun r hr => ⟨by rw [j7e hr]; exact ht.1, fun v hv => ?_⟩⟩
 obtain ⟨x, hx, rfl⟩ := List.mem_map.1 hr
 obtain ⟨y, hy, rfl⟩ := List.mem_map.1 hv
 simp only [List.mem_range] at hx hy
 have hpos := hp.pos
 have a1 := h1.nonneg (invQ p x) (invQ p y)
 have a2 := h1.lt (by rw [ht.1]; omega) (invQ p x) (invQ p y)
 have a3 : (v2 t (invQ p x) (invQ p y)).toNat < p.length := by rw [ht.1] at a2; omega
 have a4 := hp.inL _ (List.getElem_mem a3)
 simp only [imG, List.getD_eq_getElem?_getD, List.getElem?_eq_getElem a3, Option.getD_some]
 omega

def PMN (n : Nat) (f s : List (List Int)) : Prop := TabN n f ∧ TabN n s
abbrev ownS (X : List (List Int) × List (List Int)) : T := .agg [j0w X.1, j0w X.2]
def j54 (X : List (List Int)) : T := if X = [] then nil else j0w X
@[simp] theorem ownN2_nil : j54 [] = nil := rfl
theorem j7o {n : Nat} {a : List Int} (h : j4b n a) : ∀ x ∈ [a], j4b n x := fun x hx => by rw [List.mem_singleton.1 hx]; exact h
theorem j5l {n : Nat} {a : List Int} {x : Int} (h : ∀ v ∈ a, 0 ≤ v ∧ v < n) (hx : 0 ≤ x ∧ x < n) : ∀ v ∈ a ++ [x], 0 ≤ v ∧ v < n := fun v hv => by
 rcases List.mem_append.1 hv with h1 | h1
 · exact h v h1
 · rw [List.mem_singleton.1 h1]; exact hx
theorem j2j {X : List (List Int)} {k : Nat} (h : X.length = k) (hk : 0 < k) : j54 X = j0w X := if_neg fun h0 => by rw [h0] at h; simp at h; omega
theorem j53 (X : List (List Int)) (r : List Int) : j54 (X ++ [r]) = .mem .own (some 1) (rows X ++ [ownL r]) := by
 rw [j54, if_neg (by simp), j0w, j7t]
def S_poly (pg : Pg) : Prop := ∀ n : Nat, 0 < n → n ≤ 64 → ∃ X : List (List Int) × List (List Int), PMN n X.1 X.2 ∧ Call pg 423 [I n] [I n] (ownS X)
set_option maxRecDepth 10000 in
theorem t_poly {pg : Pg} (hp : pg.fn 423 = some j16) : S_poly pg := by
 intro n h0 hn
 refine Call.find hp rfl (by simp) ?_
 show wp _ _ j16.body _ _
 generalize hR : (fun (x : X) (e : Env) => ∃ l : List (List Int) × List (List Int), PMN n l.1 l.2 ∧ post j16.rs [I n] [I n] (ownS l) x e) = R
 simp [j16]
 refine j0a (fun k e => ∃ f s : List (List Int), ((f.length = k ∧ ∀ r ∈ f, j4b n r) ∧ s.length = k ∧ ∀ r ∈ s, j4b n r) ∧ e = fr [(0, some (.val (I n))), (2, some (.val (.mem .own none [nil, nil]))), (3, some (.val (.mem .own none [j54 f, j54 s]))), (4, some (.val (I k)))]) n ?_ ?_ 0 _ (by omega) ⟨[], [], ⟨⟨rfl, by simp⟩, rfl, by simp⟩, rfl⟩
 · rintro k e hk ⟨f, s, ⟨⟨g1, g2⟩, g3, g4⟩, rfl⟩
   simp [hk]
   refine j0a (fun j e => ∃ a b : List Int, ((a.length = j ∧ ∀ v ∈ a, 0 ≤ v ∧ v < n) ∧ b.length = j ∧ ∀ v ∈ b, 0 ≤ v ∧ v < n) ∧ e = fr [(0, some (.val (I n))), (2, some (.val (.mem .own none [nil, nil]))), (3, some (.val (.mem .own none [j54 f, j54 s]))), (4, some (.val (I k))), (5, some (.val (ownL a))), (6, some (.val (ownL b))), (7, some (.val (I j)))]) n ?_ ?_ 0 _ (by omega) ⟨[], [], ⟨⟨rfl, by simp⟩, rfl, by simp⟩, rfl⟩
   · rintro j e hj ⟨a, b, ⟨⟨i1, i2⟩, i3, i4⟩, rfl⟩
     obtain ⟨m, hm, hm2⟩ : ∃ m : Nat, ((2 : Int) * k - j + n).tmod n = m ∧ m < n := by
      have h1 : 0 ≤ (2 : Int) * k - j + n := by omega
      refine ⟨((2 : Int) * k - j + n).toNat % n, ?_, Nat.mod_lt _ h0⟩
      rw [Int.tmod_eq_emod_of_nonneg h1, Int.natCast_emod, Int.toNat_of_nonneg h1]
     have hn0 : ¬ n = 0 := by omega
     simp [hj, hm, hn0]
     exact ⟨by omega, by omega, by omega, by unfold roomy; omega, by unfold roomy; omega, by omega, a ++ [(m : Int)], b ++ [(k : Int)], ⟨⟨by simp [i1], j5l i2 (by omega)⟩, by simp [i3], j5l i4 (by omega)⟩, by simp only [ownL, List.map_append, List.map_cons, List.map_nil]⟩
   · rintro e ⟨a, b, ⟨⟨i1, i2⟩, i3, i4⟩, rfl⟩
     by_cases hk0 : k = 0
     · subst hk0
       obtain rfl : f = [] := List.length_eq_zero_iff.1 g1
       obtain rfl : s = [] := List.length_eq_zero_iff.1 g3
       simp
       exact ⟨by unfold roomy; omega, [a], [b], ⟨⟨rfl, j7o ⟨i1, i2⟩⟩, rfl, j7o ⟨i3, i4⟩⟩, rfl⟩
     · rw [j2j g1 (by omega), j2j g3 (by omega)]
       simp
       exact ⟨by unfold roomy; omega, by unfold roomy; omega, by omega, f ++ [a], s ++ [b], ⟨TabN.snoc ⟨g1, g2⟩ ⟨i1, i2⟩, TabN.snoc ⟨g3, g4⟩ ⟨i3, i4⟩⟩, by simp only [j53]⟩
 · rintro e ⟨f, s, ⟨⟨g1, g2⟩, g3, g4⟩, rfl⟩
   have hf : j54 f = j0w f := if_neg fun h => by rw [h] at g1; simp at g1; omega
   have hs : j54 s = j0w s := if_neg fun h => by rw [h] at g3; simp at g3; omega
   rw [hf, hs]
   simp
   subst hR
   exact ⟨(f, s), ⟨⟨g1, g2⟩, g3, g4⟩, by simp [post, j16]⟩
end Go.Mch
namespace Go.Mch
def S_twst (pg : Pg) : Prop := ∀ (n : Nat) (p q : List Int), 0 < n → n ≤ 64 → j4b n p → j4b n q → ∃ X : List (List Int) × List (List Int), (PMN n X.1 X.2 ∧ ∀ r ∈ X.1, r = p) ∧ Call pg 425 [ix p, ix q] [ix p, ix q] (ownS X)
set_option maxRecDepth 10000 in
theorem t_twst {pg : Pg} (hp : pg.fn 425 = some j24) (h31 : S_own pg) : S_twst pg := by
 intro n p q h0 hn hP hQ
 have hpl := hP.1
 have hql := hQ.1
 refine Call.find hp rfl (by simp) ?_
 show wp _ _ j24.body _ _
 generalize hR : (fun (x : X) (e : Env) => ∃ l : List (List Int) × List (List Int), (PMN n l.1 l.2 ∧ ∀ r ∈ l.1, r = p) ∧ post j24.rs [ix p, ix q] [ix p, ix q] (ownS l) x e) = R
 simp [j24]
 refine j0a (fun k e => ∃ f s : List (List Int), ((f.length = k ∧ ∀ r ∈ f, r = p) ∧ s.length = k ∧ ∀ r ∈ s, j4b n r) ∧ e = fr [(0, some (.val (ix p))), (1, some (.val (ix q))), (4, some (.val (.mem .own none [nil, nil]))), (5, some (.val (.mem .own none [j54 f, j54 s]))), (6, some (.val (I k)))]) n ?_ ?_ 0 _ (by omega) ⟨[], [], ⟨⟨rfl, by simp⟩, rfl, by simp⟩, rfl⟩
 · rintro k e hk ⟨f, s, ⟨⟨g1, g2⟩, g3, g4⟩, rfl⟩
   have hkq : k < q.length := by omega
   have hv := hQ.2 _ (List.getElem_mem hkq)
   simp [hk, hpl]
   refine j0a (fun j e => ∃ b : List Int, (b.length = j ∧ ∀ v ∈ b, 0 ≤ v ∧ v < n) ∧ e = fr [(0, some (.val (ix p))), (1, some (.val (ix q))), (4, some (.val (.mem .own none [nil, nil]))), (5, some (.val (.mem .own none [j54 f, j54 s]))), (6, some (.val (I k))), (7, some (.val (ownL b))), (8, some (.val (I j)))]) n ?_ ?_ 0 _ (by omega) ⟨[], ⟨rfl, by simp⟩, rfl⟩
   · rintro j e hj ⟨b, ⟨i3, i4⟩, rfl⟩
     simp [hj, hpl, hql, hk]
     exact ⟨by unfold roomy; omega, by omega, b ++ [q[k]], ⟨by simp [i3], j5l i4 hv⟩, by simp only [ownL, List.map_append, List.map_cons, List.map_nil]⟩
   · rintro e ⟨b, ⟨i3, i4⟩, rfl⟩
     by_cases hk0 : k = 0
     · subst hk0
       obtain rfl : f = [] := List.length_eq_zero_iff.1 g1
       obtain rfl : s = [] := List.length_eq_zero_iff.1 g3
       simp [hpl]
       refine j0e (h31 p (by omega)) rfl rfl (fun _ => by simp) ?_
       simp
       exact ⟨by unfold roomy; omega, [p], [b], ⟨⟨rfl, by simp⟩, rfl, j7o ⟨i3, i4⟩⟩, rfl⟩
     · rw [j2j g1 (by omega), j2j g3 (by omega)]
       simp [hpl]
       refine j0e (h31 p (by omega)) rfl rfl (fun _ => by simp) ?_
       simp
       exact ⟨by unfold roomy; omega, by unfold roomy; omega, by omega, f ++ [p], s ++ [b], ⟨⟨by simp [g1], fun r hr => by
        rcases List.mem_append.1 hr with h1 | h1
        · exact g2 r h1
        · exact List.mem_singleton.1 h1⟩, TabN.snoc ⟨g3, g4⟩ ⟨i3, i4⟩⟩, by simp only [j53]⟩
 · rintro e ⟨f, s, ⟨⟨g1, g2⟩, g3, g4⟩, rfl⟩
   rw [j2j g1 h0, j2j g3 h0]
   simp [hpl]
   subst hR
   exact ⟨(f, s), ⟨⟨⟨g1, fun r hr => by rw [g2 r hr]; exact hP⟩, g3, g4⟩, g2⟩, by simp [post, j24]⟩
def S_flp (pg : Pg) : Prop := ∀ n : Nat, 0 < n → n ≤ 64 → ∃ X : List (List Int) × List (List Int), (PMN n X.1 X.2 ∧ ∀ r ∈ X.1, r = idL n) ∧ Call pg 449 [I n] [I n] (ownS X)
theorem t_flp {pg : Pg} (hp : pg.fn 449 = some j44) (h334 : S_unit pg) (h425 : S_twst pg) : S_flp pg := by
 intro n h0 hn
 obtain ⟨X, hX, hc⟩ := h425 n (idL n) (idL n) h0 hn (j68 n).1 (j68 n).1
 refine ⟨X, hX, Call.intro hp rfl (by simp) ?_⟩
 show wp _ _ j44.body (post [.cell 2 (some 2)] _ _ _) _
 simp [j44]
 refine j0e (h334 n (by omega)) rfl rfl (fun _ => by simp) ?_
 simp
 refine j0e hc rfl rfl (fun _ => by simp) ?_
 simp
theorem tdivN (a m : Nat) : ((a : Int)).tdiv m = ((a / m : Nat) : Int) := by rw [Int.tdiv_eq_ediv_of_nonneg (by omega), Int.natCast_ediv]
theorem tmodN (a m : Nat) : ((a : Int)).tmod m = ((a % m : Nat) : Int) := by rw [Int.tmod_eq_emod_of_nonneg (by omega), Int.natCast_emod]
theorem TabN.at {n : Nat} {t : List (List Int)} (h : TabN n t) {i j : Nat} (hi : i < n) (hj : j < n) : ∃ (h1 : i < t.length) (h2 : j < (t[i]).length), (t[i]).length = n ∧ 0 ≤ (t[i])[j] ∧ (t[i])[j] < n := by
 have h1 : i < t.length := by rw [h.1]; exact hi
 have h2 := h.2 _ (List.getElem_mem h1)
 have h3 : j < (t[i]).length := by rw [h2.1]; exact hj
 exact ⟨h1, h3, h2.1, h2.2 _ (List.getElem_mem h3)⟩
theorem mul_lt {n m : Nat} {x y : Int} (h0 : 0 ≤ x) (h1 : x < n) (h2 : 0 ≤ y) (h3 : y < m) (hn : n * m ≤ 64) : 0 ≤ x * m + y ∧ x * m + y < (n * m : Nat) ∧ 0 ≤ x * m ∧ x * m ≤ 64 := by
 obtain ⟨x, rfl⟩ : ∃ x' : Nat, x = x' := ⟨x.toNat, by omega⟩
 obtain ⟨y, rfl⟩ : ∃ y' : Nat, y = y' := ⟨y.toNat, by omega⟩
 have h4 : (x + 1) * m ≤ n * m := Nat.mul_le_mul_right m (by omega)
 have h5 : (x + 1) * m = x * m + m := Nat.succ_mul x m
 have h6 : ((x * m : Nat) : Int) = (x : Int) * m := by simp
 omega
def S_prd (pg : Pg) : Prop := ∀ (n m : Nat) (f s f' s' : List (List Int)), 0 < n → 0 < m → n * m ≤ 64 → PMN n f s → PMN m f' s' → ∃ X : List (List Int) × List (List Int), PMN (n * m) X.1 X.2 ∧ Call pg 458 [sol f s, sol f' s'] [sol f s, sol f' s'] (ownS X)
set_option maxRecDepth 10000 in
theorem t_prd {pg : Pg} (hp : pg.fn 458 = some j15) : S_prd pg := by
 intro n m f s f' s' hn0 hm0 hnm hA hB
 have hfl := hA.1.1
 have hsl := hA.2.1
 have hfl' := hB.1.1
 have hsl' := hB.2.1
 have hN : 0 < n * m := Nat.mul_pos hn0 hm0
 obtain ⟨N, hNe⟩ : ∃ N, N = n * m := ⟨_, rfl⟩
 have hNi : (n : Int) * m = N := by rw [hNe]; simp
 have hnl : n ≤ N := by rw [hNe]; exact Nat.le_mul_of_pos_right n hm0
 have hml : m ≤ N := by rw [hNe]; exact Nat.le_mul_of_pos_left m hn0
 rw [← hNe] at hN hnm ⊢
 have hdv : ∀ a, a < N → a / m < n := fun a ha => by rw [hNe, Nat.mul_comm] at ha; exact Nat.div_lt_of_lt_mul ha
 have hmd : ∀ a, a % m < m := fun a => Nat.mod_lt _ hm0
 have hm0' : ¬ (m : Int) = 0 := by omega
 have hm0'' : ¬ m = 0 := by omega
 refine Call.find hp rfl (by simp) ?_
 show wp _ _ j15.body _ _
 generalize hR : (fun (x : X) (e : Env) => ∃ l : List (List Int) × List (List Int), PMN N l.1 l.2 ∧ post j15.rs [sol f s, sol f' s'] [sol f s, sol f' s'] (ownS l) x e) = R
 simp [j15]
 refine j0a (fun k e => ∃ F S : List (List Int), ((F.length = k ∧ ∀ r ∈ F, j4b N r) ∧ S.length = k ∧ ∀ r ∈ S, j4b N r) ∧ e = fr [(2, some (.val (.mem .own none [tb f, tb s]))), (3, some (.val (.mem .own none [tb f', tb s']))), (4, some (.val (.mem .own none [nil, nil]))), (5, some (.val (I n))), (6, some (.val (I m))), (7, some (.val (.mem .own none [j54 F, j54 S]))), (8, some (.val (I k)))]) N ?_ ?_ 0 _ (by omega) ⟨[], [], ⟨⟨rfl, by simp⟩, rfl, by simp⟩, by simp [hfl, hfl']⟩
 · rintro k e hk ⟨F, S, ⟨⟨g1, g2⟩, g3, g4⟩, rfl⟩
   simp [hk, hNi]
   refine ⟨by omega, ?_⟩
   refine j0a (fun j e => ∃ a b : List Int, ((a.length = j ∧ ∀ v ∈ a, 0 ≤ v ∧ v < N) ∧ b.length = j ∧ ∀ v ∈ b, 0 ≤ v ∧ v < N) ∧ e = fr [(2, some (.val (.mem .own none [tb f, tb s]))), (3, some (.val (.mem .own none [tb f', tb s']))), (4, some (.val (.mem .own none [nil, nil]))), (5, some (.val (I n))), (6, some (.val (I m))), (7, some (.val (.mem .own none [j54 F, j54 S]))), (8, some (.val (I k))), (9, some (.val (ownL a))), (10, some (.val (ownL b))), (11, some (.val (I j)))]) N ?_ ?_ 0 _ (by omega) ⟨[], [], ⟨⟨rfl, by simp⟩, rfl, by simp⟩, rfl⟩
   · rintro j e hj ⟨a, b, ⟨⟨i1, i2⟩, i3, i4⟩, rfl⟩
     have q1 := hdv k hk
     have q2 := hdv j hj
     have r1 := hmd k
     have r2 := hmd j
     have d1 := tdivN k m
     have d2 := tdivN j m
     have d3 := tmodN k m
     have d4 := tmodN j m
     generalize k / m = A at *
     generalize j / m = B at *
     generalize k % m = C at *
     generalize j % m = D at *
     obtain ⟨u1, u2, u3, u4, u5⟩ := hA.1.at q1 q2
     obtain ⟨v1, v2, v3, v4, v5⟩ := hA.2.at q1 q2
     obtain ⟨x1, x2, x3, x4, x5⟩ := hB.1.at r1 r2
     obtain ⟨y1, y2, y3, y4, y5⟩ := hB.2.at r1 r2
     have m1 := mul_lt u4 u5 x4 x5 (by omega)
     have m2 := mul_lt v4 v5 y4 y5 (by omega)
     rw [← hNe] at m1 m2
     simp [hj, hNi, d1, d2, d3, d4, hm0'', q1, q2, r1, r2, hfl, hsl, hfl', hsl', u3, v3, x3, y3]
     exact ⟨by omega, by omega, by omega, by omega, by omega, by unfold roomy; omega, by omega, by omega, by omega, by omega, by unfold roomy; omega, by omega, a ++ [f[A][B] * m + f'[C][D]], b ++ [s[A][B] * m + s'[C][D]], ⟨⟨by simp [i1], j5l i2 (by omega)⟩, by simp [i3], j5l i4 (by omega)⟩, by simp only [ownL, List.map_append, List.map_cons, List.map_nil]⟩
   · rintro e ⟨a, b, ⟨⟨i1, i2⟩, i3, i4⟩, rfl⟩
     by_cases hk0 : k = 0
     · subst hk0
       obtain rfl : F = [] := List.length_eq_zero_iff.1 g1
       obtain rfl : S = [] := List.length_eq_zero_iff.1 g3
       simp [hNi]
       exact ⟨by omega, by unfold roomy; omega, [a], [b], ⟨⟨rfl, j7o ⟨i1, i2⟩⟩, rfl, j7o ⟨i3, i4⟩⟩, rfl⟩
     · rw [j2j g1 (by omega), j2j g3 (by omega)]
       simp [hNi]
       exact ⟨by omega, by unfold roomy; omega, by unfold roomy; omega, by omega, F ++ [a], S ++ [b], ⟨TabN.snoc ⟨g1, g2⟩ ⟨i1, i2⟩, TabN.snoc ⟨g3, g4⟩ ⟨i3, i4⟩⟩, by simp only [j53]⟩
 · rintro e ⟨F, S, ⟨⟨g1, g2⟩, g3, g4⟩, rfl⟩
   rw [j2j g1 hN, j2j g3 hN]
   simp [hNi]
   refine ⟨by omega, ?_⟩
   subst hR
   exact ⟨(F, S), ⟨⟨g1, g2⟩, g3, g4⟩, by simp [post, j15]⟩
def S_uni (pg : Pg) : Prop := ∀ (n m : Nat) (f s f' s' : List (List Int)), 0 < n → 0 < m → n + m ≤ 64 → PMN n f s → PMN m f' s' → ∃ X : List (List Int) × List (List Int), PMN (n + m) X.1 X.2 ∧ Call pg 460 [sol f s, sol f' s'] [sol f s, sol f' s'] (ownS X)
set_option maxRecDepth 10000 in
theorem t_uni {pg : Pg} (hp : pg.fn 460 = some j23) : S_uni pg := by
 intro n m f s f' s' hn0 hm0 hnm hA hB
 have hfl := hA.1.1
 have hsl := hA.2.1
 have hfl' := hB.1.1
 have hsl' := hB.2.1
 obtain ⟨N, hNe⟩ : ∃ N, N = n + m := ⟨_, rfl⟩
 have hNi : (n : Int) + m = N := by rw [hNe]; simp
 rw [← hNe] at hnm ⊢
 have hN : 0 < N := by omega
 refine Call.find hp rfl (by simp) ?_
 show wp _ _ j23.body _ _
 generalize hR : (fun (x : X) (e : Env) => ∃ l : List (List Int) × List (List Int), PMN N l.1 l.2 ∧ post j23.rs [sol f s, sol f' s'] [sol f s, sol f' s'] (ownS l) x e) = R
 simp [j23]
 refine j0a (fun k e => ∃ F S : List (List Int), ((F.length = k ∧ ∀ r ∈ F, j4b N r) ∧ S.length = k ∧ ∀ r ∈ S, j4b N r) ∧ e = fr [(2, some (.val (.mem .own none [tb f, tb s]))), (3, some (.val (.mem .own none [tb f', tb s']))), (4, some (.val (.mem .own none [nil, nil]))), (5, some (.val (I n))), (6, some (.val (I m))), (7, some (.val (.mem .own none [j54 F, j54 S]))), (8, some (.val (I k)))]) N ?_ ?_ 0 _ (by omega) ⟨[], [], ⟨⟨rfl, by simp⟩, rfl, by simp⟩, by simp [hfl, hfl']⟩
 · rintro k e hk ⟨F, S, ⟨⟨g1, g2⟩, g3, g4⟩, rfl⟩
   simp [hk, hNi]
   refine ⟨by omega, ?_⟩
   refine j0a (fun j e => ∃ a b : List Int, ((a.length = j ∧ ∀ v ∈ a, 0 ≤ v ∧ v < N) ∧ b.length = j ∧ ∀ v ∈ b, 0 ≤ v ∧ v < N) ∧ e = fr [(2, some (.val (.mem .own none [tb f, tb s]))), (3, some (.val (.mem .own none [tb f', tb s']))), (4, some (.val (.mem .own none [nil, nil]))), (5, some (.val (I n))), (6, some (.val (I m))), (7, some (.val (.mem .own none [j54 F, j54 S]))), (8, some (.val (I k))), (9, some (.val (ownL a))), (10, some (.val (ownL b))), (11, some (.val (I j)))]) N ?_ ?_ 0 _ (by omega) ⟨[], [], ⟨⟨rfl, by simp⟩, rfl, by simp⟩, rfl⟩
   · rintro j e hj ⟨a, b, ⟨⟨i1, i2⟩, i3, i4⟩, rfl⟩
     by_cases ck : k < n
     · by_cases cj : j < n
       · obtain ⟨u1, u2, u3, u4, u5⟩ := hA.1.at ck cj
         obtain ⟨v1, v2, v3, v4, v5⟩ := hA.2.at ck cj
         simp [hj, hNi, ck, cj, hfl, hsl, u3, v3]
         exact ⟨by omega, by unfold roomy; omega, by unfold roomy; omega, by omega, a ++ [f[k][j]], b ++ [s[k][j]], ⟨⟨by simp [i1], j5l i2 (by omega)⟩, by simp [i3], j5l i4 (by omega)⟩, by simp only [ownL, List.map_append, List.map_cons, List.map_nil]⟩
       · have ck' : ¬ n ≤ k := by omega
         simp [hj, hNi, ck, cj, ck', j03]
         exact ⟨by omega, by unfold roomy; omega, by unfold roomy; omega, by omega, a ++ [(j : Int)], b ++ [(k : Int)], ⟨⟨by simp [i1], j5l i2 (by omega)⟩, by simp [i3], j5l i4 (by omega)⟩, by simp only [ownL, List.map_append, List.map_cons, List.map_nil]⟩
     · have ck' : n ≤ k := by omega
       by_cases cj : n ≤ j
       · obtain ⟨A, hAk⟩ : ∃ A : Nat, (k : Int) - n = A := ⟨k - n, by omega⟩
         obtain ⟨B, hBj⟩ : ∃ B : Nat, (j : Int) - n = B := ⟨j - n, by omega⟩
         have cA : A < m := by omega
         have cB : B < m := by omega
         obtain ⟨u1, u2, u3, u4, u5⟩ := hB.1.at cA cB
         obtain ⟨v1, v2, v3, v4, v5⟩ := hB.2.at cA cB
         simp [hj, hNi, ck, ck', cj, cA, cB, hfl', hsl', u3, v3, hAk, hBj, j03]
         exact ⟨by omega, by omega, by omega, by omega, by unfold roomy; omega, by omega, by omega, by omega, by unfold roomy; omega, by omega, a ++ [f'[A][B] + n], b ++ [s'[A][B] + n], ⟨⟨by simp [i1], j5l i2 (by omega)⟩, by simp [i3], j5l i4 (by omega)⟩, by simp only [ownL, List.map_append, List.map_cons, List.map_nil]⟩
       · simp [hj, hNi, ck, cj, ck', j03]
         exact ⟨by omega, by unfold roomy; omega, by unfold roomy; omega, by omega, a ++ [(j : Int)], b ++ [(k : Int)], ⟨⟨by simp [i1], j5l i2 (by omega)⟩, by simp [i3], j5l i4 (by omega)⟩, by simp only [ownL, List.map_append, List.map_cons, List.map_nil]⟩
   · rintro e ⟨a, b, ⟨⟨i1, i2⟩, i3, i4⟩, rfl⟩
     by_cases hk0 : k = 0
     · subst hk0
       obtain rfl : F = [] := List.length_eq_zero_iff.1 g1
       obtain rfl : S = [] := List.length_eq_zero_iff.1 g3
       simp [hNi]
       exact ⟨by omega, by unfold roomy; omega, [a], [b], ⟨⟨rfl, j7o ⟨i1, i2⟩⟩, rfl, j7o ⟨i3, i4⟩⟩, rfl⟩
     · rw [j2j g1 (by omega), j2j g3 (by omega)]
       simp [hNi]
       exact ⟨by omega, by unfold roomy; omega, by unfold roomy; omega, by omega, F ++ [a], S ++ [b], ⟨TabN.snoc ⟨g1, g2⟩ ⟨i1, i2⟩, TabN.snoc ⟨g3, g4⟩ ⟨i3, i4⟩⟩, by simp only [j53]⟩
 · rintro e ⟨F, S, ⟨⟨g1, g2⟩, g3, g4⟩, rfl⟩
   rw [j2j g1 hN, j2j g3 hN]
   simp [hNi]
   refine ⟨by omega, ?_⟩
   subst hR
   exact ⟨(F, S), ⟨⟨g1, g2⟩, g3, g4⟩, by simp [post, j23]⟩
end Go.Mch
namespace Go.Mch
theorem zeroT_tabN {n : Nat} (h : 0 < n) : TabN n (zeroT n n) := by
 refine ⟨by simp [zeroT], fun r hr => ?_⟩
 simp only [zeroT, List.mem_replicate] at hr
 rw [hr.2]
 refine ⟨by simp, fun v hv => ?_⟩
 simp only [List.mem_replicate] at hv
 omega
theorem TabN.set2 {n i j : Nat} {t : List (List Int)} {v : Int} (h : TabN n t) (hi : i < t.length) (hv : 0 ≤ v ∧ v < n) : TabN n (t.set i (t[i].set j v)) := by
 refine ⟨by simpa using h.1, fun x hx => ?_⟩
 rcases List.mem_or_eq_of_mem_set hx with h1 | h1
 · exact h.2 x h1
 · rw [h1]; exact (h.2 _ (List.getElem_mem hi)).set hv
def S_invW (pg : Pg) : Prop := ∀ (n : Nat) (f s : List (List Int)), 0 < n → n ≤ 64 → PMN n f s → ∃ X : List (List Int) × List (List Int), PMN n X.1 X.2 ∧ Call pg 406 [sol f s] [sol f s] (ownS X)
set_option maxRecDepth 10000 in
theorem t_invW {pg : Pg} (hp : pg.fn 406 = some j17) (h398 : S_empty pg) : S_invW pg := by
 intro n f s h0 hn hA
 have hfl := hA.1.1
 have hsl := hA.2.1
 refine Call.find hp rfl (by simp) ?_
 show wp _ _ j17.body _ _
 generalize hR : (fun (x : X) (e : Env) => ∃ l : List (List Int) × List (List Int), PMN n l.1 l.2 ∧ post j17.rs [sol f s] [sol f s] (ownS l) x e) = R
 simp [j17]
 rw [hfl]
 refine j0e (h398 n h0 (by omega)) rfl rfl (fun _ => by simp) ?_
 simp
 refine j0a (fun a e => ∃ F S : List (List Int), PMN n F S ∧ e = fr [(1, some (.val (.mem .own none [tb f, tb s]))), (2, some (.val (.mem .own none [nil, nil]))), (3, some (.val (I n))), (4, some (.val (.mem .own none [j0w F, j0w S]))), (5, some (.val (I a)))]) n ?_ ?_ 0 _ (by omega) ⟨zeroT n n, zeroT n n, ⟨zeroT_tabN h0, zeroT_tabN h0⟩, rfl⟩
 · rintro a e ha ⟨F, S, hX, rfl⟩
   simp [ha]
   refine j0a (fun b e => ∃ F S : List (List Int), PMN n F S ∧ e = fr [(1, some (.val (.mem .own none [tb f, tb s]))), (2, some (.val (.mem .own none [nil, nil]))), (3, some (.val (I n))), (4, some (.val (.mem .own none [j0w F, j0w S]))), (5, some (.val (I a))), (6, some (.val (I b)))]) n ?_ ?_ 0 _ (by omega) ⟨F, S, hX, by simp⟩
   · rintro b e hb ⟨F, S, hX, rfl⟩
     obtain ⟨u1, u2, u3, u4, u5⟩ := hA.1.at ha hb
     obtain ⟨v1, v2, v3, v4, v5⟩ := hA.2.at ha hb
     obtain ⟨P, hP⟩ : ∃ P : Nat, (f[a])[b] = P := ⟨((f[a])[b]).toNat, by omega⟩
     obtain ⟨Q, hQ⟩ : ∃ Q : Nat, (s[a])[b] = Q := ⟨((s[a])[b]).toNat, by omega⟩
     rw [hP] at u4 u5
     rw [hQ] at v4 v5
     have hPn : P < n := by omega
     have hQn : Q < n := by omega
     obtain ⟨x1, x2, x3, _⟩ := hX.1.at hPn hQn
     obtain ⟨y1, y2, y3, _⟩ := hX.2.at hPn hQn
     have w1 := hX.1.1
     have w2 := hX.2.1
     have hg1 : (rows F)[P]? = some (ownL F[P]) := by rw [j6a, List.getElem?_eq_getElem x1]; rfl
     have hg2 : (rows S)[P]? = some (ownL S[P]) := by rw [j6a, List.getElem?_eq_getElem y1]; rfl
     simp [hb, ha, hfl, hsl, u3, v3, hP, hQ, hPn, hQn, x3, y3, w1, w2]
     exact ⟨by omega, by omega, F.set P (F[P].set Q a), S.set P (S[P].set Q b), ⟨hX.1.set2 x1 ⟨by omega, by omega⟩, hX.2.set2 y1 ⟨by omega, by omega⟩⟩, by simp only [j0w, ← rows_set2 x1, ← rows_set2 y1]⟩
   · rintro e ⟨F, S, hX, rfl⟩
     simp
     exact ⟨by omega, F, S, hX, rfl⟩
 · rintro e ⟨F, S, hX, rfl⟩
   simp
   subst hR
   exact ⟨(F, S), hX, by simp [post, j17]⟩
def okR2 (n : Nat) (R : List (List Int)) : Prop := TabN n R ∧ ∀ x y, x < n → y < n → 0 ≤ ixOf (R.getD (v2 R x y).toNat []) x
def S_ivl (pg : Pg) : Prop := ∀ (n : Nat) (R : List (List Int)), 0 < n → n ≤ 64 → okR2 n R → ∃ X : List (List Int) × List (List Int), PMN n X.1 X.2 ∧ Call pg 461 [tb R] [tb R] (ownS X)
set_option maxRecDepth 10000 in
theorem t_ivl {pg : Pg} (hp : pg.fn 461 = some j1e) (h280 : S_copyT pg 280) (h69 : S_index pg) : S_ivl pg := by
 intro n R h0 hn ⟨hA, hI⟩
 have hRl := hA.1
 have hfit : fits R := ⟨by omega, fun r hr => by have := (hA.2 r hr).1; omega⟩
 refine Call.find hp rfl (by simp) ?_
 show wp _ _ j1e.body _ _
 generalize hR : (fun (x : X) (e : Env) => ∃ l : List (List Int) × List (List Int), PMN n l.1 l.2 ∧ post j1e.rs [tb R] [tb R] (ownS l) x e) = Rr
 simp [j1e]
 refine j0e (h280 R hfit) rfl rfl (fun _ => by simp) ?_
 simp
 refine j0a (fun k e => ∃ s : List (List Int), (s.length = k ∧ ∀ r ∈ s, j4b n r) ∧ e = fr [(0, some (.val (tb R))), (2, some (.val (.mem .own none [nil, nil]))), (3, some (.val (.mem .own none [j0w R, j54 s]))), (4, some (.val (I k)))]) n ?_ ?_ 0 _ (by omega) ⟨[], ⟨rfl, by simp⟩, rfl⟩
 · rintro k e hk ⟨s, ⟨g3, g4⟩, rfl⟩
   simp [hk, hRl]
   refine j0a (fun j e => ∃ b : List Int, (b.length = j ∧ ∀ v ∈ b, 0 ≤ v ∧ v < n) ∧ e = fr [(0, some (.val (tb R))), (2, some (.val (.mem .own none [nil, nil]))), (3, some (.val (.mem .own none [j0w R, j54 s]))), (4, some (.val (I k))), (5, some (.val (ownL b))), (6, some (.val (I j)))]) n ?_ ?_ 0 _ (by omega) ⟨[], ⟨rfl, by simp⟩, rfl⟩
   · rintro j e hj ⟨b, ⟨i3, i4⟩, rfl⟩
     obtain ⟨u1, u2, u3, u4, u5⟩ := hA.at hk hj
     have hv := j3t u1 u2
     have hii := hI k j hk hj
     rw [hv] at u4 u5
     obtain ⟨P, hP⟩ : ∃ P : Nat, v2 R k j = P := ⟨(v2 R k j).toNat, by omega⟩
     rw [hP] at hv u4 u5 hii
     have hPn : P < n := by omega
     have hPl : P < R.length := by omega
     have hrow := hA.2 _ (List.getElem_mem hPl)
     have hg : R.getD P [] = R[P] := by simp [hPl]
     rw [Int.toNat_natCast, hg] at hii
     have hle := (ixOf_le R[P] k).2
     have hc := h69 R[P] k (by have := hrow.1; omega)
     generalize ixOf R[P] k = z at *
     simp [hj, hRl, hk, u3, hv, hPn]
     refine j0e hc rfl rfl (fun _ => rfl) ?_
     have hz := hrow.1
     simp
     exact ⟨by unfold roomy; omega, by omega, b ++ [z], ⟨by simp [i3], j5l i4 (by omega)⟩, by simp only [ownL, List.map_append, List.map_cons, List.map_nil]⟩
   · rintro e ⟨b, ⟨i3, i4⟩, rfl⟩
     by_cases hk0 : k = 0
     · subst hk0
       obtain rfl : s = [] := List.length_eq_zero_iff.1 g3
       simp [hRl]
       exact ⟨by unfold roomy; omega, [b], ⟨rfl, j7o ⟨i3, i4⟩⟩, rfl⟩
     · rw [j2j g3 (by omega)]
       simp [hRl]
       exact ⟨by unfold roomy; omega, by omega, s ++ [b], TabN.snoc ⟨g3, g4⟩ ⟨i3, i4⟩, by simp only [j53]⟩
 · rintro e ⟨s, ⟨g3, g4⟩, rfl⟩
   rw [j2j g3 h0]
   simp [hRl]
   subst hR
   exact ⟨(R, s), ⟨hA, g3, g4⟩, by simp [post, j1e]⟩
theorem thenL_rowIn {n : Nat} {p q : List Int} (hp : j4b n p) (hq : j4b n q) : j4b n (j6n p q) := by
 refine ⟨by simp [j6n, hp.1], fun v hv => ?_⟩
 obtain ⟨x, hx, rfl⟩ := List.mem_map.1 hv
 have h1 := hp.2 x hx
 have h2 : x.toNat < q.length := by rw [hq.1]; omega
 rw [List.getD_eq_getElem?_getD, List.getElem?_eq_getElem h2]
 exact hq.2 _ (List.getElem_mem h2)
def S_twd (pg : Pg) : Prop := ∀ (c : Rw Int) (s : Int × Int) (n : Nat), Sr c s → 0 < n → n ≤ 64 → ∃ (s' : Int × Int) (X : List (List Int) × List (List Int)), (Sr c s' ∧ PMN n X.1 X.2) ∧ Call pg 459 [src c s, I n] [src c s', I n] (ownS X)
set_option maxRecDepth 10000 in
theorem t_twd {pg : Pg} (hp : pg.fn 459 = some j1d) (h336 : S_nxt pg) (h368 : S_drw pg) (h334 : S_unit pg) (h279 : S_then pg 279) (h425 : S_twst pg) : S_twd pg := by
 intro c s n hs h0 hn
 have hfind := Call.findA (α := (Int × Int) × (List (List Int) × List (List Int))) (Q := fun Y => Sr c Y.1 ∧ PMN n Y.2.1 Y.2.2) (args := [src c s, I n]) (args' := fun Y => [src c Y.1, I n]) (r := fun Y => ownS Y.2) hp rfl (by simp [F.lets, j1d, List.range, List.range.loop]) (by simp [kindOf]) ?_
 · obtain ⟨Y, h1, h2⟩ := hfind
   exact ⟨_, _, h1, h2⟩
 show wp _ _ j1d.body (j6o _ _ _ _ _) _
 generalize hR : j6o (fun Y : (Int × Int) × (List (List Int) × List (List Int)) => Sr c Y.1 ∧ PMN n Y.2.1 Y.2.2) j1d.rs [src c s, I n] (fun Y => [src c Y.1, I n]) (fun Y => ownS Y.2) = R
 obtain ⟨s1, p, ⟨k1, k2, _⟩, hc1⟩ := h368 c s n hs hn
 obtain ⟨s2, r, ⟨k3, k3'⟩, hc2⟩ := h336.at k1 (n := 4) (by omega)
 simp [j1d]
 refine j2a (ts' := [rawB c, I s1.1, H64 s1.2]) (r := ownL p) (by simpa using hc1) ?_
 simp
 refine j0e (h334 n (by omega)) rfl rfl (fun _ => by simp) ?_
 simp
 refine j2a (ts' := [rawB c, I s2.1, H64 s2.2]) (r := I r) (by simpa using hc2) ?_
 simp
 refine j6d (α := List Int × Nat) (fun z => z.2) (fun z e => (j4b n z.1 ∧ z.2 ≤ 4) ∧ e = fr [(0, some (.val (src c s2))), (1, some (.val (I n))), (4, some (.val (.mem .own none [nil, nil]))), (5, some (.val (ownL p))), (6, some (.val (ownL z.1))), (7, some (.val (I z.2)))]) ?_ (idL n, r) _ ⟨⟨(j68 n).1, by simp only; omega⟩, rfl⟩
 rintro ⟨q, j⟩ e ⟨⟨g1, g2⟩, rfl⟩
 simp only at g1 g2
 by_cases hj : 0 < j
 · have hql := g1.1
   have hpl := k2.1
   have hc3 := h279 q p (by omega) (by unfold inN; rw [hpl]; exact g1.2)
   simp [hj]
   refine j0e hc3 rfl rfl (fun _ => by simp) ?_
   simp
   exact ⟨by omega, j6n q p, j - 1, by omega, ⟨thenL_rowIn g1 k2, by omega⟩, by
    have : (j : Int) - 1 = ((j - 1 : Nat) : Int) := by omega
    rw [this]⟩
 · obtain rfl : j = 0 := by omega
   obtain ⟨s3, b, ⟨k4, _⟩, hc4⟩ := h336.at k3 (n := 2) (by omega)
   simp
   refine j2a (ts' := [rawB c, I s3.1, H64 s3.2]) (r := I b) (by simpa using hc4) ?_
   by_cases hb : b = 0
   · obtain ⟨X, ⟨hX, _⟩, hc5⟩ := h425 n p q h0 hn k2 g1
     simp [hb]
     refine j0e hc5 rfl rfl (fun _ => by simp) ?_
     simp
     subst hR
     exact ⟨(s3, X), ⟨k4, hX⟩, by simp [post, j1d]⟩
   · obtain ⟨X, ⟨hX, _⟩, hc5⟩ := h425 n q p h0 hn g1 k2
     simp [hb]
     refine j0e hc5 rfl rfl (fun _ => by simp) ?_
     simp
     subst hR
     exact ⟨(s3, X), ⟨k4, hX⟩, by simp [post, j1d]⟩
end Go.Mch
namespace Go.Mch
abbrev S2 := List (List Int) × List (List Int)
def rw4 : List (List Int) := [[0, 1, 3, 2], [0, 1, 3, 2], [1, 0, 2, 3], [1, 0, 2, 3]]
def rw3 : List (List Int) := [[0, 1, 2], [0, 1, 2], [1, 0, 2]]
theorem rw4_ok : okR2 4 rw4 := by
 refine ⟨⟨rfl, fun r hr => ?_⟩, fun x y hx hy => ?_⟩
 · simp only [rw4, List.mem_cons, List.not_mem_nil, or_false] at hr
   rcases hr with rfl | rfl | rfl | rfl <;> exact ⟨rfl, by decide⟩
 · have : ∀ x < 4, ∀ y < 4, 0 ≤ ixOf (rw4.getD (v2 rw4 x y).toNat []) x := by decide
   exact this x hx y hy
theorem rw3_ok : okR2 3 rw3 := by
 refine ⟨⟨rfl, fun r hr => ?_⟩, fun x y hx hy => ?_⟩
 · simp only [rw3, List.mem_cons, List.not_mem_nil, or_false] at hr
   rcases hr with rfl | rfl | rfl <;> exact ⟨rfl, by decide⟩
 · have : ∀ x < 3, ∀ y < 3, 0 ≤ ixOf (rw3.getD (v2 rw3 x y).toNat []) x := by decide
   exact this x hx y hy
def S_anyM (pg : Pg) (most : Nat) : Prop := ∀ (c : Rw Int) (s : Int × Int), Sr c s → ∃ (s' : Int × Int) (n : Nat) (X : S2), (Sr c s' ∧ 0 < n ∧ n ≤ most ∧ PMN n X.1 X.2) ∧ Call pg 445 [src c s, I most] [src c s', I most] (ownS X)
def S_any (pg : Pg) : Prop := ∀ most : Nat, 0 < most → most ≤ 12 → S_anyM pg most
set_option maxRecDepth 10000 in
theorem t_any {pg : Pg} (hp : pg.fn 445 = some j3h) (h336 : S_nxt pg) (h449 : S_flp pg) (h423 : S_poly pg) (h458 : S_prd pg) (h459 : S_twd pg) (h460 : S_uni pg) (h461 : S_ivl pg) (h406 : S_invW pg) : S_any pg := by
 intro most
 induction most using Nat.strongRecOn with
 | _ most ih =>
 intro m0 m12 c s hs
 have hfind := Call.findA (α := (Int × Int) × Nat × S2) (Q := fun Y => Sr c Y.1 ∧ 0 < Y.2.1 ∧ Y.2.1 ≤ most ∧ PMN Y.2.1 Y.2.2.1 Y.2.2.2) (args := [src c s, I most]) (args' := fun Y => [src c Y.1, I most]) (r := fun Y => ownS Y.2.2) hp rfl (by simp [F.lets, j3h, List.range, List.range.loop]) (by simp [kindOf]) ?_
 · obtain ⟨Y, h1, h2⟩ := hfind
   exact ⟨_, _, _, h1, h2⟩
 show wp _ _ j3h.body (j6o _ _ _ _ _) _
 generalize hR : j6o (fun Y : (Int × Int) × Nat × S2 => Sr c Y.1 ∧ 0 < Y.2.1 ∧ Y.2.1 ≤ most ∧ PMN Y.2.1 Y.2.2.1 Y.2.2.2) j3h.rs [src c s, I most] (fun Y => [src c Y.1, I most]) (fun Y => ownS Y.2.2) = R
 have hfin : ∀ (s' : Int × Int) (k : Nat) (X : S2), Sr c s' → 0 < k → k ≤ most → PMN k X.1 X.2 → R .ret (fr [(0, some (.val (src c s'))), (1, some (.val (I most))), (4, some (.val (.mem .own none [j0w X.1, j0w X.2])))]) := by
  intro s' k X a1 a2 a3 a4
  subst hR
  exact ⟨(s', k, X), ⟨a1, a2, a3, a4⟩, by simp [post, j3h]⟩
 obtain ⟨s1, r1, ⟨k1, k2⟩, hc1⟩ := h336.at hs (n := most) m0
 obtain ⟨s2, kd, ⟨k3, k4⟩, hc2⟩ := h336.at k1 (n := 8) (by omega)
 obtain ⟨n, hn⟩ : ∃ n : Nat, (1 : Int) + r1 = n := ⟨1 + r1, by omega⟩
 have hn0 : 0 < n := by omega
 have hnm : n ≤ most := by omega
 simp [j3h]
 refine j2a (ts' := [rawB c, I s1.1, H64 s1.2]) (r := I r1) (by simpa using hc1) ?_
 simp [hn]
 refine ⟨by omega, ?_⟩
 refine j2a (ts' := [rawB c, I s2.1, H64 s2.2]) (r := I kd) (by simpa using hc2) ?_
 obtain ⟨sL, XL, ⟨jL1, jL2⟩, hcL⟩ := h459 c s2 n k3 hn0 (by omega)
 simp
 rcases (by omega : kd = 0 ∨ kd = 1 ∨ kd = 2 ∨ kd = 3 ∨ kd = 4 ∨ kd = 5 ∨ kd = 6 ∨ kd = 7) with rfl | rfl | rfl | rfl | rfl | rfl | rfl | rfl
 · obtain ⟨X, ⟨hX, _⟩, hc⟩ := h449 n hn0 (by omega)
   simp
   refine j0e hc rfl rfl (fun _ => by simp) ?_
   simp
   exact hfin s2 n X k3 hn0 hnm hX
 · obtain ⟨X, hX, hc⟩ := h423 n hn0 (by omega)
   simp
   refine j0e hc rfl rfl (fun _ => by simp) ?_
   simp
   exact hfin s2 n X k3 hn0 hnm hX
 · obtain ⟨q, hq, hq2⟩ : ∃ q : Nat, (n : Int) / 2 = q ∧ q = n / 2 := ⟨n / 2, by omega, rfl⟩
   have e1 : (n : Int).tmod 2 = (n : Int) % 2 := by rw [Int.tmod_eq_emod_of_nonneg (by omega)]
   by_cases h4 : 4 ≤ n
   · have h4' : (4 : Int) ≤ n := by omega
     by_cases hev : (n : Int) % 2 = 0
     · obtain ⟨s3, X, ⟨j1, j2⟩, hc3⟩ := h459 c s2 q k3 (by omega) (by omega)
       obtain ⟨s4, Y, ⟨j3, j4⟩, hc4⟩ := h459 c s3 2 j1 (by omega) (by omega)
       obtain ⟨Z, hZ, hc5⟩ := h458 q 2 X.1 X.2 Y.1 Y.2 (by omega) (by omega) (by omega) j2 j4
       rw [show q * 2 = n by omega] at hZ
       simp [h4', hev, e1, hq]
       refine ⟨by omega, ?_⟩
       refine j2a (ts' := [rawB c, I s3.1, H64 s3.2]) (r := ownS X) (by simpa using hc3) ?_
       simp
       refine j2a (ts' := [rawB c, I s4.1, H64 s4.2]) (r := ownS Y) (by simpa using hc4) ?_
       simp
       refine j0e hc5 rfl rfl (fun _ => by simp) ?_
       simp
       exact hfin s4 n Z j3 hn0 hnm hZ
     · simp [h4', hev, e1]
       refine j2a (ts' := [rawB c, I sL.1, H64 sL.2]) (r := ownS XL) (by simpa using hcL) ?_
       simp
       exact hfin sL n XL jL1 hn0 hnm jL2
   · have h4' : ¬ (4 : Int) ≤ n := by omega
     simp [h4', j03]
     refine j2a (ts' := [rawB c, I sL.1, H64 sL.2]) (r := ownS XL) (by simpa using hcL) ?_
     simp
     exact hfin sL n XL jL1 hn0 hnm jL2
 · by_cases h2 : 2 ≤ n
   · have h2' : (2 : Int) ≤ n := by omega
     obtain ⟨n1, hn1⟩ : ∃ n1 : Nat, (n : Int) - 1 = n1 := ⟨n - 1, by omega⟩
     obtain ⟨s3, r3, ⟨j1, j2⟩, hc3⟩ := h336.at k3 (n := n1) (by omega)
     obtain ⟨m, hm⟩ : ∃ m : Nat, (1 : Int) + r3 = m := ⟨1 + r3, by omega⟩
     obtain ⟨d, hd⟩ : ∃ d : Nat, (n : Int) - m = d := ⟨n - m, by omega⟩
     obtain ⟨s4, k, X, ⟨j3, j4, j5, j6⟩, hc4⟩ := ih m (by omega) (by omega) (by omega) c s3 j1
     obtain ⟨s5, Y, ⟨j7, j8⟩, hc5⟩ := h459 c s4 d j3 (by omega) (by omega)
     obtain ⟨Z, hZ, hc6⟩ := h460 k d X.1 X.2 Y.1 Y.2 j4 (by omega) (by omega) j6 j8
     simp [h2', hn1]
     refine ⟨by omega, ?_⟩
     refine j2a (ts' := [rawB c, I s3.1, H64 s3.2]) (r := I r3) (by simpa using hc3) ?_
     simp [hm]
     refine ⟨by omega, ?_⟩
     refine j2a (ts' := [rawB c, I s4.1, H64 s4.2]) (r := ownS X) (by simpa using hc4) ?_
     simp [hd]
     refine ⟨by omega, ?_⟩
     refine j2a (ts' := [rawB c, I s5.1, H64 s5.2]) (r := ownS Y) (by simpa using hc5) ?_
     simp
     refine j0e hc6 rfl rfl (fun _ => by simp) ?_
     simp
     exact hfin s5 (k + d) Z j7 (by omega) (by omega) hZ
   · have h2' : ¬ (2 : Int) ≤ n := by omega
     simp [h2']
     refine j2a (ts' := [rawB c, I sL.1, H64 sL.2]) (r := ownS XL) (by simpa using hcL) ?_
     simp
     exact hfin sL n XL jL1 hn0 hnm jL2
 · by_cases h4 : 4 ≤ most
   · have h4' : (4 : Int) ≤ most := by omega
     obtain ⟨Z, hZ, hc6⟩ := h461 4 rw4 (by omega) (by omega) rw4_ok
     simp [h4']
     refine j0e hc6 rfl rfl (fun _ => by simp) ?_
     simp
     exact hfin s2 4 Z k3 (by omega) (by omega) hZ
   · have h4' : ¬ (4 : Int) ≤ most := by omega
     simp [h4']
     refine j2a (ts' := [rawB c, I sL.1, H64 sL.2]) (r := ownS XL) (by simpa using hcL) ?_
     simp
     exact hfin sL n XL jL1 hn0 hnm jL2
 · by_cases h2 : 2 ≤ n
   · have h2' : (2 : Int) ≤ n := by omega
     obtain ⟨X, hX, hc⟩ := h423 n hn0 (by omega)
     obtain ⟨Z, hZ, hc6⟩ := h406 n X.1 X.2 hn0 (by omega) hX
     simp [h2']
     refine j0e hc rfl rfl (fun _ => by simp) ?_
     simp
     refine j0e hc6 rfl rfl (fun _ => by simp) ?_
     simp
     exact hfin s2 n Z k3 hn0 hnm hZ
   · have h2' : ¬ (2 : Int) ≤ n := by omega
     simp [h2']
     refine j2a (ts' := [rawB c, I sL.1, H64 sL.2]) (r := ownS XL) (by simpa using hcL) ?_
     simp
     exact hfin sL n XL jL1 hn0 hnm jL2
 · by_cases h4 : 3 ≤ most
   · have h4' : (3 : Int) ≤ most := by omega
     obtain ⟨Z, hZ, hc6⟩ := h461 3 rw3 (by omega) (by omega) rw3_ok
     simp [h4']
     refine j0e hc6 rfl rfl (fun _ => by simp) ?_
     simp
     exact hfin s2 3 Z k3 (by omega) (by omega) hZ
   · have h4' : ¬ (3 : Int) ≤ most := by omega
     simp [h4']
     refine j2a (ts' := [rawB c, I sL.1, H64 sL.2]) (r := ownS XL) (by simpa using hcL) ?_
     simp
     exact hfin sL n XL jL1 hn0 hnm jL2
 · simp
   refine j2a (ts' := [rawB c, I sL.1, H64 sL.2]) (r := ownS XL) (by simpa using hcL) ?_
   simp
   exact hfin sL n XL jL1 hn0 hnm jL2
end Go.Mch
namespace Go.Mch
theorem TabN.tab {n : Nat} {t : List (List Int)} (h : TabN n t) : Tab t := fun r hr => ⟨by rw [(h.2 r hr).1, h.1], fun v hv => by rw [h.1]; exact (h.2 r hr).2 v hv⟩
theorem pm_of {n : Nat} {p : List Int} (h : j4b n p) (hd : p.Nodup) (h0 : 0 < n) (h12 : n ≤ 12) : Pm p := by
 have hl := h.1
 exact ⟨⟨fun x hx => by rw [hl]; exact h.2 x hx, hd⟩, by omega, by omega⟩
def S_dr2 (pg : Pg) : Prop := ∀ (c : Rw Int) (s : Int × Int) (most : Nat), Sr c s → 0 < most → most ≤ 12 → ∃ (s' : Int × Int) (n : Nat) (X : S2), (Sr c s' ∧ 0 < n ∧ n ≤ most ∧ PMN n X.1 X.2) ∧ Call pg 412 [src c s, I most] [src c s', I most] (ownS X)
set_option maxRecDepth 10000 in
theorem t_dr2 {pg : Pg} (hp : pg.fn 412 = some j2w) (h336 : S_nxt pg) (h445 : S_any pg) (h368 : S_drw pg) (h422 : S_renS pg) : S_dr2 pg := by
 intro c s most hs m0 m12
 have hfind := Call.findA (α := (Int × Int) × Nat × S2) (Q := fun Y => Sr c Y.1 ∧ 0 < Y.2.1 ∧ Y.2.1 ≤ most ∧ PMN Y.2.1 Y.2.2.1 Y.2.2.2) (args := [src c s, I most]) (args' := fun Y => [src c Y.1, I most]) (r := fun Y => ownS Y.2.2) hp rfl (by simp [F.lets, j2w, List.range, List.range.loop]) (by simp [kindOf]) ?_
 · obtain ⟨Y, h1, h2⟩ := hfind
   exact ⟨_, _, _, h1, h2⟩
 show wp _ _ j2w.body (j6o _ _ _ _ _) _
 generalize hR : j6o (fun Y : (Int × Int) × Nat × S2 => Sr c Y.1 ∧ 0 < Y.2.1 ∧ Y.2.1 ≤ most ∧ PMN Y.2.1 Y.2.2.1 Y.2.2.2) j2w.rs [src c s, I most] (fun Y => [src c Y.1, I most]) (fun Y => ownS Y.2.2) = R
 have hfin : ∀ (s' : Int × Int) (k : Nat) (X : S2), Sr c s' → 0 < k → k ≤ most → PMN k X.1 X.2 → R .ret (fr [(0, some (.val (src c s'))), (1, some (.val (I most))), (4, some (.val (.mem .own none [j0w X.1, j0w X.2])))]) := by
  intro s' k X a1 a2 a3 a4
  subst hR
  exact ⟨(s', k, X), ⟨a1, a2, a3, a4⟩, by simp [post, j2w]⟩
 obtain ⟨s1, n, X, ⟨k1, k2, k3, k4⟩, hc1⟩ := h445 most m0 m12 c s hs
 obtain ⟨s2, r, ⟨k5, _⟩, hc2⟩ := h336.at k1 (n := 4) (by omega)
 obtain ⟨s3, p, ⟨k6, k7, k8⟩, hc3⟩ := h368 c s2 n k5 (by omega)
 have hpm := pm_of k7 k8 k2 (by omega)
 have hl1 := k4.1.1
 have hc4 := h422 X.1 X.2 p k4.1.tab k4.2.tab hpm (by rw [k7.1, k4.1.1]) (by rw [k7.1, k4.2.1])
 simp [j2w]
 refine j2a (ts' := [rawB c, I s1.1, H64 s1.2]) (r := ownS X) (by simpa using hc1) ?_
 simp
 refine j2a (ts' := [rawB c, I s2.1, H64 s2.2]) (r := I r) (by simpa using hc2) ?_
 by_cases hr : 0 < r
 · have hl2 := k4.2.1
   simp [hr, hl1, hl2]
   refine j2a (ts' := [rawB c, I s3.1, H64 s3.2]) (r := ownL p) (by simpa using hc3) ?_
   simp [hl1, hl2]
   refine j0e hc4 rfl rfl (fun _ => by simp) ?_
   simp
   exact hfin s3 n (imT X.1 p, imT X.2 p) k6 k2 k3 ⟨imT_tabN k4.1 hpm k7.1, imT_tabN k4.2 hpm k7.1⟩
 · simp [hr]
   exact hfin s2 n X k5 k2 k3 k4
theorem rows_set1 (t : List (List Int)) (i : Nat) (r : List Int) : (rows t).set i (ownL r) = rows (t.set i r) := by simp [rows, List.map_set]
def Bd (t : List (List Int)) : Prop := t.length ≤ 20 ∧ ∀ r ∈ t, r.length ≤ 20
theorem TabN.bd {n : Nat} {t : List (List Int)} (h : TabN n t) (hn : n ≤ 20) : Bd t := ⟨by rw [h.1]; exact hn, fun r hr => by rw [(h.2 r hr).1]; exact hn⟩
theorem Bd.set {t : List (List Int)} (h : Bd t) {i : Nat} {r : List Int} (hr : r.length ≤ 20) : Bd (t.set i r) := ⟨by simpa using h.1, fun x hx => by
 rcases List.mem_or_eq_of_mem_set hx with h1 | h1
 · exact h.2 x h1
 · rw [h1]; exact hr⟩
def S_bad (pg : Pg) : Prop := ∀ (c : Rw Int) (s : Int × Int) (n : Nat), Sr c s → 0 < n → n ≤ 12 → ∃ (s' : Int × Int) (t : List (List Int)), (Sr c s' ∧ Bd t) ∧ Call pg 413 [src c s, I n] [src c s', I n] (j0w t)
set_option maxRecDepth 10000 in
theorem t_bad {pg : Pg} (hp : pg.fn 413 = some j3j) (h336 : S_nxt pg) (h428 : S_tbs pg) (h334 : S_unit pg) (h292 : S_pick pg) : S_bad pg := by
 intro c s n hs n0 n12
 have hfind := Call.findA (α := (Int × Int) × List (List Int)) (Q := fun Y => Sr c Y.1 ∧ Bd Y.2) (args := [src c s, I n]) (args' := fun Y => [src c Y.1, I n]) (r := fun Y => j0w Y.2) hp rfl (by simp [F.lets, j3j, List.range, List.range.loop]) (by simp [kindOf]) ?_
 · obtain ⟨Y, h1, h2⟩ := hfind
   exact ⟨_, _, h1, h2⟩
 show wp _ _ j3j.body (j6o _ _ _ _ _) _
 generalize hR : j6o (fun Y : (Int × Int) × List (List Int) => Sr c Y.1 ∧ Bd Y.2) j3j.rs [src c s, I n] (fun Y => [src c Y.1, I n]) (fun Y => j0w Y.2) = R
 have hfin : ∀ (s' : Int × Int) (t : List (List Int)), Sr c s' → Bd t → R .ret (fr [(0, some (.val (src c s'))), (1, some (.val (I n))), (4, some (.val (j0w t)))]) := by
  intro s' X a1 a2
  subst hR
  exact ⟨(s', X), ⟨a1, a2⟩, by simp [post, j3j]⟩
 obtain ⟨s1, t, ⟨k1, k2⟩, hc1⟩ := h428 c s n hs n0 (by omega)
 obtain ⟨s2, kd, ⟨k3, k3'⟩, hc2⟩ := h336.at k1 (n := 30) (by omega)
 have hbd := k2.bd (by omega)
 have htl := k2.1
 have ht0 : 0 < t.length := by omega
 have hrow0 := (k2.2 _ (List.getElem_mem ht0)).1
 have hg : (rows t)[0]? = some (ownL t[0]) := by rw [j6a, List.getElem?_eq_getElem ht0]; rfl
 simp [j3j]
 refine j2a (ts' := [rawB c, I s1.1, H64 s1.2]) (r := j0w t) (by simpa using hc1) ?_
 simp
 refine j2a (ts' := [rawB c, I s2.1, H64 s2.2]) (r := I kd) (by simpa using hc2) ?_
 simp
 rcases (by omega : kd = 0 ∨ kd = 1 ∨ kd = 2 ∨ kd = 3 ∨ kd = 4 ∨ 5 ≤ kd) with rfl | rfl | rfl | rfl | rfl | hk
 · simp
   refine j0e (h334 n (by omega)) rfl rfl (fun _ => by simp) ?_
   simp
   have := hfin s2 (t ++ [idL n]) k3 ⟨by simp; omega, fun r hr => by
    rcases List.mem_append.1 hr with h1 | h1
    · exact hbd.2 r h1
    · rw [List.mem_singleton.1 h1]; simp [idL]; omega⟩
   exact ⟨by unfold roomy; omega, by simpa only [j0w, j7t] using this⟩
 · simp [ht0]
   have := hfin s2 (t.set 0 (t[0] ++ [0])) k3 (hbd.set (by simp; omega))
   exact ⟨by unfold roomy; omega, by omega, by simpa only [j0w, ← rows_set1, ownL, List.map_append, List.map_cons, List.map_nil] using this⟩
 · obtain ⟨s3, z, ⟨j1, _⟩, hc3⟩ := h292 c s2 [-1, n, 1099511627776] k3 (by simp) (by simp)
   simp [ht0]
   simp only [ix, List.map_cons, List.map_nil] at hc3
   refine j2a (ts' := [rawB c, I s3.1, H64 s3.2]) (r := I z) (by simpa using hc3) ?_
   have ht00 : 0 < t[0].length := by omega
   simp [ht0, ht00]
   have := hfin s3 (t.set 0 (t[0].set 0 z)) j1 (hbd.set (by simp; omega))
   exact ⟨by omega, by simpa only [j0w, ← rows_set1, ownL, List.map_set] using this⟩
 · simp
   exact hfin s2 [] k3 ⟨by simp, by simp⟩
 · obtain ⟨s3, t', ⟨j1, j2⟩, hc3⟩ := h428 c s2 13 k3 (by omega) (by omega)
   simp
   refine j2a (ts' := [rawB c, I s3.1, H64 s3.2]) (r := j0w t') (by simpa using hc3) ?_
   simp
   exact hfin s3 t' j1 (j2.bd (by omega))
 · have h1 : ¬ kd = 0 := by omega
   have h2 : ¬ (kd : Int) = 1 := by omega
   have h3 : ¬ (kd : Int) = 2 := by omega
   have h4 : ¬ (kd : Int) = 3 := by omega
   have h5 : ¬ (kd : Int) = 4 := by omega
   simp [h1, h2, h3, h4, h5]
   exact hfin s2 t k3 hbd
def S_spl (pg : Pg) (f : Nat) : Prop := ∀ (c : Rw Int) (s : Int × Int) (most : Nat), Sr c s → 0 < most → most ≤ 12 → ∃ (s' : Int × Int) (X : S2), (Sr c s' ∧ Bd X.1 ∧ Bd X.2) ∧ Call pg f [src c s, I most] [src c s', I most] (ownS X)
set_option maxRecDepth 10000 in
theorem t_spl {pg : Pg} (hp : pg.fn 379 = some j2f) (h336 : S_nxt pg) (h412 : S_dr2 pg) (h368 : S_drw pg) (h428 : S_tbs pg) (h413 : S_bad pg) : S_spl pg 379 := by
 intro c s most hs m0 m12
 have hfind := Call.findA (α := (Int × Int) × S2) (Q := fun Y => Sr c Y.1 ∧ Bd Y.2.1 ∧ Bd Y.2.2) (args := [src c s, I most]) (args' := fun Y => [src c Y.1, I most]) (r := fun Y => ownS Y.2) hp rfl (by simp [F.lets, j2f, List.range, List.range.loop]) (by simp [kindOf]) ?_
 · obtain ⟨Y, h1, h2⟩ := hfind
   exact ⟨_, _, h1, h2⟩
 show wp _ _ j2f.body (j6o _ _ _ _ _) _
 generalize hR : j6o (fun Y : (Int × Int) × S2 => Sr c Y.1 ∧ Bd Y.2.1 ∧ Bd Y.2.2) j2f.rs [src c s, I most] (fun Y => [src c Y.1, I most]) (fun Y => ownS Y.2) = R
 have hfin : ∀ (s' : Int × Int) (X : S2), Sr c s' → Bd X.1 → Bd X.2 → R .ret (fr [(0, some (.val (src c s'))), (1, some (.val (I most))), (4, some (.val (.mem .own none [j0w X.1, j0w X.2])))]) := by
  intro s' X a1 a2 a3
  subst hR
  exact ⟨(s', X), ⟨a1, a2, a3⟩, by simp [post, j2f]⟩
 obtain ⟨s1, n, X, ⟨k1, n0, nm, hX⟩, hc1⟩ := h412 c s most hs m0 m12
 obtain ⟨s2, kd, ⟨k3, k3'⟩, hc2⟩ := h336.at k1 (n := 24) (by omega)
 have hb1 := hX.1.bd (by omega)
 have hb2 := hX.2.bd (by omega)
 have hl1 := hX.1.1
 have hl2 := hX.2.1
 simp [j2f]
 refine j2a (ts' := [rawB c, I s1.1, H64 s1.2]) (r := ownS X) (by simpa using hc1) ?_
 simp [hl1]
 refine j2a (ts' := [rawB c, I s2.1, H64 s2.2]) (r := I kd) (by simpa using hc2) ?_
 simp
 rcases (by omega : kd = 0 ∨ kd = 1 ∨ kd = 2 ∨ kd = 3 ∨ kd = 4 ∨ 5 ≤ kd) with rfl | rfl | rfl | rfl | rfl | hk
 · obtain ⟨s3, a, ⟨j1, j2⟩, hc3⟩ := h336.at k3 (n := n) n0
   obtain ⟨s4, p, ⟨j3, j4, _⟩, hc4⟩ := h368 c s3 n j1 (by omega)
   simp [hl1]
   refine j2a (ts' := [rawB c, I s3.1, H64 s3.2]) (r := I a) (by simpa using hc3) ?_
   simp
   refine j2a (ts' := [rawB c, I s4.1, H64 s4.2]) (r := ownL p) (by simpa using hc4) ?_
   simp [hl1, j2]
   have := hfin s4 (X.1.set a p, X.2) j3 (hb1.set (by rw [j4.1]; omega)) hb2
   exact ⟨by omega, by simpa only [j0w, ← rows_set1, ownL] using this⟩
 · obtain ⟨s3, a, ⟨j1, j2⟩, hc3⟩ := h336.at k3 (n := n) n0
   obtain ⟨s4, b, ⟨j3, j4⟩, hc4⟩ := h336.at j1 (n := n) n0
   obtain ⟨s5, z, ⟨j5, j6⟩, hc5⟩ := h336.at j3 (n := n) n0
   have ha : a < X.2.length := by omega
   have hrow := (hX.2.2 _ (List.getElem_mem ha)).1
   have hg : (rows X.2)[a]? = some (ownL X.2[a]) := by rw [j6a, List.getElem?_eq_getElem ha]; rfl
   simp [hl2]
   refine j2a (ts' := [rawB c, I s3.1, H64 s3.2]) (r := I a) (by simpa using hc3) ?_
   simp [hl2, j2, hrow]
   refine j2a (ts' := [rawB c, I s4.1, H64 s4.2]) (r := I b) (by simpa using hc4) ?_
   simp
   refine j2a (ts' := [rawB c, I s5.1, H64 s5.2]) (r := I z) (by simpa using hc5) ?_
   simp [hl2, j2, j4, hrow]
   have := hfin s5 (X.1, X.2.set a (X.2[a].set b z)) j5 hb1 (hb2.set (by rw [List.length_set, hrow]; omega))
   exact ⟨by omega, by simpa only [j0w, ← rows_set1, ownL, List.map_set] using this⟩
 · obtain ⟨s3, f, ⟨j1, j2⟩, hc3⟩ := h428 c s2 n k3 n0 (by omega)
   obtain ⟨s4, g, ⟨j3, j4⟩, hc4⟩ := h428 c s3 n j1 n0 (by omega)
   simp
   refine j2a (ts' := [rawB c, I s3.1, H64 s3.2]) (r := j0w f) (by simpa using hc3) ?_
   simp
   refine j2a (ts' := [rawB c, I s4.1, H64 s4.2]) (r := j0w g) (by simpa using hc4) ?_
   simp
   exact hfin s4 (f, g) j3 (j2.bd (by omega)) (j4.bd (by omega))
 · obtain ⟨s3, t', ⟨j1, j2⟩, hc3⟩ := h413 c s2 n k3 n0 (by omega)
   simp
   refine j2a (ts' := [rawB c, I s3.1, H64 s3.2]) (r := j0w t') (by simpa using hc3) ?_
   simp
   exact hfin s3 (X.1, t') j1 hb1 j2
 · obtain ⟨s3, t', ⟨j1, j2⟩, hc3⟩ := h413 c s2 n k3 n0 (by omega)
   simp
   refine j2a (ts' := [rawB c, I s3.1, H64 s3.2]) (r := j0w t') (by simpa using hc3) ?_
   simp
   exact hfin s3 (t', X.2) j1 j2 hb2
 · have h1 : ¬ kd = 0 := by omega
   have h2 : ¬ (kd : Int) = 1 := by omega
   have h3 : ¬ (kd : Int) = 2 := by omega
   have h4 : ¬ (kd : Int) = 3 := by omega
   have h5 : ¬ (kd : Int) = 4 := by omega
   simp [h1, h2, h3, h4, h5]
   exact hfin s2 X k3 hb1 hb2
end Go.Mch
namespace Go.Mch
def CY (n : Nat) (t : List (List Int)) : Prop := TabN n t ∧ ∀ r ∈ t, r.Nodup
abbrev cyT (t : List (List Int)) : T := .agg [tb t]
abbrev ownC (t : List (List Int)) : T := .agg [j0w t]
theorem CY.has {n : Nat} {t : List (List Int)} (h : CY n t) (h0 : 0 < n) (h12 : n ≤ 12) {x y : Nat} (hx : x < n) (hy : y < n) : ∃ (h1 : x < t.length), 0 ≤ ixOf t[x] y ∧ ixOf t[x] y < n := by
 have h1 : x < t.length := by rw [h.1.1]; exact hx
 have h2 := h.1.2 _ (List.getElem_mem h1)
 have hp := pm_of h2 (h.2 _ (List.getElem_mem h1)) h0 h12
 have := hp.mem (x := y) (by rw [h2.1]; exact hy)
 have h3 := ixOf_le t[x] y
 rw [h2.1] at h3
 exact ⟨h1, (ixOf_mem _ _).2 this, h3.2⟩
theorem invL_ok {p : List Int} (h : Pm p) : j4b p.length (invL p) ∧ (invL p).Nodup := by
 refine ⟨⟨invL_length p, fun v hv => ?_⟩, ?_⟩
 · obtain ⟨i, hi, rfl⟩ := List.getElem_of_mem hv
   have hil : i < p.length := by simpa using hi
   have := h.lt hil
   rw [invL_get hi]
   omega
 · rw [List.nodup_iff_pairwise_ne, List.pairwise_iff_getElem]
   intro i j hi hj hij he
   have hil : i < p.length := by simpa using hi
   have hjl : j < p.length := by simpa using hj
   rw [invL_get hi, invL_get hj] at he
   have h1 := h.at hil
   have h2 := h.at hjl
   have he' : invQ p i = invQ p j := by omega
   rw [he'] at h1
   rw [h1] at h2
   omega
def S_aff (pg : Pg) : Prop := ∀ n a b c : Nat, 0 < n → n ≤ 64 → a ≤ 64 → b ≤ 64 → c ≤ 64 → ∃ t : List (List Int), TabN n t ∧ Call pg 424 [I n, I a, I b, I c] [I n, I a, I b, I c] (ownC t)
set_option maxRecDepth 10000 in
theorem t_aff {pg : Pg} (hp : pg.fn 424 = some j2m) : S_aff pg := by
 intro n a b c h0 hn ha hb hc
 refine Call.find hp rfl (by simp) ?_
 show wp _ _ j2m.body _ _
 generalize hR : (fun (x : X) (e : Env) => ∃ l : List (List Int), TabN n l ∧ post j2m.rs [I n, I a, I b, I c] [I n, I a, I b, I c] (ownC l) x e) = R
 simp [j2m]
 refine j0a (fun k e => ∃ s : List (List Int), (s.length = k ∧ ∀ r ∈ s, j4b n r) ∧ e = fr [(0, some (.val (I n))), (1, some (.val (I a))), (2, some (.val (I b))), (3, some (.val (I c))), (8, some (.val (.mem .own none [nil]))), (9, some (.val (.mem .own none [j54 s]))), (10, some (.val (I k)))]) n ?_ ?_ 0 _ (by omega) ⟨[], ⟨rfl, by simp⟩, rfl⟩
 · rintro k e hk ⟨s, ⟨g3, g4⟩, rfl⟩
   simp [hk]
   refine j0a (fun j e => ∃ q : List Int, (q.length = j ∧ ∀ v ∈ q, 0 ≤ v ∧ v < n) ∧ e = fr [(0, some (.val (I n))), (1, some (.val (I a))), (2, some (.val (I b))), (3, some (.val (I c))), (8, some (.val (.mem .own none [nil]))), (9, some (.val (.mem .own none [j54 s]))), (10, some (.val (I k))), (11, some (.val (ownL q))), (12, some (.val (I j)))]) n ?_ ?_ 0 _ (by omega) ⟨[], ⟨rfl, by simp⟩, rfl⟩
   · rintro j e hj ⟨q, ⟨i3, i4⟩, rfl⟩
     obtain ⟨u, hu, hu2⟩ : ∃ u : Nat, (a : Int) * k = u ∧ u ≤ 4096 := ⟨a * k, by simp, Nat.mul_le_mul ha (by omega : k ≤ 64)⟩
     obtain ⟨v, hv, hv2⟩ : ∃ v : Nat, (b : Int) * j = v ∧ v ≤ 4096 := ⟨b * j, by simp, Nat.mul_le_mul hb (by omega : j ≤ 64)⟩
     obtain ⟨m, hm, hm2⟩ : ∃ m : Nat, ((u : Int) + v + c).tmod n = m ∧ m < n := ⟨(u + v + c) % n, by rw [Int.tmod_eq_emod_of_nonneg (by omega), Int.natCast_emod]; simp, Nat.mod_lt _ h0⟩
     have hn0 : ¬ n = 0 := by omega
     simp [hj, hu, hv, hm, hn0]
     exact ⟨by omega, by omega, by omega, by omega, by unfold roomy; omega, by omega, q ++ [(m : Int)], ⟨by simp [i3], j5l i4 (by omega)⟩, by simp only [ownL, List.map_append, List.map_cons, List.map_nil]⟩
   · rintro e ⟨q, ⟨i3, i4⟩, rfl⟩
     by_cases hk0 : k = 0
     · subst hk0
       obtain rfl : s = [] := List.length_eq_zero_iff.1 g3
       simp
       exact ⟨by unfold roomy; omega, [q], ⟨rfl, j7o ⟨i3, i4⟩⟩, rfl⟩
     · rw [j2j g3 (by omega)]
       simp
       exact ⟨by unfold roomy; omega, by omega, s ++ [q], TabN.snoc ⟨g3, g4⟩ ⟨i3, i4⟩, by simp only [j53]⟩
 · rintro e ⟨s, ⟨g3, g4⟩, rfl⟩
   rw [j2j g3 h0]
   simp
   subst hR
   exact ⟨s, ⟨g3, g4⟩, by simp [post, j2m]⟩
def S_sqs (pg : Pg) : Prop := ∀ (n : Nat) (t : List (List Int)), n ≤ 64 → TabN n t → ∃ q : List Int, q.length = n ∧ Call pg 417 [tb t] [tb t] (ownL q)
set_option maxRecDepth 10000 in
theorem t_sqs {pg : Pg} (hp : pg.fn 417 = some j14) : S_sqs pg := by
 intro n t hn ht
 have htl := ht.1
 refine Call.find hp rfl (by simp) ?_
 show wp _ _ j14.body _ _
 generalize hR : (fun (x : X) (e : Env) => ∃ l : List Int, l.length = n ∧ post j14.rs [tb t] [tb t] (ownL l) x e) = R
 simp [j14]
 refine j0a (fun k e => ∃ q : List Int, q.length = k ∧ e = fr [(0, some (.val (tb t))), (3, some (.val (ownL q))), (4, some (.val (I k)))]) n ?_ ?_ 0 _ (by omega) ⟨[], rfl, rfl⟩
 · rintro k e hk ⟨q, g1, rfl⟩
   obtain ⟨u1, u2, u3, u4, u5⟩ := ht.at hk hk
   simp [hk, htl, u3]
   exact ⟨by unfold roomy; omega, by omega, q ++ [t[k][k]], by simp [g1], by simp only [ownL, List.map_append, List.map_cons, List.map_nil]⟩
 · rintro e ⟨q, g1, rfl⟩
   simp [htl]
   subst hR
   exact ⟨q, g1, by simp [post, j14]⟩
def S_flt (pg : Pg) : Prop := ∀ (n : Nat) (t : List (List Int)), n ≤ 64 → TabN n t → ∃ q : List Int, q.length ≤ 3 ∧ Call pg 418 [tb t] [tb t] (ownL q)
set_option maxRecDepth 10000 in
theorem t_flt {pg : Pg} (hp : pg.fn 418 = some j2e) : S_flt pg := by
 intro n t hn ht
 have htl := ht.1
 refine Call.find hp rfl (by simp) ?_
 show wp _ _ j2e.body _ _
 generalize hR : (fun (x : X) (e : Env) => ∃ l : List Int, l.length ≤ 3 ∧ post j2e.rs [tb t] [tb t] (ownL l) x e) = R
 simp [j2e, htl]
 refine j0a (fun x e => e = fr [(0, some (.val (tb t))), (3, some (.val (I n))), (4, some (.val (I x)))]) n ?_ ?_ 0 _ (by omega) rfl
 · rintro x e hx rfl
   simp [hx]
   refine j0a (fun y e => e = fr [(0, some (.val (tb t))), (3, some (.val (I n))), (4, some (.val (I x))), (5, some (.val (I y)))]) n ?_ ?_ 0 _ (by omega) rfl
   · rintro y e hy rfl
     simp [hy]
     refine j0a (fun z e => e = fr [(0, some (.val (tb t))), (3, some (.val (I n))), (4, some (.val (I x))), (5, some (.val (I y))), (6, some (.val (I z)))]) n ?_ ?_ 0 _ (by omega) rfl
     · rintro z e hz rfl
       obtain ⟨a1, a2, a3, a4, a5⟩ := ht.at hx hy
       obtain ⟨b1, b2, b3, b4, b5⟩ := ht.at hx hz
       obtain ⟨c1, c2, c3, c4, c5⟩ := ht.at hy hx
       obtain ⟨d1, d2, d3, d4, d5⟩ := ht.at hy hz
       obtain ⟨A, hA⟩ : ∃ A : Nat, t[x][y] = A := ⟨(t[x][y]).toNat, by omega⟩
       obtain ⟨B, hB⟩ : ∃ A : Nat, t[x][z] = A := ⟨(t[x][z]).toNat, by omega⟩
       obtain ⟨C, hC⟩ : ∃ A : Nat, t[y][x] = A := ⟨(t[y][x]).toNat, by omega⟩
       obtain ⟨D, hD⟩ : ∃ A : Nat, t[y][z] = A := ⟨(t[y][z]).toNat, by omega⟩
       rw [hA] at a4 a5
       rw [hB] at b4 b5
       rw [hC] at c4 c5
       rw [hD] at d4 d5
       have hAn : A < n := by omega
       have hBn : B < n := by omega
       have hCn : C < n := by omega
       have hDn : D < n := by omega
       obtain ⟨m1, m2, m3, m4, m5⟩ := ht.at hAn hBn
       obtain ⟨n1, n2, n3, n4, n5⟩ := ht.at hCn hDn
       by_cases he : t[A][B] = t[C][D]
       · simp [hz, hx, hy, htl, a3, c3, hA, hB, hC, hD, hAn, hBn, hCn, hDn, m3, n3, he]
         omega
       · simp [hz, hx, hy, htl, a3, c3, hA, hB, hC, hD, hAn, hBn, hCn, hDn, m3, n3, he]
         subst hR
         exact ⟨[(x : Int), y, z], by simp, by simp [post, j2e]⟩
     · rintro e rfl
       simp
       omega
   · rintro e rfl
     simp
     omega
 · rintro e rfl
   simp
   subst hR
   exact ⟨[], by simp, by simp [post, j2e]⟩
end Go.Mch
namespace Go.Mch
def S_cyI (pg : Pg) : Prop := ∀ (n : Nat) (t : List (List Int)), 0 < n → n ≤ 12 → TabN n t → ∃ b : Bool, (b = true → ∀ r ∈ t, r.Nodup) ∧ Call pg 363 [cyT t] [cyT t] (B b)
set_option maxRecDepth 10000 in
theorem t_cyI {pg : Pg} (hp : pg.fn 363 = some j3f) (h46 : S_table pg 46) (h410 : S_l01Rows pg) (h417 : S_sqs pg) (h47 : S_perm pg 47) (h418 : S_flt pg) : S_cyI pg := by
 intro n t h0 hn ht
 have htl := ht.1
 have hT := ht.tab
 have hc1 := h46 t (by omega) (fun r hr => by have := (ht.2 r hr).1; omega)
 have hist : j4z t := ⟨by omega, by omega, hT⟩
 have hc2 := h410 t hT (by omega) (by omega)
 obtain ⟨q, q1, hc3⟩ := h417 n t (by omega) ht
 have hc4 := h47 q (by omega)
 obtain ⟨w, w1, hc5⟩ := h418 n t (by omega) ht
 have hw1 : w.length ≤ 1048576 := by omega
 simp only [hist, decide_true] at hc1
 by_cases hr : j4v t
 · simp only [hr, decide_true] at hc2
   by_cases hq : isPerm q
   · simp only [hq, decide_true] at hc4
     refine ⟨decide (w.length = 0), fun _ r hr' => (hr r hr').2, Call.intro hp rfl (by simp) ?_⟩
     show wp _ _ j3f.body (post _ _ _ _) _
     simp [j3f]
     refine j0e hc1 rfl rfl (fun _ => rfl) ?_
     simp
     refine j0e hc2 rfl rfl (fun _ => rfl) ?_
     simp
     refine j0e hc3 rfl rfl (fun _ => by simp) ?_
     simp
     refine j0e hc4 rfl rfl (fun _ => rfl) ?_
     simp
     refine j0e hc5 rfl rfl (fun _ => by simp) ?_
     simp
   · simp only [hq, decide_false] at hc4
     refine ⟨false, by simp, Call.intro hp rfl (by simp) ?_⟩
     show wp _ _ j3f.body (post _ _ _ _) _
     simp [j3f]
     refine j0e hc1 rfl rfl (fun _ => rfl) ?_
     simp
     refine j0e hc2 rfl rfl (fun _ => rfl) ?_
     simp
     refine j0e hc3 rfl rfl (fun _ => by simp) ?_
     simp
     refine j0e hc4 rfl rfl (fun _ => rfl) ?_
     simp [j03]
 · simp only [hr, decide_false] at hc2
   refine ⟨false, by simp, Call.intro hp rfl (by simp) ?_⟩
   show wp _ _ j3f.body (post _ _ _ _) _
   simp [j3f]
   refine j0e hc1 rfl rfl (fun _ => rfl) ?_
   simp
   refine j0e hc2 rfl rfl (fun _ => rfl) ?_
   simp [j03]
def S_cyc (pg : Pg) : Prop := ∀ (n : Nat) (f s : List (List Int)), 0 < n → n ≤ 12 → CY n f → fits s → ∃ t : List (List Int), CY n t ∧ Call pg 364 [sol f s] [sol f s] (ownC t)
set_option maxRecDepth 10000 in
theorem t_cyc {pg : Pg} (hp : pg.fn 364 = some j22) (h304 : S_inv pg 304) : S_cyc pg := by
 intro n f s h0 hn hf hs
 have hfl := hf.1.1
 refine Call.find hp rfl (by simp) ?_
 show wp _ _ j22.body _ _
 generalize hR : (fun (x : X) (e : Env) => ∃ l : List (List Int), CY n l ∧ post j22.rs [sol f s] [sol f s] (ownC l) x e) = R
 simp [j22]
 refine j0a (fun k e => ∃ t : List (List Int), ((t.length = k ∧ ∀ r ∈ t, j4b n r) ∧ ∀ r ∈ t, r.Nodup) ∧ e = fr [(1, some (.val (.mem .own none [tb f, tb s]))), (2, some (.val (.mem .own none [nil]))), (3, some (.val (.mem .own none [j54 t]))), (4, some (.val (I k)))]) n ?_ ?_ 0 _ (by omega) ⟨[], ⟨⟨rfl, by simp⟩, by simp⟩, rfl⟩
 · rintro k e hk ⟨t, ⟨⟨g1, g2⟩, g3⟩, rfl⟩
   have hkl : k < f.length := by omega
   have hr := hf.1.2 _ (List.getElem_mem hkl)
   have hpm := pm_of hr (hf.2 _ (List.getElem_mem hkl)) h0 hn
   have hc := h304 f[k] hpm
   obtain ⟨j1, j2⟩ := invL_ok hpm
   rw [hr.1] at j1
   by_cases hk0 : k = 0
   · subst hk0
     obtain rfl : t = [] := List.length_eq_zero_iff.1 g1
     simp [hk, hfl]
     refine j0e hc rfl rfl (fun _ => by simp) ?_
     simp
     exact ⟨by unfold roomy; omega, [invL f[0]], ⟨⟨rfl, j7o j1⟩, fun r hr => by rw [List.mem_singleton.1 hr]; exact j2⟩, rfl⟩
   · rw [j2j g1 (by omega)]
     simp [hk, hfl]
     refine j0e hc rfl rfl (fun _ => by simp) ?_
     simp
     refine ⟨by unfold roomy; omega, by omega, t ++ [invL f[k]], ⟨TabN.snoc ⟨g1, g2⟩ j1, fun r hr => ?_⟩, by simp only [j53]⟩
     rcases List.mem_append.1 hr with h1 | h1
     · exact g3 r h1
     · rw [List.mem_singleton.1 h1]; exact j2
 · rintro e ⟨t, ⟨⟨g1, g2⟩, g3⟩, rfl⟩
   rw [j2j g1 h0]
   simp [hfl]
   subst hR
   exact ⟨t, ⟨⟨g1, g2⟩, g3⟩, by simp [post, j22]⟩
def S_cys (pg : Pg) : Prop := ∀ (n : Nat) (t : List (List Int)), 0 < n → n ≤ 12 → CY n t → ∃ X : S2, PMN n X.1 X.2 ∧ Call pg 366 [cyT t] [cyT t] (ownS X)
set_option maxRecDepth 10000 in
theorem t_cys {pg : Pg} (hp : pg.fn 366 = some j1n) (h398 : S_empty pg) (h69 : S_index pg) : S_cys pg := by
 intro n t h0 hn ht
 have htl := ht.1.1
 refine Call.find hp rfl (by simp) ?_
 show wp _ _ j1n.body _ _
 generalize hR : (fun (x : X) (e : Env) => ∃ l : S2, PMN n l.1 l.2 ∧ post j1n.rs [cyT t] [cyT t] (ownS l) x e) = R
 simp [j1n]
 rw [htl]
 refine j0e (h398 n h0 (by omega)) rfl rfl (fun _ => by simp) ?_
 simp
 refine j0a (fun a e => ∃ F S : List (List Int), PMN n F S ∧ e = fr [(1, some (.val (.mem .own none [tb t]))), (2, some (.val (.mem .own none [nil, nil]))), (3, some (.val (I n))), (4, some (.val (.mem .own none [j0w F, j0w S]))), (5, some (.val (I a)))]) n ?_ ?_ 0 _ (by omega) ⟨zeroT n n, zeroT n n, ⟨zeroT_tabN h0, zeroT_tabN h0⟩, rfl⟩
 · rintro a e ha ⟨F, S, hX, rfl⟩
   have hal : a < t.length := by omega
   have w1 := hX.1.1
   have w2 := hX.2.1
   have xF : a < F.length := by omega
   have xS : a < S.length := by omega
   have rF := (hX.1.2 _ (List.getElem_mem xF)).1
   have rS := (hX.2.2 _ (List.getElem_mem xS)).1
   have hg1 : (rows F)[a]? = some (ownL F[a]) := by rw [j6a, List.getElem?_eq_getElem xF]; rfl
   have hg2 : (rows S)[a]? = some (ownL S[a]) := by rw [j6a, List.getElem?_eq_getElem xS]; rfl
   simp [ha, w1, w2, rF, rS]
   refine j0a (fun b e => ∃ F S : List (List Int), PMN n F S ∧ e = fr [(1, some (.val (.mem .own none [tb t]))), (2, some (.val (.mem .own none [nil, nil]))), (3, some (.val (I n))), (4, some (.val (.mem .own none [j0w F, j0w S]))), (5, some (.val (I a))), (6, some (.sref 4 [0, a] 1 0 n)), (7, some (.sref 4 [1, a] 1 0 n)), (8, some (.val (I b)))]) n ?_ ?_ 0 _ (by omega) ⟨F, S, hX, by simp⟩
   · clear hg1 hg2 rF rS xF xS w1 w2 hX
     rintro b e hb ⟨F, S, hX, rfl⟩
     have w1 := hX.1.1
     have w2 := hX.2.1
     have xF : a < F.length := by omega
     have xS : a < S.length := by omega
     have rF := (hX.1.2 _ (List.getElem_mem xF)).1
     have rS := (hX.2.2 _ (List.getElem_mem xS)).1
     have hg1 : (rows F)[a]? = some (ownL F[a]) := by rw [j6a, List.getElem?_eq_getElem xF]; rfl
     have hg2 : (rows S)[a]? = some (ownL S[a]) := by rw [j6a, List.getElem?_eq_getElem xS]; rfl
     obtain ⟨_, z1, z2⟩ := ht.has h0 hn ha hb
     have hrow := (ht.1.2 _ (List.getElem_mem hal)).1
     have hc := h69 t[a] b (by omega)
     obtain ⟨u, hu⟩ : ∃ u : Nat, ixOf t[a] b = u := ⟨(ixOf t[a] b).toNat, by omega⟩
     rw [hu] at z1 z2 hc
     have hun : u < n := by omega
     obtain ⟨m1, m2, m3, m4, m5⟩ := ht.1.at hun ha
     simp [hb, ha, htl]
     refine j0e hc rfl rfl (fun _ => rfl) ?_
     simp [hb, ha, htl, w1, w2, rF, rS, hun, m3]
     exact ⟨by omega, by omega, F.set a (F[a].set b u), S.set a (S[a].set b t[u][a]), ⟨hX.1.set2 xF ⟨by omega, by omega⟩, hX.2.set2 xS ⟨by omega, by omega⟩⟩, by simp only [j0w, ← rows_set2 xF, ← rows_set2 xS]⟩
   · rintro e ⟨F, S, hX, rfl⟩
     simp
     exact ⟨by omega, F, S, hX, rfl⟩
 · rintro e ⟨F, S, hX, rfl⟩
   simp
   subst hR
   exact ⟨(F, S), hX, by simp [post, j1n]⟩
theorem PMN.pm {n : Nat} {f s : List (List Int)} (h : PMN n f s) (h0 : 0 < n) (h12 : n ≤ 12) : PM f s := ⟨h.1.tab, h.2.tab, by rw [h.1.1, h.2.1], by rw [h.1.1]; exact h0, by rw [h.1.1]; exact h12⟩
theorem PMN.fits {n : Nat} {f s : List (List Int)} (h : PMN n f s) (h12 : n ≤ 12) : fits f ∧ fits s := ⟨⟨by rw [h.1.1]; omega, fun r hr => by rw [(h.1.2 r hr).1]; omega⟩, by rw [h.2.1]; omega, fun r hr => by rw [(h.2.2 r hr).1]; omega⟩
def S_cyD (pg : Pg) (f : Nat) : Prop := ∀ (c : Rw Int) (s : Int × Int) (most : Nat), Sr c s → 0 < most → most ≤ 12 → ∃ (s' : Int × Int) (n : Nat) (t : List (List Int)), (Sr c s' ∧ 0 < n ∧ n ≤ most ∧ CY n t) ∧ Call pg f [src c s, I most] [src c s', I most] (ownC t)
set_option maxRecDepth 10000 in
theorem t_cyA {pg : Pg} (hp : pg.fn 427 = some j3g) (h336 : S_nxt pg) (h424 : S_aff pg) (h363 : S_cyI pg) (h412 : S_dr2 pg) (h350 : S_nonDeg pg 350) (h351 : S_twice pg 351) (h364 : S_cyc pg) (h449 : S_flp pg) : S_cyD pg 427 := by
 intro c s most hs m0 m12
 have hfind := Call.findA (α := (Int × Int) × Nat × List (List Int)) (Q := fun Y => Sr c Y.1 ∧ 0 < Y.2.1 ∧ Y.2.1 ≤ most ∧ CY Y.2.1 Y.2.2) (args := [src c s, I most]) (args' := fun Y => [src c Y.1, I most]) (r := fun Y => ownC Y.2.2) hp rfl (by simp [F.lets, j3g, List.range, List.range.loop]) (by simp [kindOf]) ?_
 · obtain ⟨Y, h1, h2⟩ := hfind
   exact ⟨_, _, _, h1, h2⟩
 show wp _ _ j3g.body (j6o _ _ _ _ _) _
 generalize hR : j6o (fun Y : (Int × Int) × Nat × List (List Int) => Sr c Y.1 ∧ 0 < Y.2.1 ∧ Y.2.1 ≤ most ∧ CY Y.2.1 Y.2.2) j3g.rs [src c s, I most] (fun Y => [src c Y.1, I most]) (fun Y => ownC Y.2.2) = R
 have hfin : ∀ (s' : Int × Int) (k : Nat) (t : List (List Int)), Sr c s' → 0 < k → k ≤ most → CY k t → R .ret (fr [(0, some (.val (src c s'))), (1, some (.val (I most))), (4, some (.val (.mem .own none [j0w t])))]) := by
  intro s' k X a1 a2 a3 a4
  subst hR
  exact ⟨(s', k, X), ⟨a1, a2, a3, a4⟩, by simp [post, j3g]⟩
 obtain ⟨s1, r1, ⟨k1, k2⟩, hc1⟩ := h336.at hs (n := most) m0
 obtain ⟨s2, kd, ⟨k3, k4⟩, hc2⟩ := h336.at k1 (n := 3) (by omega)
 obtain ⟨n, hn⟩ : ∃ n : Nat, (1 : Int) + r1 = n := ⟨1 + r1, by omega⟩
 have hn0 : 0 < n := by omega
 have hnm : n ≤ most := by omega
 simp [j3g]
 refine j2a (ts' := [rawB c, I s1.1, H64 s1.2]) (r := I r1) (by simpa using hc1) ?_
 simp [hn]
 refine ⟨by omega, ?_⟩
 refine j2a (ts' := [rawB c, I s2.1, H64 s2.2]) (r := I kd) (by simpa using hc2) ?_
 by_cases hk0 : kd = 0
 · simp [hk0]
   refine j0a (fun k e => ∃ s' : Int × Int, Sr c s' ∧ e = fr [(0, some (.val (src c s'))), (1, some (.val (I most))), (4, some (.val (.mem .own none [nil]))), (5, some (.val (I n))), (6, some (.val (I k)))]) 30 ?_ ?_ 0 _ (by omega) ⟨s2, k3, rfl⟩
   · rintro k e hk ⟨s3, g1, rfl⟩
     obtain ⟨s4, a1, ⟨j1, j2⟩, hd1⟩ := h336.at g1 (n := n) hn0
     obtain ⟨s5, a2, ⟨j3, j4⟩, hd2⟩ := h336.at j1 (n := n) hn0
     obtain ⟨s6, a3, ⟨j5, j6⟩, hd3⟩ := h336.at j3 (n := n) hn0
     obtain ⟨t, ht, hd4⟩ := h424 n a1 a2 a3 hn0 (by omega) (by omega) (by omega) (by omega)
     obtain ⟨b, hb, hd5⟩ := h363 n t hn0 (by omega) ht
     have hk' : (k : Int) < 30 := by omega
     simp [hk']
     refine j2a (ts' := [rawB c, I s4.1, H64 s4.2]) (r := I a1) (by simpa using hd1) ?_
     simp
     refine j2a (ts' := [rawB c, I s5.1, H64 s5.2]) (r := I a2) (by simpa using hd2) ?_
     simp
     refine j2a (ts' := [rawB c, I s6.1, H64 s6.2]) (r := I a3) (by simpa using hd3) ?_
     simp
     refine j0e hd4 rfl rfl (fun _ => by simp) ?_
     simp
     refine j0e hd5 rfl rfl (fun _ => rfl) ?_
     cases b with
     | true =>
      simp
      exact hfin s6 n t j5 hn0 hnm ⟨ht, hb rfl⟩
     | false =>
      simp
      exact ⟨by omega, s6.1, s6.2, j5, rfl⟩
   · rintro e ⟨s3, g1, rfl⟩
     simp
     refine j0a (fun k e => ∃ s' : Int × Int, Sr c s' ∧ e = fr [(0, some (.val (src c s'))), (1, some (.val (I most))), (4, some (.val (.mem .own none [nil]))), (5, some (.val (I n))), (8, some (.val (I k)))]) 8 ?_ ?_ 0 _ (by omega) ⟨s3, g1, rfl⟩
     · rintro k e hk ⟨s3, g1, rfl⟩
       obtain ⟨s4, m, X, ⟨j1, j2, j3, j4⟩, hd1⟩ := h412 c s3 n g1 hn0 (by omega)
       have hpm := j4.pm j2 (by omega)
       have hfit := j4.fits (by omega)
       have hk' : (k : Int) < 8 := by omega
       have hd2 := h350 X.1 X.2 hpm
       have hd3 := h351 X.1 X.2 hpm
       simp [hk']
       refine j2a (ts' := [rawB c, I s4.1, H64 s4.2]) (r := ownS X) (by simpa using hd1) ?_
       simp
       refine j0e hd2 rfl rfl (fun _ => rfl) ?_
       by_cases hg : j52 X.1 X.2
       · simp [hg]
         refine j0e hd3 rfl rfl (fun _ => rfl) ?_
         generalize dec (isInv X.1 X.2) = b at *
         cases b with
         | true =>
          obtain ⟨t, ht, hd4⟩ := h364 m X.1 X.2 j2 (by omega) ⟨j4.1, fun r hr => (hg.1 r hr).2⟩ hfit.2
          simp
          refine j0e hd4 rfl rfl (fun _ => by simp) ?_
          simp
          exact hfin s4 m t j1 j2 (by omega) ht
         | false =>
          simp
          exact ⟨by omega, s4.1, s4.2, j1, rfl⟩
       · simp [hg, j03]
         exact ⟨by omega, s4.1, s4.2, j1, rfl⟩
     · rintro e ⟨s3, g1, rfl⟩
       obtain ⟨X, ⟨j1, j2⟩, hd1⟩ := h449 n hn0 (by omega)
       have hfit := j1.fits (by omega)
       obtain ⟨t, ht, hd2⟩ := h364 n X.1 X.2 hn0 (by omega) ⟨j1.1, fun r hr => by rw [j2 r hr]; exact (j68 n).2⟩ hfit.2
       simp
       refine j0e hd1 rfl rfl (fun _ => by simp) ?_
       simp
       refine j0e hd2 rfl rfl (fun _ => by simp) ?_
       simp
       exact hfin s3 n t g1 hn0 hnm ht
 · simp [hk0]
   refine j0a (fun k e => ∃ s' : Int × Int, Sr c s' ∧ e = fr [(0, some (.val (src c s'))), (1, some (.val (I most))), (4, some (.val (.mem .own none [nil]))), (5, some (.val (I n))), (8, some (.val (I k)))]) 8 ?_ ?_ 0 _ (by omega) ⟨s2, k3, rfl⟩
   · rintro k e hk ⟨s3, g1, rfl⟩
     obtain ⟨s4, m, X, ⟨j1, j2, j3, j4⟩, hd1⟩ := h412 c s3 n g1 hn0 (by omega)
     have hpm := j4.pm j2 (by omega)
     have hfit := j4.fits (by omega)
     have hk' : (k : Int) < 8 := by omega
     have hd2 := h350 X.1 X.2 hpm
     have hd3 := h351 X.1 X.2 hpm
     simp [hk']
     refine j2a (ts' := [rawB c, I s4.1, H64 s4.2]) (r := ownS X) (by simpa using hd1) ?_
     simp
     refine j0e hd2 rfl rfl (fun _ => rfl) ?_
     by_cases hg : j52 X.1 X.2
     · simp [hg]
       refine j0e hd3 rfl rfl (fun _ => rfl) ?_
       generalize dec (isInv X.1 X.2) = b at *
       cases b with
       | true =>
        obtain ⟨t, ht, hd4⟩ := h364 m X.1 X.2 j2 (by omega) ⟨j4.1, fun r hr => (hg.1 r hr).2⟩ hfit.2
        simp
        refine j0e hd4 rfl rfl (fun _ => by simp) ?_
        simp
        exact hfin s4 m t j1 j2 (by omega) ht
       | false =>
        simp
        exact ⟨by omega, s4.1, s4.2, j1, rfl⟩
     · simp [hg, j03]
       exact ⟨by omega, s4.1, s4.2, j1, rfl⟩
   · rintro e ⟨s3, g1, rfl⟩
     obtain ⟨X, ⟨j1, j2⟩, hd1⟩ := h449 n hn0 (by omega)
     have hfit := j1.fits (by omega)
     obtain ⟨t, ht, hd2⟩ := h364 n X.1 X.2 hn0 (by omega) ⟨j1.1, fun r hr => by rw [j2 r hr]; exact (j68 n).2⟩ hfit.2
     simp
     refine j0e hd1 rfl rfl (fun _ => by simp) ?_
     simp
     refine j0e hd2 rfl rfl (fun _ => by simp) ?_
     simp
     exact hfin s3 n t g1 hn0 hnm ht
theorem nodup_inj {p : List Int} (h : p.Nodup) {i j : Nat} (hi : i < p.length) (hj : j < p.length) (he : p.getD i 0 = p.getD j 0) : i = j := by
 simp only [List.getD_eq_getElem?_getD, List.getElem?_eq_getElem hi, List.getElem?_eq_getElem hj, Option.getD_some] at he
 exact (List.getElem_inj h).1 he
theorem imT_nodup {n : Nat} {t : List (List Int)} {p : List Int} (ht : CY n t) (hp : Pm p) (hl : p.length = n) : ∀ r ∈ imT t p, r.Nodup := by
 intro r hr
 obtain ⟨a, ha, rfl⟩ := List.mem_map.1 hr
 simp only [List.mem_range] at ha
 have htl := ht.1.1
 have hA := hp.lt (x := a) (by omega)
 have hAt : invQ p a < t.length := by omega
 have hrow := ht.1.2 _ (List.getElem_mem hAt)
 have hnd := ht.2 _ (List.getElem_mem hAt)
 rw [List.nodup_iff_pairwise_ne, List.pairwise_iff_getElem]
 intro i j hi hj hij he
 have hil : i < n := by simp at hi; omega
 have hjl : j < n := by simp at hj; omega
 simp only [List.getElem_map, List.getElem_range] at he
 unfold imG at he
 have hI := hp.lt (x := i) (by omega)
 have hJ := hp.lt (x := j) (by omega)
 obtain ⟨u1, u2, u3, u4, u5⟩ := ht.1.at (i := invQ p a) (j := invQ p i) (by omega) (by omega)
 obtain ⟨v1, v2', v3, v4, v5⟩ := ht.1.at (i := invQ p a) (j := invQ p j) (by omega) (by omega)
 have e1 := j3t u1 u2
 have e2 := j3t v1 v2'
 rw [e1] at u4 u5
 rw [e2] at v4 v5
 have h1 := nodup_inj hp.pm.2 (by omega) (by omega) he
 have h2 : v2 t (invQ p a) (invQ p i) = v2 t (invQ p a) (invQ p j) := by omega
 rw [← e1, ← e2] at h2
 have h3 := (List.getElem_inj hnd).1 h2
 have h4 := hp.at (x := i) (by omega)
 have h5 := hp.at (x := j) (by omega)
 rw [h3] at h4
 omega
set_option maxRecDepth 10000 in
theorem t_cyDr {pg : Pg} (hp : pg.fn 378 = some j2v) (h336 : S_nxt pg) (h427 : S_cyD pg 427) (h368 : S_drw pg) (h367 : S_image pg 367) : S_cyD pg 378 := by
 intro c s most hs m0 m12
 have hfind := Call.findA (α := (Int × Int) × Nat × List (List Int)) (Q := fun Y => Sr c Y.1 ∧ 0 < Y.2.1 ∧ Y.2.1 ≤ most ∧ CY Y.2.1 Y.2.2) (args := [src c s, I most]) (args' := fun Y => [src c Y.1, I most]) (r := fun Y => ownC Y.2.2) hp rfl (by simp [F.lets, j2v, List.range, List.range.loop]) (by simp [kindOf]) ?_
 · obtain ⟨Y, h1, h2⟩ := hfind
   exact ⟨_, _, _, h1, h2⟩
 show wp _ _ j2v.body (j6o _ _ _ _ _) _
 generalize hR : j6o (fun Y : (Int × Int) × Nat × List (List Int) => Sr c Y.1 ∧ 0 < Y.2.1 ∧ Y.2.1 ≤ most ∧ CY Y.2.1 Y.2.2) j2v.rs [src c s, I most] (fun Y => [src c Y.1, I most]) (fun Y => ownC Y.2.2) = R
 have hfin : ∀ (s' : Int × Int) (k : Nat) (t : List (List Int)), Sr c s' → 0 < k → k ≤ most → CY k t → R .ret (fr [(0, some (.val (src c s'))), (1, some (.val (I most))), (4, some (.val (.mem .own none [j0w t])))]) := by
  intro s' k X a1 a2 a3 a4
  subst hR
  exact ⟨(s', k, X), ⟨a1, a2, a3, a4⟩, by simp [post, j2v]⟩
 obtain ⟨s1, n, t, ⟨k1, k2, k3, k4⟩, hc1⟩ := h427 c s most hs m0 m12
 obtain ⟨s2, r, ⟨k5, _⟩, hc2⟩ := h336.at k1 (n := 3) (by omega)
 obtain ⟨s3, p, ⟨k6, k7, k8⟩, hc3⟩ := h368 c s2 n k5 (by omega)
 have hpm := pm_of k7 k8 k2 (by omega)
 have hl1 := k4.1.1
 have hc4 := h367 t p k4.1.tab hpm (by rw [k7.1, hl1])
 simp [j2v]
 refine j2a (ts' := [rawB c, I s1.1, H64 s1.2]) (r := ownC t) (by simpa using hc1) ?_
 simp
 refine j2a (ts' := [rawB c, I s2.1, H64 s2.2]) (r := I r) (by simpa using hc2) ?_
 by_cases hr : 0 < r
 · simp [hr, hl1]
   refine j2a (ts' := [rawB c, I s3.1, H64 s3.2]) (r := ownL p) (by simpa using hc3) ?_
   simp [hl1]
   refine j0e hc4 rfl rfl (fun _ => by simp) ?_
   simp
   refine hfin s3 n (imT t p) k6 k2 k3 ⟨imT_tabN k4.1 hpm k7.1, ?_⟩
   exact imT_nodup k4 hpm k7.1
 · simp [hr]
   exact hfin s2 n t k5 k2 k3 k4
set_option maxRecDepth 10000 in
theorem t_spl7 {pg : Pg} (hp : pg.fn 268 = some j2d) (h336 : S_nxt pg) (h378 : S_cyD pg 378) (h366 : S_cys pg) (h379 : S_spl pg 379) : S_spl pg 268 := by
 intro c s most hs m0 m12
 have hfind := Call.findA (α := (Int × Int) × S2) (Q := fun Y => Sr c Y.1 ∧ Bd Y.2.1 ∧ Bd Y.2.2) (args := [src c s, I most]) (args' := fun Y => [src c Y.1, I most]) (r := fun Y => ownS Y.2) hp rfl (by simp [F.lets, j2d, List.range, List.range.loop]) (by simp [kindOf]) ?_
 · obtain ⟨Y, h1, h2⟩ := hfind
   exact ⟨_, _, h1, h2⟩
 show wp _ _ j2d.body (j6o _ _ _ _ _) _
 generalize hR : j6o (fun Y : (Int × Int) × S2 => Sr c Y.1 ∧ Bd Y.2.1 ∧ Bd Y.2.2) j2d.rs [src c s, I most] (fun Y => [src c Y.1, I most]) (fun Y => ownS Y.2) = R
 have hfin : ∀ (s' : Int × Int) (X : S2), Sr c s' → Bd X.1 → Bd X.2 → R .ret (fr [(0, some (.val (src c s'))), (1, some (.val (I most))), (4, some (.val (.mem .own none [j0w X.1, j0w X.2])))]) := by
  intro s' X a1 a2 a3
  subst hR
  exact ⟨(s', X), ⟨a1, a2, a3⟩, by simp [post, j2d]⟩
 obtain ⟨s1, r, ⟨k1, _⟩, hc1⟩ := h336.at hs (n := 3) (by omega)
 simp [j2d]
 refine j2a (ts' := [rawB c, I s1.1, H64 s1.2]) (r := I r) (by simpa using hc1) ?_
 by_cases hr : r = 0
 · obtain ⟨s2, n, t, ⟨k2, k3, k4, k5⟩, hc2⟩ := h378 c s1 most k1 m0 m12
   obtain ⟨X, hX, hc3⟩ := h366 n t k3 (by omega) k5
   simp [hr]
   refine j2a (ts' := [rawB c, I s2.1, H64 s2.2]) (r := ownC t) (by simpa using hc2) ?_
   simp
   refine j0e hc3 rfl rfl (fun _ => by simp) ?_
   simp
   exact hfin s2 X k2 (hX.1.bd (by omega)) (hX.2.bd (by omega))
 · obtain ⟨s2, X, ⟨k2, k3, k4⟩, hc2⟩ := h379 c s1 most k1 m0 m12
   simp [hr]
   refine j2a (ts' := [rawB c, I s2.1, H64 s2.2]) (r := ownS X) (by simpa using hc2) ?_
   simp
   exact hfin s2 X k2 k3 k4
def S_drS (pg : Pg) (f : Nat) : Prop := ∀ c : Rw Int, okB c → ∃ X : S2, (Bd X.1 ∧ Bd X.2) ∧ Call pg f [rawB c] [rawB c] (ownS X)
set_option maxRecDepth 10000 in
theorem t_dOrb {pg : Pg} (hp : pg.fn 238 = some j1h) (h269 : S_from pg) (h268 : S_spl pg 268) : S_drS pg 238 := by
 intro c hc
 obtain ⟨s, hs, hc1⟩ := h269 c hc
 obtain ⟨s1, X, ⟨k1, k2, k3⟩, hc2⟩ := h268 c s 8 hs (by omega) (by omega)
 refine ⟨X, ⟨k2, k3⟩, Call.intro hp rfl (by simp) ?_⟩
 show wp _ _ j1h.body (post [.cell 2 (some 2)] _ _ _) _
 simp [j1h]
 refine j0e hc1 rfl rfl (fun h => by simp at h) ?_
 simp
 refine callM (ts' := [src c s1, I 8]) (r := ownS X) ?_ ?_ ?_ ?_
 · simp
 · simpa using hc2
 · simp
 simp
end Go.Mch
namespace Go.Mch

theorem asc_snoc {L : List Int} {k : Int} (h : asc L) (hl : ∀ v ∈ L, v < k) : asc (L ++ [k]) := by
 intro i hi
 simp only [List.length_append, List.length_cons, List.length_nil] at hi
 unfold ascAt
 by_cases h1 : i + 1 < L.length
 · have := h i h1
   unfold ascAt at this
   rw [List.getD_eq_getElem?_getD, List.getD_eq_getElem?_getD, List.getElem?_append_left (by omega), List.getElem?_append_left h1, ← List.getD_eq_getElem?_getD, ← List.getD_eq_getElem?_getD]
   exact this
 · have h2 : i + 1 = L.length := by omega
   have h3 : i < L.length := by omega
   rw [List.getD_eq_getElem?_getD, List.getD_eq_getElem?_getD, List.getElem?_append_left h3, List.getElem?_append_right (by omega), h2, List.getElem?_eq_getElem h3]
   simpa using hl _ (List.getElem_mem h3)
theorem plK_rng {xs : List Int} {P : Int → Bool} {k : Nat} {v : Int} (h : v ∈ plK xs P k) : 0 ≤ v ∧ v < k := by
 simp only [plK, List.mem_map, List.mem_filter, List.mem_range] at h
 obtain ⟨i, ⟨h1, _⟩, rfl⟩ := h
 omega
theorem plK_asc (xs : List Int) (P : Int → Bool) (k : Nat) : asc (plK xs P k) := by
 induction k with
 | zero => intro i hi; simp [plK] at hi
 | succ k ih =>
  have hs : plK xs P (k + 1) = if P (xs.getD k 0) then plK xs P k ++ [(k : Int)] else plK xs P k := by
   simp only [plK, List.range_succ, List.filter_append, List.filter_cons, List.filter_nil, List.map_append]
   split <;> simp
  rw [hs]
  split
  · exact asc_snoc ih fun v hv => (plK_rng hv).2
  · exact ih
theorem isSetL.inN {n : Nat} {xs : List Int} (h : isSetL n xs) : inN n xs := fun v hv => by
 have := h.2.1 v hv
 omega
end Go.Mch
namespace Go.Mch

theorem orbS_hit {ms : List (List Int)} {n : Nat} (h : Prms n ms) (k : Nat) (hk : k ≤ n) : ∀ c : Int, 0 ≤ c → c < (orbS ms n k).2 → ∃ x, x < n ∧ (orbS ms n k).1.getD x 0 = c := by
 induction k with
 | zero => intro c h1 h2; exact absurd h2 (by show ¬ c < 0; omega)
 | succ k ih =>
  intro c h1 h2
  by_cases h0 : 0 ≤ (orbS ms n k).1.getD k 0
  · rw [j6f, if_pos h0] at h2 ⊢
    exact ih (by omega) c h1 h2
  · have h2' : c < (orbS ms n k).2 + 1 := by rw [j6f, if_neg h0] at h2; exact h2
    by_cases hc : c < (orbS ms n k).2
    · obtain ⟨x, hx, he⟩ := ih (by omega) c h1 hc
      exact ⟨x, hx, by rw [orbS_keep h (by omega) hx (by omega), he]⟩
    · refine ⟨k, by omega, ?_⟩
      rw [j6f, if_neg h0]
      show (markO ms k (orbS ms n k).1 (orbS ms n k).2).getD k 0 = c
      have hr : Rch ms k k := fun S hS _ => hS
      rw [j3e (by simp; omega), j0v hr]
      show (orbS ms n k).2 = c
      omega
noncomputable def osM (f s : List (List Int)) (c : Int) : List Int := pl (solO f s) fun x => decide (x = c)
theorem osM_set {f s : List (List Int)} {c : Int} (h : osM f s c ≠ []) : isSetL f.length (osM f s c) ∧ (osM f s c).length ≤ f.length := by
 have hl := plK_len (solO f s) (fun x => decide (x = c)) (solO f s).length
 have hd : osM f s c = plK (solO f s) (fun x => decide (x = c)) (solO f s).length := rfl
 rw [hd] at h ⊢
 refine ⟨⟨List.length_pos_iff.2 h, fun v hv => ?_, plK_asc _ _ _⟩, by simpa using hl⟩
 have := plK_rng hv
 rw [solO_length] at this
 omega
theorem osM_mem {f s : List (List Int)} {c x : Int} : x ∈ osM f s c ↔ (0 ≤ x ∧ x < f.length) ∧ (solO f s).getD x.toNat 0 = c := by
 unfold osM pl plK
 simp only [List.mem_map, List.mem_filter, List.mem_range, solO_length, decide_eq_true_eq]
 constructor
 · rintro ⟨i, ⟨h1, h2⟩, rfl⟩
   exact ⟨by omega, by simpa using h2⟩
 · rintro ⟨h1, h2⟩
   exact ⟨x.toNat, ⟨by omega, h2⟩, by omega⟩
theorem osM_clo {f s : List (List Int)} (h : PM f s) (hn : j52 f s) (c : Int) : clo f s (osM f s c) := by
 have hp := prms_of h hn
 intro i j hi hj
 have mi : (osM f s c).getD i 0 ∈ osM f s c := by rw [List.getD_eq_getElem?_getD, List.getElem?_eq_getElem hi]; exact List.getElem_mem hi
 have mj : (osM f s c).getD j 0 ∈ osM f s c := by rw [List.getD_eq_getElem?_getD, List.getElem?_eq_getElem hj]; exact List.getElem_mem hj
 show g2 f _ _ ∈ _ ∧ g2 s _ _ ∈ _
 generalize (osM f s c).getD i 0 = x at *
 generalize (osM f s c).getD j 0 = y at *
 have hgf := h.gF x y
 have hgs := h.gS x y
 rw [osM_mem] at mi mj ⊢
 rw [osM_mem]
 obtain ⟨⟨x1, x2⟩, x3⟩ := mi
 obtain ⟨⟨y1, y2⟩, y3⟩ := mj
 have hxl : x.toNat < f.length := by omega
 have hyl : y.toNat < f.length := by omega
 refine ⟨⟨hgf, ?_⟩, ⟨hgs, ?_⟩⟩
 · have hm : f[x.toNat] ∈ f ++ j1b s := List.mem_append.2 (.inl (List.getElem_mem hxl))
   have ha := orbL_act hp hyl hm
   have e1 : act f[x.toNat] (y.toNat : Int) = g2 f x y := by
    have hr : (f[x.toNat]).length = f.length := (h.tf _ (List.getElem_mem hxl)).1
    rw [← get_g2 (t := f) (x := x) (y := y) hxl (by omega), act, Int.toNat_natCast, List.getD_eq_getElem?_getD, List.getElem?_eq_getElem (by omega)]
    rfl
   rw [e1] at ha
   show (orbL (f ++ j1b s) f.length).getD _ 0 = c
   rw [ha]; exact y3
 · have hsl : y.toNat < (j1b s).length := by rw [turnL_length, h.len]; exact hyl
   have hm : (j1b s)[y.toNat] ∈ f ++ j1b s := List.mem_append.2 (.inr (List.getElem_mem hsl))
   have ha := orbL_act hp hxl hm
   have e1 : act (j1b s)[y.toNat] (x.toNat : Int) = g2 s x y := by
    have hxs : x.toNat < s.length := by rw [h.len]; exact hxl
    have hr : ((j1b s)[y.toNat]).length = s.length := j7e (List.getElem_mem hsl)
    rw [act, Int.toNat_natCast, List.getD_eq_getElem?_getD, List.getElem?_eq_getElem (by omega)]
    simp [j1b, tabL, g2]
   rw [e1] at ha
   show (orbL (f ++ j1b s) f.length).getD _ 0 = c
   rw [ha]; exact x3
end Go.Mch
namespace Go.Mch

def j7r (L : List (List (List Int) × List (List Int))) : List T := L.flatMap fun x => [.mem .own (some 1) (rows x.1), .mem .own (some 1) (rows x.2)]
@[simp] theorem solsT_length (L : List (List (List Int) × List (List Int))) : (j7r L).length = 2 * L.length := by
 induction L with
 | nil => rfl
 | cons x L ih => simp only [j7r, List.flatMap_cons, List.length_append, List.length_cons, List.length_nil] at ih ⊢; omega
theorem solsT_snoc (L : List (List (List Int) × List (List Int))) (x : List (List Int) × List (List Int)) : j7r (L ++ [x]) = j7r L ++ [.mem .own (some 1) (rows x.1), .mem .own (some 1) (rows x.2)] := by simp [j7r]
theorem j64 {ts : List T} {n : Nat} (h : ts.length ≤ n) : win ts 0 n = ts := by simp [win, List.take_of_length_le h]
noncomputable def osL (f s : List (List Int)) (k : Nat) : List (List (List Int) × List (List Int)) := (List.range k).map fun c : Nat => (subT f (osM f s c), subT s (osM f s c))
@[simp] theorem osL_length (f s : List (List Int)) (k : Nat) : (osL f s k).length = k := by simp [osL]
theorem osL_succ (f s : List (List Int)) (k : Nat) : osL f s (k + 1) = osL f s k ++ [(subT f (osM f s k), subT s (osM f s k))] := by simp [osL, List.range_succ]
theorem osM_ne {f s : List (List Int)} (hpm : PM f s) (hn : j52 f s) {c : Nat} (hc : (c : Int) < greatest (solO f s)) : osM f s c ≠ [] := fun hh => by
 have hpr := prms_of hpm hn
 have hcl : (c : Int) < (orbS (f ++ j1b s) f.length f.length).2 := by
  apply Classical.byContradiction
  intro hno
  have := greatest_le (solO f s) c (by omega) fun x hx => by
   obtain ⟨i, hi, rfl⟩ := List.getElem_of_mem hx
   have hr := (orbS_rng (f ++ j1b s) f.length f.length i (by simpa using hi)).2
   have he : (orbS (f ++ j1b s) f.length f.length).1.getD i 0 = (solO f s)[i] := by
    rw [List.getD_eq_getElem?_getD]
    show ((solO f s)[i]?).getD 0 = _
    rw [List.getElem?_eq_getElem hi]
    rfl
   omega
  omega
 obtain ⟨x, hx, he⟩ := orbS_hit hpr f.length (Nat.le_refl _) c (by omega) hcl
 have : (x : Int) ∈ osM f s c := osM_mem.2 ⟨by omega, by rw [Int.toNat_natCast]; exact he⟩
 rw [hh] at this
 cases this
noncomputable def osV (f s : List (List Int)) : T := .mem .own (some 2) (j7r (osL f s (greatest (solO f s)).toNat))
def S_os (pg : Pg) (n : Nat) : Prop := ∀ f s : List (List Int), fits f → fits s → Call pg n [sol f s] [sol f s] (.tup [onReg nil osV f s, I (onReg 1 (fun _ _ => 0) f s)])
set_option maxRecDepth 10000 in
theorem t_os_spec {pg : Pg} (hp : pg.fn 208 = some j2g) (h264 : S_reg pg 264) (h299 : S_solO pg 299) (h288 : S_greatest pg) (h316 : S_members pg) (h332 : S_sub pg) : S_os pg 208 := by
 intro f s hf hs
 refine Call.intro hp rfl (by simp) ?_
 show wp _ _ j2g.body (post [.t 2, .t 3] _ _ _) _
 simp [j2g]
 refine j0e (h264 f s hf hs) rfl rfl (fun _ => rfl) ?_
 by_cases h : isReg f s
 · have hpm := PM.of h.1.1
   have h12 := hpm.small
   have h0 := hpm.pos
   have hpr := prms_of hpm h.2
   simp [j0v h, j5o h]
   refine j0e (h299 f s hpm h.2) rfl rfl (fun _ => by simp) ?_
   have hgr : ∀ x ∈ solO f s, 0 ≤ x ∧ x ≤ 1048576 := fun x hx => by have := j5i hx; omega
   have hcg := h288 (solO f s) (by simp; omega) hgr
   have hG0 : 0 ≤ greatest (solO f s) := greatest_nn _ fun x hx => (hgr x hx).1
   have hGl : greatest (solO f s) ≤ f.length := greatest_le _ _ (by omega) fun x hx => (j5i hx).2
   have hmem := fun v => h316 (solO f s) v (by simp; omega)
   have hsub : ∀ c : Nat, (c : Int) < greatest (solO f s) → Call pg 332 [sol f s, ix (osM f s c)] [sol f s, ix (osM f s c)] (.agg [.mem .own (some 1) (rows (subT f (osM f s c))), .mem .own (some 1) (rows (subT s (osM f s c)))]) := fun c hc => by
    obtain ⟨o1, o2⟩ := osM_set (osM_ne hpm h.2 hc)
    exact h332 f s _ hpm o1.inN o1.1 (by omega)
   unfold osV
   change ∀ v : Int, Call pg 316 _ _ (.mem .own (some 1) ((osM f s v).map I)) at hmem
   generalize greatest (solO f s) = G at *
   obtain ⟨m, rfl⟩ : ∃ m : Nat, G = m := ⟨G.toNat, by omega⟩
   simp
   refine j0a (fun k e => e = fr [(1, some (.val (.mem .own none [tb f, tb s]))), (4, some (.val (.mem .own (some 1) ((solO f s).map I)))), (5, some (.val (.mem .own (some 2) (j7r (osL f s k))))), (6, some (.val (I k)))]) m ?_ ?_ 0 _ (by omega) ?_
   · rintro k e hk rfl
     have hsk := hsub k (by omega)
     rw [osL_succ, solsT_snoc]
     have hlk := osL_length f s k
     generalize osL f s k = L at *
     simp
     refine j0e hcg rfl rfl (fun _ => rfl) ?_
     simp [hk]
     refine j0e (hmem k) rfl rfl (fun _ => by simp) ?_
     simp
     refine j0e hsk rfl rfl (fun _ => by simp) ?_
     have hw1 : win (j7r L) 0 (L.length * 2) = j7r L := j64 (by simp; omega)
     simp [hw1]
     refine ⟨by omega, by unfold roomy; omega, by omega, by omega, ?_⟩
     rw [j64 (by simp; omega)]
   · rintro e rfl
     simp
     refine j0e hcg rfl rfl (fun _ => rfl) ?_
     have hw1 : win (j7r (osL f s m)) 0 (m * 2) = j7r (osL f s m) := j64 (by simp; omega)
     simp [hw1]
     omega
   · simp [osL, j7r]
 · simp [onReg, h]
set_option maxRecDepth 10000 in
theorem t_os_impl {pg : Pg} (hp : pg.fn 209 = some j2i) (h266 : S_reg pg 266) (h301 : S_solO pg 301) (h290 : S_maxL pg) (h318 : S_places pg) (h239 : S_subI pg) : S_os pg 209 := by
 intro f s hf hs
 refine Call.intro hp rfl (by simp) ?_
 show wp _ _ j2i.body (post [.t 2, .t 3] _ _ _) _
 simp [j2i]
 refine j0e (h266 f s hf hs) rfl rfl (fun _ => rfl) ?_
 by_cases h : isReg f s
 · have hpm := PM.of h.1.1
   have h12 := hpm.small
   have h0 := hpm.pos
   simp [j0v h, j5o h]
   refine j0e (h301 f s hpm h.2) rfl rfl (fun _ => by simp) ?_
   have hcg := h290 (solO f s) (by simp; omega) (by simpa using h0)
   have hg := greatest_max (solO f s) (by simpa using h0) (fun x hx => (j5i hx).1)
   have hG0 : 0 ≤ greatest (solO f s) := greatest_nn _ fun x hx => (j5i hx).1
   have hGl : greatest (solO f s) ≤ f.length := greatest_le _ _ (by omega) fun x hx => (j5i hx).2
   have hpos : 0 < greatest (solO f s) := by
    have hl : 0 < (solO f s).length := by simpa using h0
    have := le_greatest (solO f s) (List.getElem_mem hl)
    have := (j5i (List.getElem_mem hl)).1
    omega
   have hmem : ∀ c : Nat, (c : Int) < greatest (solO f s) → Call pg 318 [ix (solO f s), I c] [ix (solO f s), I c] (.mem .own (some 1) ((osM f s c).map I)) := fun c hc => by
    have := h318 (solO f s) c (by simp; omega)
    change Call pg 318 _ _ (ownN (osM f s c)) at this
    rw [j5r (osM_ne hpm h.2 hc)] at this
    exact this
   have hsub : ∀ c : Nat, (c : Int) < greatest (solO f s) → Call pg 239 [sol f s, ix (osM f s c)] [sol f s, ix (osM f s c)] (.tup [.agg [.mem .own (some 1) (rows (subT f (osM f s c))), .mem .own (some 1) (rows (subT s (osM f s c)))], I 0]) := fun c hc => by
    obtain ⟨o1, o2⟩ := osM_set (osM_ne hpm h.2 hc)
    exact h239 f s _ h.1.1 o1 (osM_clo hpm h.2 _) (by omega)
   unfold osV
   simp
   refine j0e hcg rfl rfl (fun _ => rfl) ?_
   have hmx : maxL (solO f s) + 1 = greatest (solO f s) := by omega
   simp [hmx]
   generalize greatest (solO f s) = G at *
   obtain ⟨m, rfl⟩ : ∃ m : Nat, G = m := ⟨G.toNat, by omega⟩
   refine ⟨by omega, ?_⟩
   refine j0a (fun k e => e = fr [(1, some (.val (.mem .own none [tb f, tb s]))), (4, some (.val (.mem .own (some 1) ((solO f s).map I)))), (5, some (.val (if k = 0 then nil else .mem .own (some 2) (j7r (osL f s k))))), (16, some (.val (I m))), (17, some (.val (I k)))]) m ?_ ?_ 0 _ (by omega) ?_
   · rintro k e hk rfl
     have hsk := hsub k (by omega)
     have hmk := hmem k (by omega)
     rw [osL_succ, solsT_snoc]
     have hlk := osL_length f s k
     generalize hL : osL f s k = L at *
     by_cases hk0 : k = 0
     · have hL0 : L = [] := List.length_eq_zero_iff.1 (by omega)
       subst hk0
       simp [hk]
       refine j0e hmk rfl rfl (fun _ => by simp) ?_
       simp
       refine j0e hsk rfl rfl (fun _ => by simp) ?_
       simp
       exact ⟨by unfold roomy; omega, by simp [hL0, j7r]⟩
     · simp [hk, hk0]
       refine j0e hmk rfl rfl (fun _ => by simp) ?_
       simp
       refine j0e hsk rfl rfl (fun _ => by simp) ?_
       have hw1 : win (j7r L) 0 (L.length * 2) = j7r L := j64 (by simp; omega)
       simp [hw1]
       refine ⟨by omega, by unfold roomy; omega, by omega, by omega, ?_⟩
       rw [j64 (by simp; omega)]
   · rintro e rfl
     have hm0 : ¬ m = 0 := by omega
     have hw1 : win (j7r (osL f s m)) 0 (m * 2) = j7r (osL f s m) := j64 (by simp; omega)
     simp [hm0, hw1]
     omega
   · simp
 · simp [onReg, h]
end Go.Mch
namespace Go.Mch
def S_big (pg : Pg) : Prop := ∀ c : Rw Int, Call pg 128 [rawB c] [rawB c] (B (decide ((4096 : Int) < (lst c).length)))
theorem t_big {pg : Pg} (hp : pg.fn 128 = some c_laws_big) : S_big pg := by
 intro c
 refine Call.intro hp rfl (by simp) ?_
 show wp _ _ c_laws_big.body (post [.t 2] _ _ _) _
 simp [c_laws_big]
def S_likeI (pg : Pg) : Prop := ∀ a b : Rw Int, (lst a).length ≤ 1048576 → Call pg 141 [rawI a, rawI b] [rawI a, rawI b] (B (decide (lst a = lst b)))
theorem t_likeI {pg : Pg} (hp : pg.fn 141 = some j3v) : S_likeI pg := by
 intro a b ha
 refine Call.intro hp rfl (by simp) ?_
 show wp _ _ j3v.body (post [.t 4] _ _ _) _
 by_cases hl : (lst a).length = (lst b).length
 · simp [j3v, hl]
   refine j0a (fun k e => (∀ i, i < k → (lst a)[i]? = (lst b)[i]?) ∧ e = fr [(0, some (.val (rawI a))), (1, some (.val (rawI b))), (5, some (.val (I k)))]) (lst a).length ?_ ?_ 0 _ (by omega) ?_
   · rintro k e hk ⟨h1, rfl⟩
     have hk2 : k < (lst b).length := by omega
     by_cases hne : (lst a)[k] = (lst b)[k]
     · simp [hk, hk2, hne]
       refine ⟨by omega, fun i hi => ?_⟩
       rcases Nat.lt_or_ge i k with h2 | h2
       · exact h1 i h2
       · have : i = k := by omega
         subst this
         rw [List.getElem?_eq_getElem hk, List.getElem?_eq_getElem hk2, hne]
     · simp [hk, hk2, hne]
       intro h2
       exact hne (by simp [h2])
   · rintro e ⟨h1, rfl⟩
     simp [hl]
     apply List.ext_getElem?
     intro i
     rcases Nat.lt_or_ge i (lst a).length with h2 | h2
     · exact h1 i h2
     · rw [List.getElem?_eq_none h2, List.getElem?_eq_none (by omega)]
   · exact ⟨fun i hi => by omega, by simp⟩
 · have : lst a ≠ lst b := fun h => hl (by rw [h])
   have h2 : ((lst a).length : Int) ≠ (lst b).length := by omega
   simp [j3v, h2, this]

def S_likeT (pg : Pg) : Prop := ∀ a b : Rw (Rw Int), small a → Call pg 137 [rawT a, rawT b] [rawT a, rawT b] (B (decide ((lst a).map lst = (lst b).map lst)))
theorem t_likeT {pg : Pg} (hp : pg.fn 137 = some j3b) (h141 : S_likeI pg) : S_likeT pg := by
 intro a b ⟨ha, hr⟩
 refine Call.intro hp rfl (by simp) ?_
 show wp _ _ j3b.body (post [.t 4] _ _ _) _
 by_cases hl : (lst a).length = (lst b).length
 · simp [j3b, hl]
   refine j0a (fun k e => (∀ i, i < k → ((lst a).map lst)[i]? = ((lst b).map lst)[i]?) ∧ e = fr [(0, some (.val (rawT a))), (1, some (.val (rawT b))), (5, some (.val (I k)))]) (lst a).length ?_ ?_ 0 _ (by omega) ?_
   · rintro k e hk ⟨h1, rfl⟩
     have hk2 : k < (lst b).length := by omega
     simp [hk, hk2]
     refine j0e (h141 _ _ (hr _ (List.getElem_mem hk))) rfl rfl (fun _ => rfl) ?_
     by_cases hne : lst (lst a)[k] = lst (lst b)[k]
     · simp [hne]
       refine ⟨by omega, fun i hi => ?_⟩
       rcases Nat.lt_or_ge i k with h2 | h2
       · have := h1 i h2
         simpa using this
       · have : i = k := by omega
         subst this
         simp [hk, hk2, hne]
     · simp [hne]
       intro h2
       have h3 := congrArg (fun l => l[k]?) h2
       simp [hk, hk2] at h3
       exact hne h3
   · rintro e ⟨h1, rfl⟩
     simp [hl]
     apply List.ext_getElem?
     intro i
     rcases Nat.lt_or_ge i (lst a).length with h2 | h2
     · exact h1 i h2
     · rw [List.getElem?_eq_none (by simpa using h2), List.getElem?_eq_none (by simp; omega)]
   · exact ⟨fun i hi => by omega, by simp⟩
 · have : (lst a).map lst ≠ (lst b).map lst := fun h => hl (by have := congrArg List.length h; simpa using this)
   have h2 : ((lst a).length : Int) ≠ (lst b).length := by omega
   simp [j3b, h2, this]

def S_same9 (pg : Pg) : Prop := ∀ a b : Rw (Rw Int), small a → Call pg 178 [rawT a, rawT b] [rawT a, rawT b] (B (decide ((lst a).map lst = (lst b).map lst)))
theorem S_likeI.o {pg : Pg} (h : S_likeI pg) (o o' : Option (List Int)) (hs : (lso o).length ≤ 1048576) : Call pg 141 [rawI (.ofO o), rawI (.ofO o')] [rawI (.ofO o), rawI (.ofO o')] (B (decide (lso o = lso o'))) := by
 have := h (.ofO o) (.ofO o') (by simpa using hs)
 simpa using this
theorem S_likeT.tb {pg : Pg} (h : S_likeT pg) (X Y : List (List Int)) (hs : j4j X) : Call pg 137 [tb X, tb Y] [tb X, tb Y] (B (decide (X = Y))) := by
 have := h (ryT (some X)) (ryT (some Y)) (small_ry hs)
 simp only [rawT_ry, lst_ry] at this
 exact this
theorem S_same9.tb {pg : Pg} (h : S_same9 pg) (X Y : List (List Int)) (hs : j4j X) : Call pg 178 [tb X, tb Y] [tb X, tb Y] (B (decide (X = Y))) := by
 have := h (ryT (some X)) (ryT (some Y)) (small_ry hs)
 simp only [rawT_ry, lst_ry] at this
 exact this
def S_likeS (pg : Pg) : Prop := ∀ X Y Z W : List (List Int), j4j X → j4j Y → Call pg 218 [sol X Y, sol Z W] [sol X Y, sol Z W] (B (decide (X = Z ∧ Y = W)))
set_option maxRecDepth 10000 in
theorem t_likeS {pg : Pg} (hp : pg.fn 218 = some j2p) (h137 : S_likeT pg) : S_likeS pg := by
 intro X Y Z W hX hY
 refine Call.intro hp rfl (by simp) ?_
 show wp _ _ j2p.body (post [.t 4] _ _ _) _
 simp [j2p]
 refine j0e (h137.tb X Z hX) rfl rfl (fun _ => rfl) ?_
 by_cases h : X = Z
 · simp [h]
   refine j0e (h137.tb Y W hY) rfl rfl (fun _ => rfl) ?_
   simp
 · simp [h, j03]
def S_top5 (pg : Pg) : Prop := ∀ xs : List Int, xs.length ≤ 1048576 → (∀ x ∈ xs, 0 ≤ x ∧ x ≤ 1048576) → Call pg 219 [ix xs] [ix xs] (I (greatest xs))
theorem t_top5 {pg : Pg} (hp : pg.fn 219 = some j7a) : S_top5 pg := by
 intro xs hl hx
 refine Call.intro hp rfl (by simp) ?_
 show wp _ _ j7a.body (post [.t 2] _ _ _) _
 simp [j7a]
 refine j0a (fun k e => e = fr [(0, some (.val (ix xs))), (3, some (.val (I (greatest (xs.take k))))), (4, some (.val (I k)))]) xs.length ?_ ?_ 0 _ (by omega) ?_
 · rintro k e hk rfl
   have h1 := hx _ (List.getElem_mem hk)
   have hs := greatest_succ hk
   by_cases hg : greatest (xs.take k) ≤ xs[k]
   · rw [if_pos hg] at hs
     simp [hk, hg, hs]
     omega
   · rw [if_neg hg] at hs
     simp [hk, hg, hs]
     omega
 · rintro e rfl
   simp
 · simp [greatest]
def S_hasInt (pg : Pg) : Prop := ∀ (a : Rw Int) (v : Int), (lst a).length ≤ 1048576 → Call pg 240 [rawI a, I v] [rawI a, I v] (B (decide (v ∈ lst a)))
set_option maxRecDepth 10000 in
theorem t_hasInt {pg : Pg} (hp : pg.fn 240 = some j51) : S_hasInt pg := by
 intro a v hl
 refine Call.intro hp rfl (by simp) ?_
 show wp _ _ j51.body (post [.t 4] _ _ _) _
 simp [j51]
 refine j0a (fun k e => v ∉ (lst a).take k ∧ e = fr [(0, some (.val (rawI a))), (1, some (.val (I v))), (5, some (.val (I k)))]) (lst a).length ?_ ?_ 0 _ (by omega) ⟨by simp, by simp⟩
 · rintro k e hk ⟨g1, rfl⟩
   by_cases he : (lst a)[k] = v
   · have hm : v ∈ lst a := he ▸ List.getElem_mem hk
     simp [hk, he, hm]
   · simp [hk, he]
     refine ⟨by omega, fun hh => ?_⟩
     rw [List.take_succ_eq_append_getElem hk] at hh
     rcases List.mem_append.1 hh with h1 | h1
     · exact g1 h1
     · exact he (List.mem_singleton.1 h1).symm
 · rintro e ⟨g1, rfl⟩
   rw [List.take_length] at g1
   simp [g1]
def S_clS (pg : Pg) : Prop := ∀ (f s : List (List Int)) (xs : List Int), j2z f s → isSetL f.length xs → clo f s xs → xs.length ≤ 1000 → Call pg 241 [sol f s, ix xs] [sol f s, ix xs] (.tup [B true, I 0])
set_option maxRecDepth 10000 in
theorem t_clS {pg : Pg} (hp : pg.fn 241 = some j3o) (h59 : j6m pg 59) (h357 : S_isSet pg) (h333 : S_closed pg 333) : S_clS pg := by
 intro f s xs hpm hset hclo hl
 have h := PM.of hpm
 have h12 := h.small
 have hin : inN f.length xs := fun v hv => by have := hset.2.1 v hv; omega
 have hfs : fits s := ⟨by have := h.len; omega, fun r hr => by have := (h.ts r hr).1; have := h.len; omega⟩
 refine Call.intro hp rfl (by simp) ?_
 show wp _ _ j3o.body (post [.t 4, .t 5] _ _ _) _
 simp [j3o]
 refine j0e (h59 f s h.fitsF hfs) rfl rfl (fun _ => rfl) ?_
 simp [hpm]
 refine j0e (h357 f.length xs (by omega) (by omega) (by omega)) rfl rfl (fun _ => rfl) ?_
 simp [j0v hset]
 refine j0e (h333 f s xs h hin (by omega)) rfl rfl (fun _ => rfl) ?_
 simp [j0v hclo]
end Go.Mch
namespace Go.Mch

def tabs (Ts : List (List (List Int))) : List T := Ts.map fun X => .mem .own (some 1) (rows X)
def tbs (Ts : List (List (List Int))) : List T := Ts.map tb
@[simp] theorem tabs_length (Ts : List (List (List Int))) : (tabs Ts).length = Ts.length := by simp [tabs]
@[simp] theorem tbs_length (Ts : List (List (List Int))) : (tbs Ts).length = Ts.length := by simp [tbs]
@[simp] theorem eryL_tabs (Ts : List (List (List Int))) : T.eryL .old (tabs Ts) = tbs Ts := by
 induction Ts with
 | nil => rfl
 | cons X Ts ih => simpa [tabs, tbs, tb] using ih
@[simp] theorem eryL_tbs (Ts : List (List (List Int))) : T.eryL .old (tbs Ts) = tbs Ts := by
 induction Ts with
 | nil => rfl
 | cons X Ts ih => simpa [tabs, tbs, tb] using ih
@[simp] theorem lendL_tabs (Ts : List (List (List Int))) : T.j1t (tabs Ts) = tabs Ts := by
 induction Ts with
 | nil => rfl
 | cons X Ts ih => simpa [tabs] using ih
@[simp] theorem noOldL_tabs (Ts : List (List (List Int))) : T.j5t (tabs Ts) = true := by
 induction Ts with
 | nil => rfl
 | cons X Ts ih => simpa [tabs] using ih
@[simp] theorem noOwnL_tbs (Ts : List (List (List Int))) : T.j0l (tbs Ts) = true := by
 induction Ts with
 | nil => rfl
 | cons X Ts ih => simpa [tbs, tb] using ih
@[simp] theorem tabs_getElem (Ts : List (List (List Int))) (j : Nat) (h : j < (tabs Ts).length) : (tabs Ts)[j] = .mem .own (some 1) (rows (Ts[j]'(by simpa using h))) := by simp [tabs]
@[simp] theorem tbs_getElem (Ts : List (List (List Int))) (j : Nat) (h : j < (tbs Ts).length) : (tbs Ts)[j] = tb (Ts[j]'(by simpa using h)) := by simp [tbs]

end Go.Mch
namespace Go.Mch
def flatS (L : List (List (List Int) × List (List Int))) : List (List (List Int)) := L.flatMap fun x => [x.1, x.2]
theorem solsT_tabs (L : List (List (List Int) × List (List Int))) : j7r L = tabs (flatS L) := by
 simp only [j7r, tabs, flatS, List.map_flatMap, List.map_cons, List.map_nil]
theorem flatS_length (L : List (List (List Int) × List (List Int))) : (flatS L).length = L.length * 2 := by
 induction L with
 | nil => rfl
 | cons x L ih => simp only [flatS, List.flatMap_cons, List.length_append, List.length_cons, List.length_nil] at ih ⊢; omega
theorem j5n {f : List (List Int)} {l : List Int} (h : l.length ≤ 1048576) : j4j (subT f l) := ⟨by simpa [subT] using h, fun r hr => by rw [j7e hr]; exact h⟩
inductive Osr (f s : List (List Int)) : Prop
 | nil (h : onReg Go.Mch.nil osV f s = Go.Mch.nil) : Osr f s
 | ls (Ts : List (List (List Int))) (m : Nat) (h : onReg Go.Mch.nil osV f s = .mem .own (some 2) (tabs Ts)) (hl : Ts.length = m * 2) (hm : m ≤ 1024) (hs : ∀ X ∈ Ts, j4j X) : Osr f s
end Go.Mch
namespace Go.Mch
theorem flatS_get (L : List S2) (k : Nat) (h : k < L.length) : (flatS L)[k * 2]? = some L[k].1 ∧ (flatS L)[k * 2 + 1]? = some L[k].2 := by
 induction L generalizing k with
 | nil => simp at h
 | cons x L ih =>
  cases k with
  | zero => simp [flatS]
  | succ k =>
   have := ih k (by simpa using h)
   rw [show (k + 1) * 2 = k * 2 + 1 + 1 by omega]
   simpa [flatS] using this
theorem pl_memO {f s : List (List Int)} {P : Int → Bool} {x : Int} : x ∈ pl (solO f s) P ↔ (0 ≤ x ∧ x < f.length) ∧ P ((solO f s).getD x.toNat 0) = true := by
 unfold pl plK
 simp only [List.mem_map, List.mem_filter, List.mem_range, solO_length]
 constructor
 · rintro ⟨i, ⟨h1, h2⟩, rfl⟩
   exact ⟨by omega, by simpa using h2⟩
 · rintro ⟨h1, h2⟩
   exact ⟨x.toNat, ⟨by omega, h2⟩, by omega⟩
theorem pl_cloO {f s : List (List Int)} (h : PM f s) (hn : j52 f s) (P : Int → Bool) : clo f s (pl (solO f s) P) := by
 have hp := prms_of h hn
 have key : ∀ x y : Int, x ∈ pl (solO f s) P → y ∈ pl (solO f s) P → g2 f x y ∈ pl (solO f s) P ∧ g2 s x y ∈ pl (solO f s) P := fun x y mi mj => by
  have hgf := h.gF x y
  have hgs := h.gS x y
  rw [pl_memO] at mi mj ⊢
  rw [pl_memO]
  obtain ⟨⟨x1, x2⟩, x3⟩ := mi
  obtain ⟨⟨y1, y2⟩, y3⟩ := mj
  have hxl : x.toNat < f.length := by omega
  have hyl : y.toNat < f.length := by omega
  refine ⟨⟨hgf, ?_⟩, ⟨hgs, ?_⟩⟩
  · have hm : f[x.toNat] ∈ f ++ j1b s := List.mem_append.2 (.inl (List.getElem_mem hxl))
    have ha := orbL_act hp hyl hm
    have e1 : act f[x.toNat] (y.toNat : Int) = g2 f x y := by
     have hr : (f[x.toNat]).length = f.length := (h.tf _ (List.getElem_mem hxl)).1
     rw [← get_g2 (t := f) (x := x) (y := y) hxl (by omega), act, Int.toNat_natCast, List.getD_eq_getElem?_getD, List.getElem?_eq_getElem (by omega)]
     rfl
    rw [e1] at ha
    show P ((orbL (f ++ j1b s) f.length).getD _ 0) = true
    rw [ha]; exact y3
  · have hsl : y.toNat < (j1b s).length := by rw [turnL_length, h.len]; exact hyl
    have hm : (j1b s)[y.toNat] ∈ f ++ j1b s := List.mem_append.2 (.inr (List.getElem_mem hsl))
    have ha := orbL_act hp hxl hm
    have e1 : act (j1b s)[y.toNat] (x.toNat : Int) = g2 s x y := by
     have hxs : x.toNat < s.length := by rw [h.len]; exact hxl
     have hr : ((j1b s)[y.toNat]).length = s.length := j7e (List.getElem_mem hsl)
     rw [act, Int.toNat_natCast, List.getD_eq_getElem?_getD, List.getElem?_eq_getElem (by omega)]
     simp [j1b, tabL, g2]
    rw [e1] at ha
    show P ((orbL (f ++ j1b s) f.length).getD _ 0) = true
    rw [ha]; exact x3
 intro i j hi hj
 have mi : (pl (solO f s) P).getD i 0 ∈ pl (solO f s) P := by rw [List.getD_eq_getElem?_getD, List.getElem?_eq_getElem hi]; exact List.getElem_mem hi
 have mj : (pl (solO f s) P).getD j 0 ∈ pl (solO f s) P := by rw [List.getD_eq_getElem?_getD, List.getElem?_eq_getElem hj]; exact List.getElem_mem hj
 exact key _ _ mi mj
theorem plK_sum (xs : List Int) (P : Int → Bool) (k : Nat) (hk : k ≤ xs.length) : (plK xs P k).length + (plK xs (fun x => !P x) k).length = k := by
 induction k with
 | zero => rfl
 | succ k ih =>
  have ih := ih (by omega)
  rw [j6u (P := P) (by omega), j6u (P := fun x => !P x) (by omega)]
  cases P xs[k] <;> simp <;> omega
def S_law118 (pg : Pg) : Prop := ∀ c : Rw Int, okB c → ∃ args', Call pg 118 [rawB c] args' (B true)
set_option maxHeartbeats 2000000 in
set_option maxRecDepth 20000 in
theorem t_law118 {pg : Pg} (hp : pg.fn 118 = some j1o) (h128 : S_big pg) (h238 : S_drS pg 238) (h209 : S_os pg 209) (h208 : S_os pg 208) (h169 : S_orbOf pg 169) (h165 : S_indec pg 165) (h183 : S_dec pg 183) (h181 : S_fixed pg 181) (h219 : S_top5 pg) (h239 : S_subI pg) (h218 : S_likeS pg) (h240 : S_hasInt pg) (h241 : S_clS pg) : S_law118 pg := by
 intro c hc
 obtain ⟨X, ⟨hX1, hX2⟩, hd⟩ := h238 c hc
 obtain ⟨f, s⟩ := X
 have hf : fits f := ⟨by have := hX1.1; simp only at this; omega, fun r hr => by have := hX1.2 r hr; omega⟩
 have hs : fits s := ⟨by have := hX2.1; simp only at this; omega, fun r hr => by have := hX2.2 r hr; omega⟩
 refine ⟨[rawB c], Call.intro hp rfl (by simp) ?_⟩
 show wp _ _ j1o.body (post [.t 2] _ _ _) _
 simp [j1o]
 refine j0e (h128 c) rfl rfl (fun _ => rfl) ?_
 by_cases hbig : (4096 : Int) < (lst c).length
 · simp [hbig]
 · simp [hbig]
   refine j0e hd rfl rfl (fun _ => by simp) ?_
   by_cases h : isReg f s
   · have hpm := PM.of h.1.1
     have h12 := hpm.small
     have h0 := hpm.pos
     have hpr := prms_of hpm h.2
     have hc1 := h209 f s hf hs
     have hc2 := h208 f s hf hs
     obtain ⟨oL, eL, hc3⟩ := h169 f s hf hs
     have hc4 := h165 f s hf hs
     have hc5 := h183 f s hf hs
     obtain ⟨oF, eF, hc6⟩ := h181 f s hf hs
     simp only [j5o h, osV, solsT_tabs] at hc1 hc2 hc3 hc4 hc6 eL eF
     have hll : (solO f s).length = f.length := by simp
     obtain rfl : oL = some (solO f s) := by
      cases oL with
      | none => simp only [lso_none] at eL; rw [← eL] at hll; simp at hll; omega
      | some l => simp only [lso_some] at eL; rw [eL]
     have hgr : ∀ x ∈ solO f s, 0 ≤ x ∧ x ≤ 1048576 := fun x hx => by have := j5i hx; omega
     have hc7 := h219 (solO f s) (by omega) hgr
     have hgm := greatest_max (solO f s) (by simpa using h0) (fun x hx => (j5i hx).1)
     have hG0 : 0 ≤ greatest (solO f s) := greatest_nn _ fun x hx => (j5i hx).1
     have hGl : greatest (solO f s) ≤ f.length := greatest_le _ _ (by omega) fun x hx => (j5i hx).2
     have hpos : 0 < greatest (solO f s) := by
      have hl : 0 < (solO f s).length := by omega
      have := le_greatest (solO f s) (List.getElem_mem hl)
      have := (j5i (List.getElem_mem hl)).1
      omega
     have hsetk : ∀ k : Nat, (k : Int) < greatest (solO f s) → isSetL f.length (osM f s k) ∧ (osM f s k).length ≤ f.length := fun k hk => osM_set (osM_ne hpm h.2 hk)
     have hclk : ∀ k : Nat, clo f s (osM f s k) := fun k => osM_clo hpm h.2 k
     have hlt : ∀ x, x < f.length → (orbL (f ++ j1b s) f.length).getD x 0 < greatest (solO f s) := fun x hx => by
      have hxl : x < (solO f s).length := by simpa using hx
      have := le_greatest (solO f s) (List.getElem_mem hxl)
      have he : (orbL (f ++ j1b s) f.length).getD x 0 = (solO f s)[x] := by
       rw [List.getD_eq_getElem?_getD]
       show ((solO f s)[x]?).getD 0 = _
       rw [List.getElem?_eq_getElem hxl]
       rfl
      omega
     have hall : fxO (f ++ j1b s) f.length (greatest (solO f s)) = fxR f s := fxO_all hlt
     have hLlen : (flatS (osL f s (greatest (solO f s)).toNat)).length = (greatest (solO f s)).toNat * 2 := by rw [flatS_length, osL_length]
     have hLget : ∀ k, k < (greatest (solO f s)).toNat → (flatS (osL f s (greatest (solO f s)).toNat))[k * 2]? = some (subT f (osM f s k)) ∧ (flatS (osL f s (greatest (solO f s)).toNat))[k * 2 + 1]? = some (subT s (osM f s k)) := fun k hk => by
      have := flatS_get (osL f s (greatest (solO f s)).toNat) k (by simpa using hk)
      simpa [osL] using this
     generalize hTs : flatS (osL f s (greatest (solO f s)).toNat) = Ts at *
     obtain ⟨m, hm⟩ : ∃ m : Nat, greatest (solO f s) = m := ⟨(greatest (solO f s)).toNat, by omega⟩
     rw [hm] at hc7 hgm hGl hpos hsetk hlt hall hLlen hLget
     simp only [Int.toNat_natCast] at hLlen hLget
     have hlen : ∀ o, (fxO (f ++ j1b s) f.length o).length ≤ f.length := fun o => by
      rw [fxO, List.length_map]
      exact Nat.le_trans (List.length_filter_le _ _) (by simp)
     have hfx : ∀ k (hk : k < (fxR f s).length), Call pg 240 [ix (fxR f s), I (fxR f s)[k]] [ix (fxR f s), I (fxR f s)[k]] (B true) := fun k hk => by
      have hfl : (fxR f s).length ≤ f.length := by rw [← hall]; exact hlen m
      have := h240 (.of (fxR f s)) (fxR f s)[k] (by simp only [lst_of]; omega)
      simp only [lst_of, List.getElem_mem, decide_true] at this
      exact this
     have hw1 : win (tabs Ts) 0 (m * 2) = tabs Ts := j64 (by simp; omega)
     simp
     refine j0e hc1 rfl rfl (fun _ => by simp) ?_
     simp [hLlen, hw1]
     refine j0e hc2 rfl rfl (fun _ => by simp) ?_
     simp [hLlen, hw1]
     simp only [ownI] at hc3
     refine j0e hc3 rfl rfl (fun _ => by simp) ?_
     simp
     refine j0e hc4 rfl rfl (fun _ => by simp) ?_
     simp
     by_cases hM : maxL (solO f s) = 0
     · have hM1 : m = 1 := by omega
       have hM2 : (m : Int) = 1 := by omega
       have hd : ¬ dcs f s := fun hh => hh.2 hM
       have hA : dcA f s = none := if_neg hd
       have hB : dcB f s = none := if_neg hd
       have hC : dcC f s = 4 := by rw [dcC, if_pos h, if_pos hM]
       rw [hA, hB, hC] at hc5
       simp only [ownI] at hc5
       refine j0e hc5 rfl rfl (fun _ => by simp) ?_
       simp
       cases oF with
       | none =>
        simp only [ownI] at hc6
        refine j0e hc6 rfl rfl (fun _ => by simp) ?_
        simp
        refine j0e hc7 rfl rfl (fun _ => rfl) ?_
        simp [hLlen, hM, hM1]
        refine j0a (fun k e => e = fr [(3, some (.val (.mem .own none [j0w f, j0w s]))), (4, some (.val (.mem .own (some 2) (tabs Ts)))), (6, some (.val (.mem .own (some 2) (tabs Ts)))), (8, some (.val (ownL (solO f s)))), (10, some (.val (B true))), (12, some (.val nil)), (13, some (.val nil)), (14, some (.val (I 4))), (15, some (.val nil)), (17, some (.val (ownL (fxO (f ++ j1b s) f.length k)))), (18, some (.val (I k)))]) m ?_ ?_ 0 _ (by omega) (by simp [fxO_zero]; rfl)
        · rintro k e hk rfl
          have hkm : (k : Int) < m := by omega
          obtain ⟨q1, q2⟩ := hLget k hk
          have hk1 : k * 2 < Ts.length := by omega
          have hk2 : k * 2 + 1 < Ts.length := by omega
          have g1 : Ts[k * 2] = subT f (osM f s k) := by rw [List.getElem?_eq_getElem hk1] at q1; exact Option.some.inj q1
          have g2' : Ts[k * 2 + 1] = subT s (osM f s k) := by rw [List.getElem?_eq_getElem hk2] at q2; exact Option.some.inj q2
          obtain ⟨w1, w2⟩ := hsetk k hkm
          have hsub := h239 f s (osM f s k) h.1.1 w1 (hclk k) (by omega)
          have hlk := h218 (subT f (osM f s k)) (subT s (osM f s k)) (subT f (osM f s k)) (subT s (osM f s k)) (j5n (by omega)) (j5n (by omega))
          simp [hLlen, hkm]
          refine j0a (fun j e => e = fr [(3, some (.val (.mem .own none [j0w f, j0w s]))), (4, some (.val (.mem .own (some 2) (tabs Ts)))), (6, some (.val (.mem .own (some 2) (tabs Ts)))), (8, some (.val (ownL (solO f s)))), (10, some (.val (B true))), (12, some (.val nil)), (13, some (.val nil)), (14, some (.val (I 4))), (15, some (.val nil)), (17, some (.val (ownL (fxO (f ++ j1b s) f.length k)))), (18, some (.val (I k))), (19, some (.val (ownL (plK (solO f s) (fun x => decide (x = (k : Int))) j)))), (20, some (.val (I j)))]) f.length ?_ ?_ 0 _ (by omega) (by simp [plK]; rfl)
          · rintro j e hj rfl
            have hjl : j < (solO f s).length := by omega
            have hsu := j6u (P := fun x => decide (x = (k : Int))) hjl
            have hle := plK_len (solO f s) (fun x => decide (x = (k : Int))) j
            by_cases hv : (solO f s)[j] = (k : Int)
            · rw [if_pos (by simpa using hv)] at hsu
              rw [hsu]
              simp [hj, hv]
              exact ⟨by unfold roomy; omega, by omega, by simp only [ownL, List.map_append, List.map_cons, List.map_nil]⟩
            · rw [if_neg (by simpa using hv)] at hsu
              rw [hsu]
              simp [hj, hv]
              omega
          · rintro e rfl
            have hos : plK (solO f s) (fun x => decide (x = (k : Int))) f.length = osM f s k := by rw [← hll]; rfl
            rw [hos]
            simp [hll]
            refine j0e hsub rfl rfl (fun _ => by simp) ?_
            have hwk : win (tabs Ts) (k * 2) 2 = [j0w (subT f (osM f s k)), j0w (subT s (osM f s k))] := by
             have k1 : k * 2 < (tabs Ts).length := by simpa using hk1
             have k2 : k * 2 + 1 < (tabs Ts).length := by simpa using hk2
             simp only [win]
             rw [List.drop_eq_getElem_cons k1, List.drop_eq_getElem_cons k2]
             simp [g1, g2']
            have hk3 : k * 2 + 1 < m * 2 := by omega
            simp [hLlen, hk, hk3, hwk, g1, g2']
            refine ⟨by omega, ?_⟩
            refine j0e hlk rfl rfl (fun _ => rfl) ?_
            simp [hLlen, hk, hk3, hwk, g1, g2']
            refine ⟨by omega, ?_⟩
            refine j0e hlk rfl rfl (fun _ => rfl) ?_
            simp
            by_cases hx : ∃ x, x < f.length ∧ FxE (f ++ j1b s) x ∧ (orbL (f ++ j1b s) f.length).getD x 0 = (k : Int)
            · obtain ⟨x, hx, hfx, ho⟩ := hx
              obtain ⟨p1, p2⟩ := fxO_one hpr hx hfx ho
              have p2 : osM f s k = [(x : Int)] := p2
              have hlx := hlen k
              rw [p1, p2]
              simp
              exact ⟨by unfold roomy; omega, by omega, by simp only [ownL, List.map_append, List.map_cons, List.map_nil]⟩
            · obtain ⟨p1, p2⟩ := fxO_none hpr hx
              have p2 : (osM f s k).length ≠ 1 := p2
              have p3 : ¬ ((osM f s k).length : Int) = 1 := by omega
              rw [p1]
              simp [p3]
              omega
        · rintro e rfl
          rw [hall]
          have hfl : (fxR f s).length ≤ f.length := by rw [← hall]; exact hlen m
          have hz : fxR f s = [] := by rw [← eF]; rfl
          rw [hz]
          simp [hLlen]
          refine j0a (fun k e => e = fr [(3, some (.val (.mem .own none [j0w f, j0w s]))), (10, some (.val (B true))), (12, some (.val nil)), (13, some (.val nil)), (14, some (.val (I 4))), (15, some (.val nil)), (17, some (.val (ownL []))), (23, some (.val (I 0)))]) 0 ?_ ?_ 0 _ (by omega) rfl
          · intro k e hk; omega
          · rintro e rfl
            simp
       | some lF =>
        simp only [ownI] at hc6
        simp only [lso_some] at eF
        subst eF
        refine j0e hc6 rfl rfl (fun _ => by simp) ?_
        simp
        refine j0e hc7 rfl rfl (fun _ => rfl) ?_
        simp [hLlen, hM, hM1]
        refine j0a (fun k e => e = fr [(3, some (.val (.mem .own none [j0w f, j0w s]))), (4, some (.val (.mem .own (some 2) (tabs Ts)))), (6, some (.val (.mem .own (some 2) (tabs Ts)))), (8, some (.val (ownL (solO f s)))), (10, some (.val (B true))), (12, some (.val nil)), (13, some (.val nil)), (14, some (.val (I 4))), (15, some (.val (ownL (fxR f s)))), (17, some (.val (ownL (fxO (f ++ j1b s) f.length k)))), (18, some (.val (I k)))]) m ?_ ?_ 0 _ (by omega) (by simp [fxO_zero]; rfl)
        · rintro k e hk rfl
          have hkm : (k : Int) < m := by omega
          obtain ⟨q1, q2⟩ := hLget k hk
          have hk1 : k * 2 < Ts.length := by omega
          have hk2 : k * 2 + 1 < Ts.length := by omega
          have g1 : Ts[k * 2] = subT f (osM f s k) := by rw [List.getElem?_eq_getElem hk1] at q1; exact Option.some.inj q1
          have g2' : Ts[k * 2 + 1] = subT s (osM f s k) := by rw [List.getElem?_eq_getElem hk2] at q2; exact Option.some.inj q2
          obtain ⟨w1, w2⟩ := hsetk k hkm
          have hsub := h239 f s (osM f s k) h.1.1 w1 (hclk k) (by omega)
          have hlk := h218 (subT f (osM f s k)) (subT s (osM f s k)) (subT f (osM f s k)) (subT s (osM f s k)) (j5n (by omega)) (j5n (by omega))
          simp [hLlen, hkm]
          refine j0a (fun j e => e = fr [(3, some (.val (.mem .own none [j0w f, j0w s]))), (4, some (.val (.mem .own (some 2) (tabs Ts)))), (6, some (.val (.mem .own (some 2) (tabs Ts)))), (8, some (.val (ownL (solO f s)))), (10, some (.val (B true))), (12, some (.val nil)), (13, some (.val nil)), (14, some (.val (I 4))), (15, some (.val (ownL (fxR f s)))), (17, some (.val (ownL (fxO (f ++ j1b s) f.length k)))), (18, some (.val (I k))), (19, some (.val (ownL (plK (solO f s) (fun x => decide (x = (k : Int))) j)))), (20, some (.val (I j)))]) f.length ?_ ?_ 0 _ (by omega) (by simp [plK]; rfl)
          · rintro j e hj rfl
            have hjl : j < (solO f s).length := by omega
            have hsu := j6u (P := fun x => decide (x = (k : Int))) hjl
            have hle := plK_len (solO f s) (fun x => decide (x = (k : Int))) j
            by_cases hv : (solO f s)[j] = (k : Int)
            · rw [if_pos (by simpa using hv)] at hsu
              rw [hsu]
              simp [hj, hv]
              exact ⟨by unfold roomy; omega, by omega, by simp only [ownL, List.map_append, List.map_cons, List.map_nil]⟩
            · rw [if_neg (by simpa using hv)] at hsu
              rw [hsu]
              simp [hj, hv]
              omega
          · rintro e rfl
            have hos : plK (solO f s) (fun x => decide (x = (k : Int))) f.length = osM f s k := by rw [← hll]; rfl
            rw [hos]
            simp [hll]
            refine j0e hsub rfl rfl (fun _ => by simp) ?_
            have hwk : win (tabs Ts) (k * 2) 2 = [j0w (subT f (osM f s k)), j0w (subT s (osM f s k))] := by
             have k1 : k * 2 < (tabs Ts).length := by simpa using hk1
             have k2 : k * 2 + 1 < (tabs Ts).length := by simpa using hk2
             simp only [win]
             rw [List.drop_eq_getElem_cons k1, List.drop_eq_getElem_cons k2]
             simp [g1, g2']
            have hk3 : k * 2 + 1 < m * 2 := by omega
            simp [hLlen, hk, hk3, hwk, g1, g2']
            refine ⟨by omega, ?_⟩
            refine j0e hlk rfl rfl (fun _ => rfl) ?_
            simp [hLlen, hk, hk3, hwk, g1, g2']
            refine ⟨by omega, ?_⟩
            refine j0e hlk rfl rfl (fun _ => rfl) ?_
            simp
            by_cases hx : ∃ x, x < f.length ∧ FxE (f ++ j1b s) x ∧ (orbL (f ++ j1b s) f.length).getD x 0 = (k : Int)
            · obtain ⟨x, hx, hfx, ho⟩ := hx
              obtain ⟨p1, p2⟩ := fxO_one hpr hx hfx ho
              have p2 : osM f s k = [(x : Int)] := p2
              have hlx := hlen k
              rw [p1, p2]
              simp
              exact ⟨by unfold roomy; omega, by omega, by simp only [ownL, List.map_append, List.map_cons, List.map_nil]⟩
            · obtain ⟨p1, p2⟩ := fxO_none hpr hx
              have p2 : (osM f s k).length ≠ 1 := p2
              have p3 : ¬ ((osM f s k).length : Int) = 1 := by omega
              rw [p1]
              simp [p3]
              omega
        · rintro e rfl
          rw [hall]
          have hfl : (fxR f s).length ≤ f.length := by rw [← hall]; exact hlen m
          simp [hLlen]
          refine j0a (fun k e => e = fr [(3, some (.val (.mem .own none [j0w f, j0w s]))), (10, some (.val (B true))), (12, some (.val nil)), (13, some (.val nil)), (14, some (.val (I 4))), (15, some (.val (ownL (fxR f s)))), (17, some (.val (ownL (fxR f s)))), (23, some (.val (I k)))]) (fxR f s).length ?_ ?_ 0 _ (by omega) rfl
          · rintro k e hk rfl
            have hc8 := hfx k hk
            simp [hk]
            refine j0e hc8 rfl rfl (fun _ => rfl) ?_
            simp
            omega
          · rintro e rfl
            simp
     · have hM1 : ¬ m = 1 := by omega
       have hM2 : ¬ (m : Int) = 1 := by omega
       have hd : dcs f s := ⟨h, hM⟩
       have hA : dcA f s = some (pl (solO f s) fun x => decide (x = 0)) := if_pos hd
       have hB : dcB f s = some (pl (solO f s) fun x => !decide (x = 0)) := if_pos hd
       have hC : dcC f s = 0 := by rw [dcC, if_pos h, if_neg hM]
       have hm2 : 2 ≤ m := by omega
       have hs1 : isSetL f.length (pl (solO f s) fun x => decide (x = 0)) := (hsetk 0 (by omega)).1
       have hl1 : (pl (solO f s) fun x => decide (x = 0)).length ≤ f.length := (hsetk 0 (by omega)).2
       have hs2 : isSetL f.length (pl (solO f s) fun x => !decide (x = 0)) := by
        refine ⟨?_, fun v hv => ?_, plK_asc _ _ _⟩
        · have hne := (hsetk 1 (by omega)).1.1
          obtain ⟨x, hx⟩ : ∃ x, x ∈ osM f s ((1 : Nat) : Int) := ⟨_, List.getElem_mem hne⟩
          have hx2 := osM_mem.1 hx
          have hx3 : x ∈ pl (solO f s) fun x => !decide (x = 0) := pl_memO.2 ⟨hx2.1, by rw [hx2.2]; decide⟩
          exact List.length_pos_of_mem hx3
        · have := (pl_memO.1 hv).1
          omega
       have hl2 : (pl (solO f s) fun x => !decide (x = 0)).length ≤ f.length := by
        have := plK_len (solO f s) (fun x => !decide (x = 0)) (solO f s).length
        exact Nat.le_trans this (by omega)
       have hsum : ((pl (solO f s) fun x => decide (x = 0)).length : Int) + ((pl (solO f s) fun x => !decide (x = 0)).length : Int) = f.length := by
        have := plK_sum (solO f s) (fun x => decide (x = 0)) (solO f s).length (Nat.le_refl _)
        change (pl (solO f s) fun x => decide (x = 0)).length + (pl (solO f s) fun x => !decide (x = 0)).length = (solO f s).length at this
        omega
       have hcl1 := h241 f s _ h.1.1 hs1 (pl_cloO hpm h.2 _) (by omega)
       have hcl2 := h241 f s _ h.1.1 hs2 (pl_cloO hpm h.2 _) (by omega)
       have hdj : ∀ k (hk : k < (pl (solO f s) fun x => decide (x = 0)).length), Call pg 240 [ix (pl (solO f s) fun x => !decide (x = 0)), I (pl (solO f s) fun x => decide (x = 0))[k]] [ix (pl (solO f s) fun x => !decide (x = 0)), I (pl (solO f s) fun x => decide (x = 0))[k]] (B false) := fun k hk => by
        have hmm := pl_memO.1 (List.getElem_mem hk)
        have hno : (pl (solO f s) fun x => decide (x = 0))[k] ∉ pl (solO f s) fun x => !decide (x = 0) := fun hh => by
         have h2 := (pl_memO.1 hh).2
         have h1 := hmm.2
         simp only [decide_eq_true_eq] at h1
         rw [h1] at h2
         simp at h2
        have := h240 (.of (pl (solO f s) fun x => !decide (x = 0))) (pl (solO f s) fun x => decide (x = 0))[k] (by simp only [lst_of]; omega)
        simp only [lst_of, hno, decide_false] at this
        exact this
       rw [hA, hB, hC] at hc5
       simp only [ownI] at hc5
       generalize (pl (solO f s) fun x => decide (x = 0)) = P1 at *
       generalize (pl (solO f s) fun x => !decide (x = 0)) = P2 at *
       refine j0e hc5 rfl rfl (fun _ => by simp) ?_
       simp
       cases oF with
       | none =>
        simp only [ownI] at hc6
        refine j0e hc6 rfl rfl (fun _ => by simp) ?_
        simp
        refine j0e hc7 rfl rfl (fun _ => rfl) ?_
        simp [hLlen, hM, hM2]
        refine j0a (fun k e => e = fr [(3, some (.val (.mem .own none [j0w f, j0w s]))), (4, some (.val (.mem .own (some 2) (tabs Ts)))), (6, some (.val (.mem .own (some 2) (tabs Ts)))), (8, some (.val (ownL (solO f s)))), (10, some (.val (B false))), (12, some (.val (ownL P1))), (13, some (.val (ownL P2))), (14, some (.val (I 0))), (15, some (.val nil)), (17, some (.val (ownL (fxO (f ++ j1b s) f.length k)))), (18, some (.val (I k)))]) m ?_ ?_ 0 _ (by omega) (by simp [fxO_zero]; rfl)
        · rintro k e hk rfl
          have hkm : (k : Int) < m := by omega
          obtain ⟨q1, q2⟩ := hLget k hk
          have hk1 : k * 2 < Ts.length := by omega
          have hk2 : k * 2 + 1 < Ts.length := by omega
          have g1 : Ts[k * 2] = subT f (osM f s k) := by rw [List.getElem?_eq_getElem hk1] at q1; exact Option.some.inj q1
          have g2' : Ts[k * 2 + 1] = subT s (osM f s k) := by rw [List.getElem?_eq_getElem hk2] at q2; exact Option.some.inj q2
          obtain ⟨w1, w2⟩ := hsetk k hkm
          have hsub := h239 f s (osM f s k) h.1.1 w1 (hclk k) (by omega)
          have hlk := h218 (subT f (osM f s k)) (subT s (osM f s k)) (subT f (osM f s k)) (subT s (osM f s k)) (j5n (by omega)) (j5n (by omega))
          simp [hLlen, hkm]
          refine j0a (fun j e => e = fr [(3, some (.val (.mem .own none [j0w f, j0w s]))), (4, some (.val (.mem .own (some 2) (tabs Ts)))), (6, some (.val (.mem .own (some 2) (tabs Ts)))), (8, some (.val (ownL (solO f s)))), (10, some (.val (B false))), (12, some (.val (ownL P1))), (13, some (.val (ownL P2))), (14, some (.val (I 0))), (15, some (.val nil)), (17, some (.val (ownL (fxO (f ++ j1b s) f.length k)))), (18, some (.val (I k))), (19, some (.val (ownL (plK (solO f s) (fun x => decide (x = (k : Int))) j)))), (20, some (.val (I j)))]) f.length ?_ ?_ 0 _ (by omega) (by simp [plK]; rfl)
          · rintro j e hj rfl
            have hjl : j < (solO f s).length := by omega
            have hsu := j6u (P := fun x => decide (x = (k : Int))) hjl
            have hle := plK_len (solO f s) (fun x => decide (x = (k : Int))) j
            by_cases hv : (solO f s)[j] = (k : Int)
            · rw [if_pos (by simpa using hv)] at hsu
              rw [hsu]
              simp [hj, hv]
              exact ⟨by unfold roomy; omega, by omega, by simp only [ownL, List.map_append, List.map_cons, List.map_nil]⟩
            · rw [if_neg (by simpa using hv)] at hsu
              rw [hsu]
              simp [hj, hv]
              omega
          · rintro e rfl
            have hos : plK (solO f s) (fun x => decide (x = (k : Int))) f.length = osM f s k := by rw [← hll]; rfl
            rw [hos]
            simp [hll]
            refine j0e hsub rfl rfl (fun _ => by simp) ?_
            have hwk : win (tabs Ts) (k * 2) 2 = [j0w (subT f (osM f s k)), j0w (subT s (osM f s k))] := by
             have k1 : k * 2 < (tabs Ts).length := by simpa using hk1
             have k2 : k * 2 + 1 < (tabs Ts).length := by simpa using hk2
             simp only [win]
             rw [List.drop_eq_getElem_cons k1, List.drop_eq_getElem_cons k2]
             simp [g1, g2']
            have hk3 : k * 2 + 1 < m * 2 := by omega
            simp [hLlen, hk, hk3, hwk, g1, g2']
            refine ⟨by omega, ?_⟩
            refine j0e hlk rfl rfl (fun _ => rfl) ?_
            simp [hLlen, hk, hk3, hwk, g1, g2']
            refine ⟨by omega, ?_⟩
            refine j0e hlk rfl rfl (fun _ => rfl) ?_
            simp
            by_cases hx : ∃ x, x < f.length ∧ FxE (f ++ j1b s) x ∧ (orbL (f ++ j1b s) f.length).getD x 0 = (k : Int)
            · obtain ⟨x, hx, hfx, ho⟩ := hx
              obtain ⟨p1, p2⟩ := fxO_one hpr hx hfx ho
              have p2 : osM f s k = [(x : Int)] := p2
              have hlx := hlen k
              rw [p1, p2]
              simp
              exact ⟨by unfold roomy; omega, by omega, by simp only [ownL, List.map_append, List.map_cons, List.map_nil]⟩
            · obtain ⟨p1, p2⟩ := fxO_none hpr hx
              have p2 : (osM f s k).length ≠ 1 := p2
              have p3 : ¬ ((osM f s k).length : Int) = 1 := by omega
              rw [p1]
              simp [p3]
              omega
        · rintro e rfl
          rw [hall]
          have hfl : (fxR f s).length ≤ f.length := by rw [← hall]; exact hlen m
          have hz : fxR f s = [] := by rw [← eF]; rfl
          rw [hz]
          simp [hLlen]
          refine j0a (fun k e => e = fr [(3, some (.val (.mem .own none [j0w f, j0w s]))), (10, some (.val (B false))), (12, some (.val (ownL P1))), (13, some (.val (ownL P2))), (14, some (.val (I 0))), (15, some (.val nil)), (17, some (.val (ownL []))), (23, some (.val (I 0)))]) 0 ?_ ?_ 0 _ (by omega) rfl
          · intro k e hk; omega
          · rintro e rfl
            simp
            refine j0e hcl1 rfl rfl (fun _ => rfl) ?_
            simp
            refine j0e hcl2 rfl rfl (fun _ => rfl) ?_
            simp [hsum]
            refine ⟨by omega, ?_⟩
            refine j0a (fun k e => e = fr [(12, some (.val (ownL P1))), (13, some (.val (ownL P2))), (28, some (.val (I k)))]) P1.length ?_ ?_ 0 _ (by omega) rfl
            · rintro k e hk rfl
              have hc9 := hdj k hk
              simp [hk]
              refine j0e hc9 rfl rfl (fun _ => rfl) ?_
              simp
              omega
            · rintro e rfl
              simp
       | some lF =>
        simp only [ownI] at hc6
        simp only [lso_some] at eF
        subst eF
        refine j0e hc6 rfl rfl (fun _ => by simp) ?_
        simp
        refine j0e hc7 rfl rfl (fun _ => rfl) ?_
        simp [hLlen, hM, hM2]
        refine j0a (fun k e => e = fr [(3, some (.val (.mem .own none [j0w f, j0w s]))), (4, some (.val (.mem .own (some 2) (tabs Ts)))), (6, some (.val (.mem .own (some 2) (tabs Ts)))), (8, some (.val (ownL (solO f s)))), (10, some (.val (B false))), (12, some (.val (ownL P1))), (13, some (.val (ownL P2))), (14, some (.val (I 0))), (15, some (.val (ownL (fxR f s)))), (17, some (.val (ownL (fxO (f ++ j1b s) f.length k)))), (18, some (.val (I k)))]) m ?_ ?_ 0 _ (by omega) (by simp [fxO_zero]; rfl)
        · rintro k e hk rfl
          have hkm : (k : Int) < m := by omega
          obtain ⟨q1, q2⟩ := hLget k hk
          have hk1 : k * 2 < Ts.length := by omega
          have hk2 : k * 2 + 1 < Ts.length := by omega
          have g1 : Ts[k * 2] = subT f (osM f s k) := by rw [List.getElem?_eq_getElem hk1] at q1; exact Option.some.inj q1
          have g2' : Ts[k * 2 + 1] = subT s (osM f s k) := by rw [List.getElem?_eq_getElem hk2] at q2; exact Option.some.inj q2
          obtain ⟨w1, w2⟩ := hsetk k hkm
          have hsub := h239 f s (osM f s k) h.1.1 w1 (hclk k) (by omega)
          have hlk := h218 (subT f (osM f s k)) (subT s (osM f s k)) (subT f (osM f s k)) (subT s (osM f s k)) (j5n (by omega)) (j5n (by omega))
          simp [hLlen, hkm]
          refine j0a (fun j e => e = fr [(3, some (.val (.mem .own none [j0w f, j0w s]))), (4, some (.val (.mem .own (some 2) (tabs Ts)))), (6, some (.val (.mem .own (some 2) (tabs Ts)))), (8, some (.val (ownL (solO f s)))), (10, some (.val (B false))), (12, some (.val (ownL P1))), (13, some (.val (ownL P2))), (14, some (.val (I 0))), (15, some (.val (ownL (fxR f s)))), (17, some (.val (ownL (fxO (f ++ j1b s) f.length k)))), (18, some (.val (I k))), (19, some (.val (ownL (plK (solO f s) (fun x => decide (x = (k : Int))) j)))), (20, some (.val (I j)))]) f.length ?_ ?_ 0 _ (by omega) (by simp [plK]; rfl)
          · rintro j e hj rfl
            have hjl : j < (solO f s).length := by omega
            have hsu := j6u (P := fun x => decide (x = (k : Int))) hjl
            have hle := plK_len (solO f s) (fun x => decide (x = (k : Int))) j
            by_cases hv : (solO f s)[j] = (k : Int)
            · rw [if_pos (by simpa using hv)] at hsu
              rw [hsu]
              simp [hj, hv]
              exact ⟨by unfold roomy; omega, by omega, by simp only [ownL, List.map_append, List.map_cons, List.map_nil]⟩
            · rw [if_neg (by simpa using hv)] at hsu
              rw [hsu]
              simp [hj, hv]
              omega
          · rintro e rfl
            have hos : plK (solO f s) (fun x => decide (x = (k : Int))) f.length = osM f s k := by rw [← hll]; rfl
            rw [hos]
            simp [hll]
            refine j0e hsub rfl rfl (fun _ => by simp) ?_
            have hwk : win (tabs Ts) (k * 2) 2 = [j0w (subT f (osM f s k)), j0w (subT s (osM f s k))] := by
             have k1 : k * 2 < (tabs Ts).length := by simpa using hk1
             have k2 : k * 2 + 1 < (tabs Ts).length := by simpa using hk2
             simp only [win]
             rw [List.drop_eq_getElem_cons k1, List.drop_eq_getElem_cons k2]
             simp [g1, g2']
            have hk3 : k * 2 + 1 < m * 2 := by omega
            simp [hLlen, hk, hk3, hwk, g1, g2']
            refine ⟨by omega, ?_⟩
            refine j0e hlk rfl rfl (fun _ => rfl) ?_
            simp [hLlen, hk, hk3, hwk, g1, g2']
            refine ⟨by omega, ?_⟩
            refine j0e hlk rfl rfl (fun _ => rfl) ?_
            simp
            by_cases hx : ∃ x, x < f.length ∧ FxE (f ++ j1b s) x ∧ (orbL (f ++ j1b s) f.length).getD x 0 = (k : Int)
            · obtain ⟨x, hx, hfx, ho⟩ := hx
              obtain ⟨p1, p2⟩ := fxO_one hpr hx hfx ho
              have p2 : osM f s k = [(x : Int)] := p2
              have hlx := hlen k
              rw [p1, p2]
              simp
              exact ⟨by unfold roomy; omega, by omega, by simp only [ownL, List.map_append, List.map_cons, List.map_nil]⟩
            · obtain ⟨p1, p2⟩ := fxO_none hpr hx
              have p2 : (osM f s k).length ≠ 1 := p2
              have p3 : ¬ ((osM f s k).length : Int) = 1 := by omega
              rw [p1]
              simp [p3]
              omega
        · rintro e rfl
          rw [hall]
          have hfl : (fxR f s).length ≤ f.length := by rw [← hall]; exact hlen m
          simp [hLlen]
          refine j0a (fun k e => e = fr [(3, some (.val (.mem .own none [j0w f, j0w s]))), (10, some (.val (B false))), (12, some (.val (ownL P1))), (13, some (.val (ownL P2))), (14, some (.val (I 0))), (15, some (.val (ownL (fxR f s)))), (17, some (.val (ownL (fxR f s)))), (23, some (.val (I k)))]) (fxR f s).length ?_ ?_ 0 _ (by omega) rfl
          · rintro k e hk rfl
            have hc8 := hfx k hk
            simp [hk]
            refine j0e hc8 rfl rfl (fun _ => rfl) ?_
            simp
            omega
          · rintro e rfl
            simp
            refine j0e hcl1 rfl rfl (fun _ => rfl) ?_
            simp
            refine j0e hcl2 rfl rfl (fun _ => rfl) ?_
            simp [hsum]
            refine ⟨by omega, ?_⟩
            refine j0a (fun k e => e = fr [(12, some (.val (ownL P1))), (13, some (.val (ownL P2))), (28, some (.val (I k)))]) P1.length ?_ ?_ 0 _ (by omega) rfl
            · rintro k e hk rfl
              have hc9 := hdj k hk
              simp [hk]
              refine j0e hc9 rfl rfl (fun _ => rfl) ?_
              simp
              omega
            · rintro e rfl
              simp
   · have hc1 := h209 f s hf hs
     have hc2 := h208 f s hf hs
     rw [j5m h, j5m h] at hc1 hc2
     simp
     refine j0e hc1 rfl rfl (fun _ => by simp) ?_
     simp
     refine j0e hc2 rfl rfl (fun _ => by simp) ?_
     simp
end Go.Mch
