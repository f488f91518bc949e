/- Our texts YgP YjM YjO YjP YjQ YjD YjE YjU YjF YjG YjW YjX YkA YkB YkE YkF YkM YlB YjA YlC YlD YlE YlF YlG YlH YlI YgX YlK YlM YlN YlO YlP YlQ, end to end. -/
import Derived.Test.YtpaklggigidikaaGreatP1
import Derived.Test.YtpaklggigidikaaGreatYeD
namespace Go.Mch

def q56 (pg : Pg) : Prop := ∀ n : Nat, n ≤ 1048576 → Call pg 334 [I n] [I n] (.mem .own (some 1) ((idL n).map I))
theorem v4f {pg : Pg} (hp : pg.fn 334 = some j5f) : q56 pg := by
 intro n hn
 refine Call.intro hp rfl (by simp) ?_
 show wp _ _ j5f.body (post [.t 2] _ _ _) _
 simp [j5f]
 refine j0a (fun k e => e = fr [(0, some (.val (I n))), (3, some (.val (.mem .own (some 1) ((idL k).map I)))), (4, some (.val (I k)))]) n ?_ ?_ 0 _ (by omega) ?_
 · rintro k e hk rfl
   simp [hk, roomy, z3y]
   omega
 · rintro e rfl
   simp
 · simp [idL]

theorem z1k (n : Nat) : ∀ f s : List (List Int), Rg f s → ∀ i (h : i < (serL n f s).length), Rg (serL n f s)[i].1 (serL n f s)[i].2 := by
 induction n with
 | zero => intro f s _ i h; simp [serL] at h
 | succ n ih =>
  intro f s hr i h
  cases i with
  | zero => simpa [serL] using hr
  | succ i =>
   by_cases hc : clM f s = f.length
   · simp [serL, hc] at h
   · have := ih _ _ (q90 hr) i (by simpa [serL, hc] using h)
     simpa [serL, hc] using this
theorem q9m {n : Nat} {f s : List (List Int)} (h : 0 < (serL n f s).length) : (serL n f s)[0] = (f, s) := by
 cases n with
 | zero => simp [serL] at h
 | succ n => simp [serL]
theorem w23 (n : Nat) : ∀ (f s : List (List Int)) (i : Nat) (h : i + 1 < (serL n f s).length), (serL n f s)[i + 1].1.length = clM (serL n f s)[i].1 (serL n f s)[i].2 := by
 induction n with
 | zero => intro f s i h; simp [serL] at h
 | succ n ih =>
  intro f s i h
  by_cases hc : clM f s = f.length
  · simp [serL, hc] at h
  · have hl : i < (serL n (retF f s) (retS f s)).length := by simpa [serL, hc] using h
    cases i with
    | zero =>
     have := q9m hl
     simp [serL, hc, this]
    | succ i =>
     have := ih (retF f s) (retS f s) i hl
     simpa [serL, hc] using this
def slL (f s : List (List Int)) : Nat → List Int
 | 0 => idL f.length
 | k + 1 => j31 (slL f s k) (classes ((serL f.length f s).getD k ([], [])).1 ((serL f.length f s).getD k ([], [])).2)
@[simp] theorem q2k (f s : List (List Int)) (k : Nat) : (slL f s k).length = f.length := by
 induction k with
 | zero => simp [slL]
 | succ k ih => simp [slL, ih]
theorem q33 {f s : List (List Int)} {k : Nat} (h : k < (serL f.length f s).length) : slL f s (k + 1) = j31 (slL f s k) (classes (serL f.length f s)[k].1 (serL f.length f s)[k].2) := by
 rw [slL, List.getD_eq_getElem?_getD, List.getElem?_eq_getElem h]
 rfl
theorem w49 {f s : List (List Int)} (hr : Rg f s) (k : Nat) (h : k < (serL f.length f s).length) : inN (serL f.length f s)[k].1.length (slL f s k) := by
 induction k with
 | zero =>
  rw [q9m h]
  intro x hx
  simp only [slL, idL, List.mem_map, List.mem_range] at hx
  obtain ⟨i, hi, rfl⟩ := hx
  show 0 ≤ (i : Int) ∧ (i : Int) < f.length
  omega
 | succ k ih =>
  have ihk := ih (by omega)
  have hrk := z1k f.length f s hr k (by omega)
  rw [w23 f.length f s k h, q33 (by omega)]
  intro x hx
  simp only [j31, List.mem_map] at hx
  obtain ⟨y, hy, rfl⟩ := hx
  have hyr := ihk y hy
  generalize (serL f.length f s)[k] = z at *
  have hci := (j83 (s := z.2) (x := y.toNat) (by omega : y.toNat < z.1.length)).1
  have hcm := (q1i hrk.1).cm y.toNat (by omega)
  omega
noncomputable def slR (f s : List (List Int)) (k : Int) : List Int := q48 [] (fun f s => if 0 ≤ k ∧ k ≤ ((serL f.length f s).length : Int) - 1 then slL f s k.toNat else []) f s
noncomputable def slC (f s : List (List Int)) (k : Int) : Int := q48 1 (fun f s => if 0 ≤ k ∧ k ≤ ((serL f.length f s).length : Int) - 1 then 0 else 4) f s
def S_sl (pg : Pg) (n : Nat) : Prop := ∀ (f s : List (List Int)) (k : Int), fits f → fits s → ∃ o, lso o = slR f s k ∧ Call pg n [sol f s, I k] [sol f s, I k] (.tup [ownI o, I (slC f s k)])
theorem w83 (L : List (List (List Int) × List (List Int))) {i : Nat} (h : i < L.length) : win (frL L) (i * 2) 2 = [frT L[i].1, frT L[i].2] := by
 induction L generalizing i with
 | nil => simp at h
 | cons y L ih =>
  cases i with
  | zero => simp [win]
  | succ i =>
   have := ih (i := i) (by simpa using h)
   rw [win, show (i + 1) * 2 = i * 2 + 2 from by omega]
   rw [win] at this
   simpa using this
def mixL (a b : List Int) (k : Nat) : List Int := a.take k ++ b.drop k
theorem z1y (a b : List Int) (k : Nat) (h : a.length = b.length) : (mixL a b k).length = b.length := by simp [mixL]; omega
theorem w3w (a b : List Int) {k : Nat} (hk : k < b.length) (h : a.length = b.length) : (mixL a b k)[k]? = some b[k] := by
 have hl : (a.take k).length = k := by simp; omega
 rw [mixL, List.getElem?_append_right (by omega), hl, Nat.sub_self]
 simp [hk]
theorem w3v (a b : List Int) {k : Nat} (hk : k < b.length) (h : a.length = b.length) : (mixL a b k).set k (a[k]'(by omega)) = mixL a b (k + 1) := by
 have hl : (a.take k).length = k := by simp; omega
 have ha : k < a.length := by omega
 rw [mixL, mixL, List.drop_eq_getElem_cons hk, List.set_append_right _ _ (by omega), hl, Nat.sub_self, List.set_cons_zero, List.take_succ_eq_append_getElem ha, List.append_assoc]
 rfl
theorem w0e (a b : List Int) (h : a.length = b.length) : mixL a b b.length = a := by simp [mixL, ← h]
set_option maxRecDepth 10000 in
theorem z7x {pg : Pg} (hp : pg.fn 201 = some j04) (h264 : q57 pg 264) (h319 : w15 pg) (h30 : S_in pg 30) (h334 : q56 pg) (h289 : j5s pg 289) : S_sl pg 201 := by
 intro f s k hf hs
 by_cases h : j5c f s
 · have hpm := PM.of h.1.1
   have h12 := hpm.small
   have h0 := hpm.pos
   have hrg := rg_of h
   have hsl := q34 f.length f s
   have hfl := q2y (serL f.length f s)
   have hin := w49 hrg
   have hsu := fun {k : Nat} h => q33 (f := f) (s := s) (k := k) h
   have hrs := z1k f.length f s hrg
   have hser := h319 f s hrg
   have hwn := fun {i : Nat} hi => w83 (serL f.length f s) (i := i) hi
   by_cases hk : 0 ≤ k ∧ k ≤ ((serL f.length f s).length : Int) - 1
   · refine ⟨some (slL f s k.toNat), by simp [slR, j1a h, hk], Call.intro hp rfl (by simp) ?_⟩
     show wp _ _ j04.body (post [.t 4, .t 5] _ _ _) _
     simp [j04]
     refine j0e (h264 f s hf hs) rfl rfl (fun _ => rfl) ?_
     simp [j03 h, slC, j1a h, hk]
     refine j0e hser rfl rfl (fun hh => by simp at hh) ?_
     generalize serL f.length f s = L at *
     generalize frL L = M at *
     have hm2 : M.length / 2 = L.length := by omega
     have hw2 : win M 0 (L.length * 2) = M := by unfold win; exact List.take_of_length_le (by simp; omega)
     have hL0 : 0 < L.length := by omega
     simp [hm2, hw2]
     refine ⟨by omega, by omega, ?_⟩
     refine j0e (h30 k 0 ((L.length : Int) - 1)) rfl rfl (fun _ => rfl) ?_
     simp [hk]
     refine j0e (h334 f.length (by omega)) rfl rfl (fun _ => by simp) ?_
     simp
     refine j0a (fun i e => e = fr [(1, some (.val (I k))), (6, some (.val (.mem .own (some 2) M))), (7, some (.val (.mem .own (some 1) ((slL f s i).map I)))), (8, some (.val (I i)))]) k.toNat ?_ ?_ 0 _ (by omega) ?_
     · rintro i e hi rfl
       have hiL : i < L.length := by omega
       have hik : (i : Int) < k := by omega
       have hw := hwn hiL
       have hrgi := hrs i hiL
       have hini := hin i hiL
       have hlen := q2k f s i
       rw [hsu hiL]

       have hcl := j4f L[i].1 L[i].2
       generalize slL f s i = X at *
       simp [hik, hw, hm2]
       refine ⟨by omega, by omega, ?_⟩
       refine j0e (h289 _ _ hrgi.1) rfl rfl (fun _ => by simp) ?_
       generalize classes L[i].1 L[i].2 = C at *
       simp
       refine j0a (fun j e => e = fr [(1, some (.val (I k))), (6, some (.val (.mem .own (some 2) M))), (7, some (.val (.mem .own (some 1) ((mixL (j31 X C) X j).map I)))), (8, some (.val (I i))), (9, some (.val (.mem .own (some 1) (C.map I)))), (10, some (.val (I j)))]) X.length ?_ ?_ 0 _ (by omega) ?_
       · rintro j e hj rfl
         have h1 := hini _ (List.getElem_mem hj)
         have h2 : (X[j]).toNat < C.length := by omega
         have g1 := z1y (j31 X C) X j (by simp)
         have g2 := w3w (j31 X C) X hj (by simp)
         have g3 := w3v (j31 X C) X hj (by simp)
         have g4 : (j31 X C)[j]'(by simpa using hj) = C[(X[j]).toNat] := by simp [j31, h2]
         rw [← g3, g4]
         generalize mixL (j31 X C) X j = Y at *
         have hjY : j < Y.length := by omega
         have g5 : Y[j] = X[j] := by rw [List.getElem?_eq_getElem hjY] at g2; exact Option.some.inj g2
         simp [g1, hj, g5, h1, h2]
         omega
       · rintro e rfl
         have g1 := w0e (j31 X C) X (by simp)
         simp [g1]
         omega
       · simp [mixL]
     · rintro e rfl
       have hik : max k 0 = k := by omega
       simp [hik, ownI]
     · simp [slL]
   · refine ⟨none, by simp [slR, j1a h, hk], Call.intro hp rfl (by simp) ?_⟩
     show wp _ _ j04.body (post [.t 4, .t 5] _ _ _) _
     simp [j04]
     refine j0e (h264 f s hf hs) rfl rfl (fun _ => rfl) ?_
     simp [j03 h, slC, j1a h, hk]
     refine j0e hser rfl rfl (fun hh => by simp at hh) ?_
     generalize serL f.length f s = L at *
     generalize frL L = M at *
     have hm2 : M.length / 2 = L.length := by omega
     have hw2 : win M 0 (L.length * 2) = M := by unfold win; exact List.take_of_length_le (by simp; omega)
     simp [hm2, hw2]
     refine ⟨by omega, by omega, ?_⟩
     refine j0e (h30 k 0 ((L.length : Int) - 1)) rfl rfl (fun _ => rfl) ?_
     simp [hk, ownI]
 · refine ⟨none, by simp [slR, j2i h], Call.intro hp rfl (by simp) ?_⟩
   show wp _ _ j04.body (post [.t 4, .t 5] _ _ _) _
   simp [j04]
   refine j0e (h264 f s hf hs) rfl rfl (fun _ => rfl) ?_
   simp [j0v h, slC, j2i h, ownI]
set_option maxRecDepth 10000 in
theorem z7y {pg : Pg} (hp : pg.fn 202 = some j05) (h266 : q57 pg 266) (h310 : z4x pg) (h35 : S_in pg 35) (h335 : q0h pg) (h277 : q7l pg 277) (h291 : j5s pg 291) : S_sl pg 202 := by
 intro f s k hf hs
 by_cases h : j5c f s
 · have hpm := PM.of h.1.1
   have h12 := hpm.small
   have h0 := hpm.pos
   have hrg := rg_of h
   have hsl := q34 f.length f s
   have hfl := q0m (serL f.length f s)
   have hin := w49 hrg
   have hsu := fun {k : Nat} h => q33 (f := f) (s := s) (k := k) h
   have hrs := z1k f.length f s hrg
   have hser := h310 f s hrg
   have hwn := fun {i : Nat} hi => z2y (serL f.length f s) (i := i) hi
   by_cases hk : 0 ≤ k ∧ k ≤ ((serL f.length f s).length : Int) - 1
   · refine ⟨some (slL f s k.toNat), by simp [slR, j1a h, hk], Call.intro hp rfl (by simp) ?_⟩
     show wp _ _ j05.body (post [.t 4, .t 5] _ _ _) _
     simp [j05]
     refine j0e (h266 f s hf hs) rfl rfl (fun _ => rfl) ?_
     simp [j03 h, slC, j1a h, hk]
     refine j0e hser rfl rfl (fun hh => by simp at hh) ?_
     generalize serL f.length f s = L at *
     generalize serT L = M at *
     have hm2 : M.length / 2 = L.length := by omega
     have hw2 : win M 0 (L.length * 2) = M := by unfold win; exact List.take_of_length_le (by simp; omega)
     have hL0 : 0 < L.length := by omega
     simp [hm2, hw2]
     refine ⟨by omega, by omega, ?_⟩
     refine j0e (h35 k 0 ((L.length : Int) - 1)) rfl rfl (fun _ => rfl) ?_
     simp [hk]
     refine j0e (h335 f.length (by omega)) rfl rfl (fun _ => by simp) ?_
     simp [hm2]
     refine ⟨by omega, ?_⟩
     refine j0a (fun i e => e = fr [(6, some (.val (.mem .own (some 2) M))), (7, some (.val (.mem .own (some 1) ((slL f s i).map I)))), (27, some (.sref 6 [] 2 0 k.toNat)), (28, some (.val (I k))), (29, some (.val (I i)))]) k.toNat ?_ ?_ 0 _ (by omega) ?_
     · rintro i e hi rfl
       have hiL : i < L.length := by omega
       have hik : (i : Int) < k := by omega
       have hw := hwn hiL
       have hrgi := hrs i hiL
       have hini := hin i hiL
       have hlen := q2k f s i
       rw [hsu hiL]
       have hcl := j4f L[i].1 L[i].2
       generalize slL f s i = X at *
       have hth := h277 X (classes L[i].1 L[i].2) (by omega) (by rw [hcl]; exact hini)
       have hcc := h291 _ _ hrgi.1
       rcases hw with hw | hw
       · simp [hik, hw]
         refine ⟨by omega, by omega, ?_⟩
         refine j0e hcc rfl rfl (fun _ => by simp) ?_
         simp
         refine j0e hth rfl rfl (fun _ => by simp) ?_
         simp
         omega
       · simp [hik, hw]
         refine ⟨by omega, by omega, ?_⟩
         refine j0e hcc rfl rfl (fun _ => by simp) ?_
         simp
         refine j0e hth rfl rfl (fun _ => by simp) ?_
         simp
         omega
     · rintro e rfl
       have hik : max k 0 = k := by omega
       simp [hik, ownI]
     · have hik : max k 0 = k := by omega
       simp [slL, hik]
   · refine ⟨none, by simp [slR, j1a h, hk], Call.intro hp rfl (by simp) ?_⟩
     show wp _ _ j05.body (post [.t 4, .t 5] _ _ _) _
     simp [j05]
     refine j0e (h266 f s hf hs) rfl rfl (fun _ => rfl) ?_
     simp [j03 h, slC, j1a h, hk]
     refine j0e hser rfl rfl (fun hh => by simp at hh) ?_
     generalize serL f.length f s = L at *
     generalize serT L = M at *
     have hm2 : M.length / 2 = L.length := by omega
     have hw2 : win M 0 (L.length * 2) = M := by unfold win; exact List.take_of_length_le (by simp; omega)
     simp [hm2, hw2]
     refine ⟨by omega, by omega, ?_⟩
     refine j0e (h35 k 0 ((L.length : Int) - 1)) rfl rfl (fun _ => rfl) ?_
     simp [hk, ownI]
 · refine ⟨none, by simp [slR, j2i h], Call.intro hp rfl (by simp) ?_⟩
   show wp _ _ j05.body (post [.t 4, .t 5] _ _ _) _
   simp [j05]
   refine j0e (h266 f s hf hs) rfl rfl (fun _ => rfl) ?_
   simp [j0v h, slC, j2i h, ownI]
end Go.Mch
namespace Go.Mch

def boxT : Option T → Bool
 | some (.mem _ none _) => true
 | _ => false
@[simp] theorem boxT_mem (k : K) (ts : List T) : boxT (some (.mem k none ts)) = true := rfl
@[simp] theorem w98 {e : Env} (r : Nat) (p : List Nat) (off : Nat) : e.whole (.pref r p off) = (off == 0 && boxT (e.tree r p)) := by
 unfold Env.whole boxT
 rfl
@[simp] theorem v8m {e : Env} (r : Nat) (p : List Nat) (off : Nat) : e.hole (.pref r p off) = e.isHole r p := rfl
@[simp] theorem v9f {e : Env} (r : Nat) (p : List Nat) (off : Nat) (t : T) : e.give (.pref r p off) t = e.q0y r p t := by cases t <;> rfl
end Go.Mch
namespace Go.Mch

structure PV (X Y : List (List Int)) (a b i j : Nat) : Prop where
 pi : PI X Y a b
 l : ∀ k, a < k → k < i → bef (gt Y k) (gt Y a)
 r : ∀ k, j < k → k < b → ¬ bef (gt Y k) (gt Y a)
 h1 : a < i
 h2 : i ≤ j + 1
 h3 : j < b
def PtQ (X Y : List (List Int)) (a b m : Nat) : Prop := PI X Y a b ∧ a ≤ m ∧ m < b ∧ (∀ k, a ≤ k → k < m → bef (gt Y k) (gt Y m)) ∧ ∀ k, m < k → k < b → bef (gt Y m) (gt Y k)
section
variable {X Y : List (List Int)} {a b i j : Nat}
theorem PV.len (h : PV X Y a b i j) : Y.length = X.length := h.pi.len
theorem PV.left (h : PV X Y a b i j) (hij : i ≤ j) (hb : bef (gt Y i) (gt Y a)) : PV X Y a b (i + 1) j :=
 ⟨h.pi, fun k h1 h2 => by
  by_cases hk : k = i
  · subst hk; exact hb
  · exact h.l k h1 (by omega), h.r, by have := h.h1; omega, by omega, h.h3⟩
theorem PV.right (h : PV X Y a b i j) (hij : i ≤ j) (hb : ¬ bef (gt Y j) (gt Y a)) : PV X Y a b i (j - 1) :=
 ⟨h.pi, h.l, fun k h1 h2 => by
  by_cases hk : k = j
  · subst hk; exact hb
  · exact h.r k (by omega) h2, h.h1, by have := h.h1; omega, by have := h.h3; omega⟩
theorem PV.swap (h : PV X Y a b i j) (hij : i < j) (hj : bef (gt Y j) (gt Y a)) (hi : ¬ bef (gt Y i) (gt Y a)) (hb : b ≤ X.length) : PV X (swL Y i j) a b (i + 1) (j - 1) := by
 have hl := h.len
 have h1 := h.h1
 have h3 := h.h3
 have hg := q5p (X := Y) (i := i) (j := j) (by omega) (by omega)
 have ha : tau i j a = a := by unfold tau; rw [if_neg (by omega), if_neg (by omega)]
 refine ⟨h.pi.swap hb (by omega) (by omega), fun k k1 k2 => ?_, fun k k1 k2 => ?_, by omega, by omega, by omega⟩
 · rw [hg, hg, ha]
   by_cases hk : k = i
   · subst hk
     have : tau k j k = j := by unfold tau; rw [if_neg (by omega), if_pos rfl]
     rw [this]; exact hj
   · have : tau i j k = k := by unfold tau; rw [if_neg (by omega), if_neg hk]
     rw [this]; exact h.l k k1 (by omega)
 · rw [hg, hg, ha]
   by_cases hk : k = j
   · subst hk
     have : tau i k k = i := by unfold tau; rw [if_pos rfl]
     rw [this]; exact hi
   · have : tau i j k = k := by unfold tau; rw [if_neg hk, if_neg (by omega)]
     rw [this]; exact h.r k (by omega) k2
theorem PV.fin (h : PV X Y a b i j) (hji : j < i) (hb : b ≤ X.length) : PtQ X (swL Y j a) a b j := by
 have hl := h.len
 have h1 := h.h1
 have h2 := h.h2
 have h3 := h.h3
 have hg := q5p (X := Y) (i := j) (j := a) (by omega) (by omega)
 have hj : tau j a j = a := by
  unfold tau
  by_cases he : j = a
  · rw [if_pos he, he]
  · rw [if_neg he, if_pos rfl]
 refine ⟨h.pi.swap hb (by omega) (by omega), by omega, h3, fun k k1 k2 => ?_, fun k k1 k2 => ?_⟩
 · rw [hg, hg, hj]
   by_cases hk : k = a
   · have : tau j a k = j := by unfold tau; rw [if_pos hk]
     rw [this]; exact h.l j (by omega) hji
   · have : tau j a k = k := by unfold tau; rw [if_neg hk, if_neg (by omega)]
     rw [this]; exact h.l k (by omega) (by omega)
 · rw [hg, hg, hj]
   have : tau j a k = k := by unfold tau; rw [if_neg (by omega), if_neg (by omega)]
   rw [this]
   exact h.pi.dj.or (by omega) (by omega) (by omega) (h.r k k1 k2)
end
end Go.Mch
namespace Go.Mch

def Lb (X : List (List Int)) (a b : Nat) : Prop := a = 0 ∨ ∀ k, a ≤ k → k < b → bef (gt X (a - 1)) (gt X k)
theorem Lb.pi {X Y : List (List Int)} {a b : Nat} (h : Lb X a b) (g : PI X Y a b) : Lb Y a b := by
 rcases h with h | h
 · exact .inl h
 · by_cases h0 : a = 0
   · exact .inl h0
   · refine .inr fun k h1 h2 => ?_
     obtain ⟨k', p1, p2, p3⟩ := g.fwd k h1 h2
     rw [g.out (a - 1) (by omega), p3]
     exact h k' p1 p2
theorem SI.keep {Y Z : List (List Int)} {a i : Nat} (h : SI Y a i) (hk : ∀ k, k < i → gt Z k = gt Y k) : SI Z a i := fun p q h1 h2 h3 => by
 rw [hk p (by omega), hk q h3]
 exact h p q h1 h2 h3
theorem SI.grow {Y : List (List Int)} {a r : Nat} (h : SI Y a (r + 1)) (hb : bef (gt Y r) (gt Y (r + 1))) : SI Y a (r + 2) := fun p q h1 h2 h3 => by
 by_cases hq : q = r + 1
 · subst hq
   by_cases hp : p = r
   · subst hp; exact hb
   · exact q52 (h p r h1 (by omega) (by omega)) hb
 · exact h p q h1 h2 (by omega)
end Go.Mch
namespace Go.Mch

def Cut (Y : List (List Int)) (m a b : Nat) : Prop := ∀ p q, a ≤ p → p < m → m ≤ q → q < b → bef (gt Y p) (gt Y q)
section
variable {Y Z : List (List Int)} {m a b c d u v : Nat}
theorem Cut.pi (h : Cut Y m a b) (g : PI Y Z u v) (hu : a ≤ u) (hv : v ≤ b) (hm : v ≤ m ∨ m ≤ u) : Cut Z m a b := by
 intro p q h1 h2 h3 h4
 have hp : ∃ p', a ≤ p' ∧ p' < m ∧ gt Z p = gt Y p' := by
  by_cases hk : u ≤ p ∧ p < v
  · obtain ⟨p', q1, q2, q3⟩ := g.fwd p hk.1 hk.2
    exact ⟨p', by omega, by omega, q3⟩
  · exact ⟨p, h1, h2, g.out p (by omega)⟩
 have hq : ∃ q', m ≤ q' ∧ q' < b ∧ gt Z q = gt Y q' := by
  by_cases hk : u ≤ q ∧ q < v
  · obtain ⟨p', q1, q2, q3⟩ := g.fwd q hk.1 hk.2
    exact ⟨p', by omega, by omega, q3⟩
  · exact ⟨q, h3, h4, g.out q (by omega)⟩
 obtain ⟨p', p1, p2, p3⟩ := hp
 obtain ⟨q', q1, q2, q3⟩ := hq
 rw [p3, q3]
 exact h p' q' p1 p2 q1 q2
theorem SI.out (h : SI Y c d) (g : PI Y Z u v) (hm : d ≤ u ∨ v ≤ c) : SI Z c d := fun p q h1 h2 h3 => by
 rw [g.out p (by omega), g.out q (by omega)]
 exact h p q h1 h2 h3
theorem SI.join (h1 : SI Y c m) (h2 : SI Y m d) (h : Cut Y m a b) (hc : a ≤ c) (hd : d ≤ b) : SI Y c d := fun p q p1 p2 p3 => by
 by_cases hp : p < m
 · by_cases hq : q < m
   · exact h1 p q p1 p2 hq
   · exact h p q (by omega) hp (by omega) (by omega)
 · exact h2 p q (by omega) p2 p3
structure Fr (Y : List (List Int)) (a c d b : Nat) : Prop where
 lo : SI Y a c
 hi : SI Y d b
 cl : Cut Y c a b
 ch : Cut Y d a b
 h1 : a ≤ c
 h2 : c ≤ d
 h3 : d ≤ b
theorem Fr.pi (h : Fr Y a c d b) (g : PI Y Z c d) : Fr Z a c d b :=
 ⟨h.lo.out g (.inl (Nat.le_refl _)), h.hi.out g (.inr (Nat.le_refl _)), h.cl.pi g h.h1 h.h3 (.inr (Nat.le_refl _)), h.ch.pi g h.h1 h.h3 (.inl (Nat.le_refl _)), h.h1, h.h2, h.h3⟩
theorem Fr.fin (h : Fr Y a c d b) (hs : SI Y c d) : SI Y a b :=
 h.lo.join (hs.join h.hi h.ch h.h1 (Nat.le_refl _)) h.cl (Nat.le_refl _) (Nat.le_refl _)
theorem Fr.lb (h : Fr Y a c d b) (hl : Lb Y a b) : Lb Y c d := by
 have h1 := h.h1
 have h3 := h.h3
 by_cases hc : c = a
 · subst hc
   rcases hl with hl | hl
   · exact .inl hl
   · exact .inr fun k k1 k2 => hl k k1 (by omega)
 · exact .inr fun k k1 k2 => h.cl (c - 1) k (by omega) (by omega) k1 (by omega)
theorem Fr.left (h : Fr Y a c d b) (hm1 : c ≤ m) (hm2 : m < d) (hc : Cut Y m a b ∧ Cut Y (m + 1) a b) (g : PI Y Z c m) (hs : SI Z c m) : Fr Z a (m + 1) d b := by
 have h1 := h.h1
 have h3 := h.h3
 have c1 : Cut Z c a b := h.cl.pi g h1 (by omega) (.inr (Nat.le_refl _))
 have c2 : Cut Z m a b := hc.1.pi g h1 (by omega) (.inl (Nat.le_refl _))
 have c3 : Cut Z (m + 1) a b := hc.2.pi g h1 (by omega) (.inl (by omega))
 have s1 : SI Z a m := (h.lo.out g (.inl (Nat.le_refl _))).join hs c1 (Nat.le_refl _) (by omega)
 exact ⟨s1.join (SI.one Z (Nat.le_refl _)) c2 (Nat.le_refl _) (by omega), h.hi.out g (.inr (by omega)), c3, h.ch.pi g h1 (by omega) (.inl (by omega)), by omega, by omega, h3⟩
theorem Fr.right (h : Fr Y a c d b) (hm1 : c ≤ m) (hm2 : m < d) (hc : Cut Y m a b ∧ Cut Y (m + 1) a b) (g : PI Y Z (m + 1) d) (hs : SI Z (m + 1) d) : Fr Z a c m b := by
 have h1 := h.h1
 have h3 := h.h3
 have c1 : Cut Z d a b := h.ch.pi g (by omega) h3 (.inl (Nat.le_refl _))
 have c2 : Cut Z m a b := hc.1.pi g (by omega) h3 (.inr (by omega))
 have c3 : Cut Z (m + 1) a b := hc.2.pi g (by omega) h3 (.inr (Nat.le_refl _))
 have s1 : SI Z (m + 1) b := hs.join (h.hi.out g (.inr (Nat.le_refl _))) c1 (by omega) (Nat.le_refl _)
 exact ⟨h.lo.out g (.inl (by omega)), (SI.one Z (Nat.le_refl _)).join s1 c3 (by omega) (Nat.le_refl _), h.cl.pi g (by omega) h3 (.inr (by omega)), c2, h1, hm1, by omega⟩
theorem Fr.start (h : a ≤ b) : Fr Y a a b b :=
 ⟨SI.one Y (by omega), SI.one Y (by omega), fun p q h1 h2 h3 h4 => by omega, fun p q h1 h2 h3 h4 => by omega, Nat.le_refl _, h, Nat.le_refl _⟩
end

theorem wp_block {G : Rl} {k : K} {i : Nat} {A : C} {R : X → Env → Prop} {e : Env} (h : wp G k A (X.out i R) e) : wp G k (.block i A) R e := h
end Go.Mch
namespace Go.Mch

theorem thr (n : Nat) (P : Nat → Prop) : (∀ j k, j ≤ k → k < n → P k → P j) → ∃ i, i ≤ n ∧ (∀ j, j < n → j < i → P j) ∧ ∀ j, j < n → i ≤ j → ¬ P j := by
 induction n with
 | zero => intro _; exact ⟨0, by omega, fun j h => by omega, fun j h => by omega⟩
 | succ n ih =>
  intro h
  by_cases hp : P n
  · exact ⟨n + 1, by omega, fun j hj _ => h j n (by omega) (by omega) hp, fun j hj h2 => by omega⟩
  · obtain ⟨i, h1, h2, h3⟩ := ih fun j k hjk hk => h j k hjk (by omega)
    refine ⟨i, by omega, fun j hj hi => h2 j (by omega) hi, fun j hj hi => ?_⟩
    by_cases hjn : j = n
    · subst hjn; exact hp
    · exact h3 j (by omega) hi
structure At (X : List (List Int)) (w : List Int) (i : Nat) : Prop where
 le : i ≤ X.length
 lo : ∀ j (hj : j < X.length), j < i → cmpL X[j] w < 0
 hi : ∀ j (hj : j < X.length), i ≤ j → ¬ cmpL X[j] w < 0
theorem Srt.at {X : List (List Int)} (h : Srt X) (w : List Int) : ∃ i, At X w i := by
 obtain ⟨i, h1, h2, h3⟩ := thr X.length (fun j => cmpL (X.getD j []) w < 0) fun j k hjk hk hp => by
  by_cases he : j = k
  · subst he; exact hp
  · have hj : j < X.length := by omega
    have := h.lt hk (show j < k by omega)
    simp only [List.getD_eq_getElem?_getD, List.getElem?_eq_getElem hk, List.getElem?_eq_getElem hj, Option.getD_some] at hp ⊢
    exact q25 _ _ _ this hp
 refine ⟨i, h1, fun j hj hl => ?_, fun j hj hl => ?_⟩
 · have := h2 j hj hl
   simpa [hj] using this
 · have := h3 j hj hl
   simpa [hj] using this
theorem At.mem {X : List (List Int)} {w : List Int} {i : Nat} (h : At X w i) (hs : Srt X) : w ∈ X ↔ ∃ hi : i < X.length, X[i] = w := by
 constructor
 · intro hm
   obtain ⟨j, hj, rfl⟩ := List.getElem_of_mem hm
   have hij : i ≤ j := by
    refine Classical.byContradiction fun hn => ?_
    have := h.lo j hj (by omega)
    have z := (q51 X[j] X[j]).2 rfl
    omega
   by_cases he : i = j
   · subst he; exact ⟨hj, rfl⟩
   · exact absurd (hs.lt hj (by omega)) (h.hi i (by omega) (Nat.le_refl _))
 · rintro ⟨hi, rfl⟩
   exact List.getElem_mem hi
end Go.Mch
namespace Go.Mch

def GR (ms : List (List Int)) (n : Nat) (x : List Int) : Prop := ∀ S : List Int → Prop, S (idL n) → (∀ y, S y → ∀ p ∈ ms, S (j31 y p)) → S x
theorem GR.id (ms : List (List Int)) (n : Nat) : GR ms n (idL n) := fun _ h _ => h
theorem GR.step {ms : List (List Int)} {n : Nat} {x : List Int} (h : GR ms n x) {p : List Int} (hp : p ∈ ms) : GR ms n (j31 x p) := fun S h1 h2 => h2 x (h S h1 h2) p hp
structure Grp (ms : List (List Int)) (n : Nat) (X : List (List Int)) : Prop where
 srt : Srt X
 mem : ∀ x, x ∈ X ↔ GR ms n x
end Go.Mch
namespace Go.Mch

section
variable (mv : List Int → Nat → List Int) (m : Nat) (w : List Int)
def TR (x : List Int) : Prop := ∀ C : List Int → Prop, C w → (∀ y, C y → ∀ i, i < m → C (mv y i)) → C x
theorem TR.start : TR mv m w w := fun _ h _ => h
theorem TR.step {x : List Int} (h : TR mv m w x) {i : Nat} (hi : i < m) : TR mv m w (mv x i) := fun C h1 h2 => h2 _ (h C h1 h2) i hi
structure TF (Q : List (List Int)) : Prop where
 w0 : w ∈ Q
 nd : Q.Nodup
 gr : ∀ x ∈ Q, TR mv m w x
structure TB (Q : List (List Int)) (a k : Nat) : Prop where
 f : TF mv m w Q
 cl : ∀ i (h : i < Q.length), i < a → ∀ p, p < m → mv Q[i] p ∈ Q
 cur : ∀ h : a < Q.length, ∀ p, p < k → mv Q[a] p ∈ Q
theorem TB.start : TB mv m w [w] 0 0 := ⟨⟨by simp, by simp, fun x hx => by rw [List.mem_singleton] at hx; subst hx; exact TR.start mv m x⟩, fun i h hi => by omega, fun h p hp => by omega⟩
variable {mv m w}
theorem TB.old {Q : List (List Int)} {a k : Nat} (h : TB mv m w Q a k) (ha : a < Q.length) (hin : mv Q[a] k ∈ Q) : TB mv m w Q a (k + 1) :=
 ⟨h.f, h.cl, fun h1 p hp => by
  by_cases hpk : p = k
  · subst hpk; exact hin
  · exact h.cur h1 p (by omega)⟩
theorem TF.new {Q : List (List Int)} {a k : Nat} (h : TF mv m w Q) (ha : a < Q.length) (hk : k < m) (hin : mv Q[a] k ∉ Q) : TF mv m w (Q ++ [mv Q[a] k]) :=
 ⟨List.mem_append.2 (.inl h.w0), by
  rw [List.nodup_append]
  exact ⟨h.nd, by simp, fun x hx y hy hxy => by
   rw [List.mem_singleton] at hy
   exact hin (by rw [← hy, ← hxy]; exact hx)⟩, fun x hx => by
  rcases List.mem_append.1 hx with hx | hx
  · exact h.gr x hx
  · rw [List.mem_singleton] at hx
    subst hx
    exact (h.gr _ (List.getElem_mem ha)).step mv m w hk⟩
theorem TB.new {Q : List (List Int)} {a k : Nat} (h : TB mv m w Q a k) (ha : a < Q.length) (hk : k < m) (hin : mv Q[a] k ∉ Q) : TB mv m w (Q ++ [mv Q[a] k]) a (k + 1) :=
 ⟨h.f.new ha hk hin, fun i hi hia p hp => by
  have hl : i < Q.length := by omega
  rw [List.getElem_append_left hl]
  exact List.mem_append.2 (.inl (h.cl i hl hia p hp)), fun h1 p hp => by
  rw [List.getElem_append_left ha]
  by_cases hpk : p = k
  · subst hpk; exact List.mem_append.2 (.inr (by simp))
  · exact List.mem_append.2 (.inl (h.cur ha p (by omega)))⟩
theorem TB.up {Q : List (List Int)} {a : Nat} (h : TB mv m w Q a m) (ha : a < Q.length) : TB mv m w Q (a + 1) 0 :=
 ⟨h.f, fun i hi hia p hp => by
  by_cases he : i = a
  · subst he; exact h.cur ha p hp
  · exact h.cl i hi (by omega) p hp, fun h1 p hp => by omega⟩
theorem TB.all {Q : List (List Int)} {a : Nat} (h : TB mv m w Q a 0) (ha : ¬ a < Q.length) (x : List Int) (hx : TR mv m w x) : x ∈ Q :=
 hx (fun y => y ∈ Q) h.f.w0 fun y hy i hi => by
  obtain ⟨j, hj, rfl⟩ := List.getElem_of_mem hy
  exact h.cl j hj (by omega) i hi
variable (mv m w)
variable {mv m w}
end
end Go.Mch
namespace Go.Mch

def ExT (P : List (List Int) → Prop) : Prop := ∃ Q, P Q
theorem ExT.mk {P : List (List Int) → Prop} (Q : List (List Int)) (h : P Q) : ExT P := ⟨Q, h⟩
structure BF (ms : List (List Int)) (n : Nat) (Q : List (List Int)) (i k : Nat) : Prop where
 nd : Q.Nodup
 gr : ∀ x ∈ Q, GR ms n x
 id : idL n ∈ Q
 dn : ∀ j (hj : j < Q.length), j < i → ∀ p ∈ ms, j31 Q[j] p ∈ Q
 dk : ∀ hi : i < Q.length, ∀ p ∈ ms.take k, j31 Q[i] p ∈ Q
 le : Q.length ≤ 1000
theorem BF.start (ms : List (List Int)) (n : Nat) : BF ms n [idL n] 0 0 where
 nd := by simp
 gr := fun x hx => by simp at hx; subst hx; exact GR.id ms n
 id := by simp
 dn := fun j _ h => by omega
 dk := fun _ p hp => by simp at hp
 le := by simp
theorem BF.up {ms : List (List Int)} {n : Nat} {Q : List (List Int)} {i : Nat} (h : BF ms n Q i ms.length) (hi : i < Q.length) : BF ms n Q (i + 1) 0 :=
 ⟨h.nd, h.gr, h.id, fun j hj hl p hp => by
  by_cases he : j = i
  · subst he; exact h.dk hi p (by simpa using hp)
  · exact h.dn j hj (by omega) p hp, fun _ p hp => by simp at hp, h.le⟩
theorem BF.old {ms : List (List Int)} {n : Nat} {Q : List (List Int)} {i k : Nat} (h : BF ms n Q i k) (hk : k < ms.length) (hi : i < Q.length) (hm : j31 Q[i] ms[k] ∈ Q) : BF ms n Q i (k + 1) :=
 ⟨h.nd, h.gr, h.id, h.dn, fun _ p hp => by
  rw [List.take_succ_eq_append_getElem hk] at hp
  rcases List.mem_append.1 hp with h1 | h1
  · exact h.dk hi p h1
  · simp at h1; subst h1; exact hm, h.le⟩
theorem BF.new {ms : List (List Int)} {n : Nat} {Q : List (List Int)} {i k : Nat} (h : BF ms n Q i k) (hk : k < ms.length) (hi : i < Q.length) (hm : j31 Q[i] ms[k] ∉ Q) :
 (Q ++ [j31 Q[i] ms[k]]).Nodup ∧ (∀ x ∈ Q ++ [j31 Q[i] ms[k]], GR ms n x) ∧ (Q.length < 1000 → BF ms n (Q ++ [j31 Q[i] ms[k]]) i (k + 1)) := by
 have hnd : (Q ++ [j31 Q[i] ms[k]]).Nodup := by
  rw [List.nodup_append]
  exact ⟨h.nd, by simp, fun a ha b hb => by simp at hb; subst hb; exact fun he => hm (he ▸ ha)⟩
 have hgr : ∀ x ∈ Q ++ [j31 Q[i] ms[k]], GR ms n x := fun x hx => by
  rcases List.mem_append.1 hx with h1 | h1
  · exact h.gr x h1
  · simp at h1; subst h1; exact (h.gr _ (List.getElem_mem hi)).step (List.getElem_mem hk)
 refine ⟨hnd, hgr, fun hl => ⟨hnd, hgr, List.mem_append.2 (.inl h.id), fun j hj hl2 p hp => ?_, fun _ p hp => ?_, by simp; omega⟩⟩
 · rw [List.getElem_append_left (by omega)]
   exact List.mem_append.2 (.inl (h.dn j (by omega) hl2 p hp))
 · rw [List.getElem_append_left hi]
   rw [List.take_succ_eq_append_getElem hk] at hp
   rcases List.mem_append.1 hp with h1 | h1
   · exact List.mem_append.2 (.inl (h.dk hi p h1))
   · simp at h1; subst h1; exact List.mem_append.2 (.inr (by simp))
theorem BF.all {ms : List (List Int)} {n : Nat} {Q : List (List Int)} {i k : Nat} (h : BF ms n Q i k) (hi : ¬ i < Q.length) : ∀ x, GR ms n x → x ∈ Q := fun x hx =>
 hx (· ∈ Q) h.id fun y hy p hp => by
  obtain ⟨j, hj, rfl⟩ := List.getElem_of_mem hy
  exact h.dn j hj (by omega) p hp
end Go.Mch
namespace Go.Mch

def q2l (X : List (List Int)) : List T := X.map fun xs => .mem .fresh (some 1) (xs.map I)
@[simp] theorem w5j (X : List (List Int)) : (q2l X).length = X.length := by simp [q2l]
@[simp] theorem w5q (X : List (List Int)) : T.j0m (q2l X) = true := by
 induction X with
 | nil => rfl
 | cons x X ih => simp only [q2l, List.map_cons] at ih ⊢; simp [ih]
@[simp] theorem v2x (X : List (List Int)) : T.eryL .old (q2l X) = tbL X := by
 induction X with
 | nil => rfl
 | cons x X ih => simp only [q2l, tbL, List.map_cons] at ih ⊢; simp [ih]
@[simp] theorem w3l {X : List (List Int)} {k : Nat} (h : k < (q2l X).length) : (q2l X)[k] = .mem .fresh (some 1) ((X[k]'(by simpa using h)).map I) := by simp [q2l]
def Rds (ts : List T) (X : List (List Int)) : Prop := T.eryL .old ts = tbL X ∧ T.j0m ts = true ∧ T.j1x ts = tbL X ∧ ts.length = X.length
theorem Rds.fresh (X : List (List Int)) : Rds (q2l X) X := ⟨by simp, by simp, by
 induction X with
 | nil => rfl
 | cons x X ih => simp only [q2l, tbL, List.map_cons] at ih ⊢; simp [ih], by simp⟩
theorem Rds.old (X : List (List Int)) : Rds (tbL X) X := ⟨by simp, by simp, by
 induction X with
 | nil => rfl
 | cons x X ih => simp only [tbL, List.map_cons] at ih ⊢; simp [ih], by simp⟩
def ExTT (P : List (List Int) → List (List Int) → List T → Prop) : Prop := ∃ F S ts, P F S ts
theorem ExTT.mk {P : List (List Int) → List (List Int) → List T → Prop} (F S : List (List Int)) (ts : List T) (h : P F S ts) : ExTT P := ⟨F, S, ts, h⟩

end Go.Mch
namespace Go.Mch

@[simp] theorem w5r (X : List (List Int)) : T.j57 (q2l X) = true := by
 induction X with
 | nil => rfl
 | cons x X ih => simp only [q2l, List.map_cons] at ih ⊢; simp [ih]
end Go.Mch
namespace Go.Mch

theorem q21 {n x y : Nat} (hy : y < n) : (x * n + y) / n = x ∧ (x * n + y) % n = y := by
 have hn : 0 < n := by omega
 refine ⟨?_, ?_⟩
 · rw [Nat.mul_comm, Nat.mul_add_div hn, Nat.div_eq_of_lt hy, Nat.add_zero]
 · rw [Nat.mul_comm, Nat.mul_add_mod, Nat.mod_eq_of_lt hy]
theorem q73 {n x y : Nat} (hx : x < n) (hy : y < n) : x * n + y < n * n := by
 have : (x + 1) * n ≤ n * n := Nat.mul_le_mul_right n hx
 rw [Nat.add_mul] at this
 omega
theorem z3w {f s : List (List Int)} (hi : Inj f s) {x y x' y' : Nat} (hx : x < f.length) (hy : y < f.length) (hx' : x' < f.length) (hy' : y' < f.length) (h1 : v2 f x y = v2 f x' y') (h2 : v2 s x y = v2 s x' y') : x = x' ∧ y = y' := by
 have hp := q21 (x := x) hy
 have hp' := q21 (x := x') hy'
 by_cases he : x * f.length + y = x' * f.length + y'
 · exact ⟨by rw [← hp.1, he, hp'.1], by rw [← hp.2, he, hp'.2]⟩
 · exact absurd ⟨he, by rw [hp.1, hp.2, hp'.1, hp'.2]; exact h1, by rw [hp.1, hp.2, hp'.1, hp'.2]; exact h2⟩ (hi _ (q73 hx hy) _ (q73 hx' hy'))
theorem w20 {f s : List (List Int)} (h : PM f s) (hi : Inj f s) {a b : Nat} (ha : a < f.length) (hb : b < f.length) : ∃ x y, x < f.length ∧ y < f.length ∧ v2 f x y = a ∧ v2 s x y = b := by
 have r1 : ∀ x y : Nat, 0 ≤ v2 f x y ∧ v2 f x y < f.length := fun x y => by simpa [g2] using h.gF x y
 have r2 : ∀ x y : Nat, 0 ≤ v2 s x y ∧ v2 s x y < f.length := fun x y => by simpa [g2] using h.gS x y
 have hs := j7c (n := f.length * f.length) (g := fun p => (v2 f (p / f.length) (p % f.length)).toNat * f.length + (v2 s (p / f.length) (p % f.length)).toNat) (fun p _ => by
  have := r1 (p / f.length) (p % f.length)
  have := r2 (p / f.length) (p % f.length)
  exact q73 (by omega) (by omega)) (fun p p' hp hp' he => by
  have hd := q23 hp
  have hd' := q23 hp'
  have q1 := r1 (p / f.length) (p % f.length)
  have q2 := r2 (p / f.length) (p % f.length)
  have q1' := r1 (p' / f.length) (p' % f.length)
  have q2' := r2 (p' / f.length) (p' % f.length)
  have u := q21 (n := f.length) (x := (v2 f (p / f.length) (p % f.length)).toNat) (y := (v2 s (p / f.length) (p % f.length)).toNat) (by omega)
  have u' := q21 (n := f.length) (x := (v2 f (p' / f.length) (p' % f.length)).toNat) (y := (v2 s (p' / f.length) (p' % f.length)).toNat) (by omega)
  rw [he] at u
  have e1 := u.1.symm.trans u'.1
  have e2 := u.2.symm.trans u'.2
  have := z3w hi hd.1 hd.2 hd'.1 hd'.2 (by omega) (by omega)
  rw [← Nat.div_add_mod p f.length, ← Nat.div_add_mod p' f.length, this.1, this.2])
 obtain ⟨p, hp, he⟩ := hs _ (q73 ha hb)
 have hd := q23 hp
 have q1 := r1 (p / f.length) (p % f.length)
 have q2 := r2 (p / f.length) (p % f.length)
 have u := q21 (n := f.length) (x := (v2 f (p / f.length) (p % f.length)).toNat) (y := (v2 s (p / f.length) (p % f.length)).toNat) (by omega)
 have u' := q21 (n := f.length) (x := a) hb
 rw [he] at u
 have e1 := u.1.symm.trans u'.1
 have e2 := u.2.symm.trans u'.2
 exact ⟨_, _, hd.1, hd.2, by omega, by omega⟩
end Go.Mch
namespace Go.Mch

def pre (f s : List (List Int)) (u v : Nat) (x y : Nat) : Prop := x < f.length ∧ y < f.length ∧ σN f x y = u ∧ τN s y x = v
noncomputable def preX (f s : List (List Int)) (u v : Nat) : Nat := by
 classical exact if h : ∃ x, ∃ y, pre f s u v x y then Classical.choose h else 0
noncomputable def preY (f s : List (List Int)) (u v : Nat) : Nat := by
 classical exact if h : ∃ y, ∃ x, pre f s u v x y then Classical.choose h else 0
theorem z3d {f s : List (List Int)} (h : PM f s) (hi : Inj f s) {u v x y x' y' : Nat} (h1 : pre f s u v x y) (h2 : pre f s u v x' y') : x = x' ∧ y = y' := by
 obtain ⟨a1, a2, a3, a4⟩ := h1
 obtain ⟨b1, b2, b3, b4⟩ := h2
 have e1 := h.v2f x y
 have e2 := h.v2f x' y'
 have e3 := h.v2s x y
 have e4 := h.v2s x' y'
 exact z3w hi a1 a2 b1 b2 (by omega) (by omega)
theorem pre_eq {f s : List (List Int)} (h : PM f s) (hi : Inj f s) {u v x y : Nat} (h1 : pre f s u v x y) : preX f s u v = x ∧ preY f s u v = y := by
 have hx : ∃ x, ∃ y, pre f s u v x y := ⟨x, y, h1⟩
 have hy : ∃ y, ∃ x, pre f s u v x y := ⟨y, x, h1⟩
 constructor
 · unfold preX
   rw [dif_pos hx]
   obtain ⟨y', h2⟩ := Classical.choose_spec hx
   exact (z3d h hi h2 h1).1
 · unfold preY
   rw [dif_pos hy]
   obtain ⟨y', h2⟩ := Classical.choose_spec hy
   exact (z3d h hi h2 h1).2
theorem v6m {f s : List (List Int)} (h : PM f s) (hi : Inj f s) {u v : Nat} (hu : u < f.length) (hv : v < f.length) : ∃ x y, pre f s u v x y := by
 obtain ⟨x, y, h1, h2, h3, h4⟩ := w20 h hi hu hv
 have e1 := h.v2f x y
 have e3 := h.v2s x y
 exact ⟨x, y, h1, h2, by omega, by omega⟩
theorem q71 {f s : List (List Int)} (h : PM f s) (hi : Inj f s) {u v : Nat} (hu : u < f.length) (hv : v < f.length) : pre f s u v (preX f s u v) (preY f s u v) := by
 obtain ⟨x, y, h1⟩ := v6m h hi hu hv
 have := pre_eq h hi h1
 rw [this.1, this.2]
 exact h1
theorem v6n {f s : List (List Int)} (h : PM f s) (hi : Inj f s) {x y : Nat} (hx : x < f.length) (hy : y < f.length) : preX f s (σN f x y) (τN s y x) = x ∧ preY f s (σN f x y) (τN s y x) = y := pre_eq h hi ⟨hx, hy, rfl, rfl⟩

noncomputable def invF (f s : List (List Int)) : List (List Int) := tabL f.length fun u v => (preX f s u v : Int)
noncomputable def invS (f s : List (List Int)) : List (List Int) := tabL f.length fun u v => (preY f s u v : Int)
@[simp] theorem w8p (f s : List (List Int)) : (invF f s).length = f.length := by simp [invF]
@[simp] theorem w8n (f s : List (List Int)) : (invS f s).length = f.length := by simp [invS]
theorem v8g {f s : List (List Int)} (h : PM f s) (hi : Inj f s) : PM (invF f s) (invS f s) where
 tf := q86 fun x y hx hy => by have := (q71 h hi hx hy).1; omega
 ts := q86 fun x y hx hy => by have := (q71 h hi hx hy).2.1; omega
 len := by simp
 pos := by simpa using h.pos
 small := by simpa using h.small


end Go.Mch
namespace Go.Mch

def isWd (n : Int) (w : List Int) : Prop := inR 0 (n - 1) w ∧ w.length ≤ 8
instance (n : Int) (w : List Int) : Decidable (isWd n w) := by unfold isWd; infer_instance

noncomputable def cMv (f s : List (List Int)) (x : List Int) (p : Nat) : List Int := if p % 2 = 0 then dW f s x (p / 2) else dW (invF f s) (invS f s) x (p / 2)
@[simp] theorem q0f (f s : List (List Int)) (x : List Int) (p : Nat) : (cMv f s x p).length = x.length := by unfold cMv; split <;> simp
theorem z4q {f s : List (List Int)} (h : PM f s) (hi : Inj f s) {x : List Int} (hx : inN f.length x) (p : Nat) : inN f.length (cMv f s x p) := by
 unfold cMv
 split
 · exact z7g h hx _
 · have := z7g (v8g h hi) (w := x) (by simpa using hx) (p / 2)
   simpa using this
theorem CR_in {f s : List (List Int)} (h : PM f s) (hi : Inj f s) {w : List Int} (hw : inN f.length w) {m : Nat} {x : List Int} (hx : TR (cMv f s) m w x) : inN f.length x ∧ x.length = w.length :=
 hx (fun y => inN f.length y ∧ y.length = w.length) ⟨hw, rfl⟩ fun y hy i _ => ⟨z4q h hi hy.1 i, by rw [q0f]; exact hy.2⟩

end Go.Mch
namespace Go.Mch


def hd0 (X : List (List Int)) : List Int := X.getD 0 []
end Go.Mch
namespace Go.Mch

section
variable {mv mv' : List Int → Nat → List Int} {m m' : Nat} {w x y : List Int}
theorem TR.trans (h1 : TR mv m w x) (h2 : TR mv m x y) : TR mv m w y := h2 _ h1 fun _ hz _ hi => TR.step mv m w hz hi
theorem TR.symm {P : List Int → Prop} (hw : P w) (hc : ∀ y, P y → ∀ i, i < m → P (mv y i)) (hb : ∀ y, P y → ∀ i, i < m → ∃ j, j < m ∧ mv (mv y i) j = y) (h : TR mv m w x) : TR mv m x w :=
 (h (fun y => P y ∧ TR mv m y w) ⟨hw, TR.start mv m w⟩ fun y hy i hi => ⟨hc y hy.1 i hi, by
  obtain ⟨j, hj, he⟩ := hb y hy.1 i hi
  have h1 : TR mv m (mv y i) y := by
   have := TR.step mv m (mv y i) (TR.start mv m (mv y i)) hj
   rw [he] at this
   exact this
  exact h1.trans hy.2⟩).2
theorem TR.map (φ : List Int → List Int) {P : List Int → Prop} (hw : P w) (hc : ∀ y, P y → ∀ i, i < m → P (mv y i)) (hm : ∀ y, P y → ∀ i, i < m → ∃ j, j < m' ∧ mv' (φ y) j = φ (mv y i)) (h : TR mv m w x) : TR mv' m' (φ w) (φ x) :=
 (h (fun y => P y ∧ TR mv' m' (φ w) (φ y)) ⟨hw, TR.start mv' m' (φ w)⟩ fun y hy i hi => ⟨hc y hy.1 i hi, by
  obtain ⟨j, hj, he⟩ := hm y hy.1 i hi
  rw [← he]
  exact TR.step mv' m' (φ w) hy.2 hj⟩).2
end

theorem w51 {f s : List (List Int)} {p r : List Int} {i : Nat} (hi : i + 1 < p.length) : dW f s (p ++ r) i = dW f s p i ++ r := by
 have h1 : (p ++ r).getD i 0 = p.getD i 0 := by rw [List.getD_eq_getElem?_getD, List.getD_eq_getElem?_getD, List.getElem?_append_left (by omega)]
 have h2 : (p ++ r).getD (i + 1) 0 = p.getD (i + 1) 0 := by rw [List.getD_eq_getElem?_getD, List.getD_eq_getElem?_getD, List.getElem?_append_left (by omega)]
 unfold dW
 rw [h1, h2, List.set_append_left _ _ (by omega), List.set_append_left _ _ (by simp; omega)]
theorem w1k {f s : List (List Int)} {u r : List Int} {i : Nat} : dW f s (u ++ r) (u.length + i) = u ++ dW f s r i := by
 have h1 : (u ++ r).getD (u.length + i) 0 = r.getD i 0 := by rw [List.getD_eq_getElem?_getD, List.getD_eq_getElem?_getD, List.getElem?_append_right (by omega), Nat.add_sub_cancel_left]
 have h2 : (u ++ r).getD (u.length + i + 1) 0 = r.getD (i + 1) 0 := by rw [List.getD_eq_getElem?_getD, List.getD_eq_getElem?_getD, List.getElem?_append_right (by omega), show u.length + i + 1 - u.length = i + 1 from by omega]
 unfold dW
 rw [h1, h2, List.set_append_right _ _ (by omega), List.set_append_right _ _ (by omega), Nat.add_sub_cancel_left, show u.length + i + 1 - u.length = i + 1 from by omega]
theorem w9d {f s : List (List Int)} {p r : List Int} {i : Nat} (hi : i < 2 * (p.length - 1)) : cMv f s (p ++ r) i = cMv f s p i ++ r := by
 unfold cMv
 split
 · exact w51 (by omega)
 · exact w51 (by omega)
theorem w4w {f s : List (List Int)} {u r : List Int} {i : Nat} : cMv f s (u ++ r) (2 * u.length + i) = u ++ cMv f s r i := by
 unfold cMv
 rw [show (2 * u.length + i) % 2 = i % 2 from by omega, show (2 * u.length + i) / 2 = u.length + i / 2 from by omega]
 split
 · exact w1k
 · exact w1k

theorem z3x {n : Nat} {w : List Int} (h : inN n w) {i : Nat} (hi : i < w.length) : 0 ≤ w.getD i 0 ∧ w.getD i 0 < n := by
 rw [List.getD_eq_getElem?_getD, List.getElem?_eq_getElem hi]
 exact h _ (List.getElem_mem hi)
theorem w1j {f s g t : List (List Int)} {w : List Int} {i : Nat} (hi : i + 1 < w.length)
 (h : ∀ a b, a = w.getD i 0 → b = w.getD (i + 1) 0 → g2 g (g2 f a b) (g2 s a b) = a ∧ g2 t (g2 f a b) (g2 s a b) = b) : dW g t (dW f s w i) i = w := by
 obtain ⟨h1, h2⟩ := h _ _ rfl rfl
 have e1 : (dW f s w i).getD i 0 = g2 f (w.getD i 0) (w.getD (i + 1) 0) := by
  unfold dW
  rw [List.getD_eq_getElem?_getD, List.getElem?_set_ne (by omega), List.getElem?_set_self (by omega)]
  rfl
 have e2 : (dW f s w i).getD (i + 1) 0 = g2 s (w.getD i 0) (w.getD (i + 1) 0) := by
  unfold dW
  rw [List.getD_eq_getElem?_getD, List.getElem?_set_self (by simpa using hi)]
  rfl
 have e3 : dW g t (dW f s w i) i = ((dW f s w i).set i (w.getD i 0)).set (i + 1) (w.getD (i + 1) 0) := by
  rw [dW, e1, e2, h1, h2]
 rw [e3]
 apply List.ext_getElem
 · simp
 · intro j j1 j2
   have hw1 : w.getD i 0 = w[i]'(by omega) := by rw [List.getD_eq_getElem?_getD, List.getElem?_eq_getElem (by omega)]; rfl
   have hw2 : w.getD (i + 1) 0 = w[i + 1] := by rw [List.getD_eq_getElem?_getD, List.getElem?_eq_getElem hi]; rfl
   by_cases hj1 : i + 1 = j
   · subst hj1
     rw [List.getElem_set_self, hw2]
   · rw [List.getElem_set_ne (by omega)]
     by_cases hj0 : i = j
     · subst hj0
       rw [List.getElem_set_self, hw1]
     · rw [List.getElem_set_ne (by omega)]
       unfold dW
       rw [List.getElem_set_ne (by omega), List.getElem_set_ne (by omega)]
theorem v8h {f s : List (List Int)} (h : PM f s) (hi : Inj f s) {a b : Int} (ha : 0 ≤ a ∧ a < f.length) (hb : 0 ≤ b ∧ b < f.length) :
 (g2 (invF f s) (g2 f a b) (g2 s a b) = a ∧ g2 (invS f s) (g2 f a b) (g2 s a b) = b) ∧ g2 f (g2 (invF f s) a b) (g2 (invS f s) a b) = a ∧ g2 s (g2 (invF f s) a b) (g2 (invS f s) a b) = b := by
 have hx : a.toNat < f.length := by omega
 have hy : b.toNat < f.length := by omega
 constructor
 · have h1 := h.v2f a.toNat b.toNat
   have h2 := h.v2s a.toNat b.toNat
   have h3 := v6n h hi hx hy
   have e1 : (g2 f a b).toNat = σN f a.toNat b.toNat := rfl
   have e2 : (g2 s a b).toNat = τN s b.toNat a.toNat := rfl
   unfold g2 at e1 e2 ⊢
   rw [e1, e2, invF, invS, j58 h1.2 h2.2, j58 h1.2 h2.2, h3.1, h3.2]
   omega
 · have h1 := q71 h hi hx hy
   have e1 : g2 (invF f s) a b = (preX f s a.toNat b.toNat : Int) := by unfold g2 invF; rw [j58 hx hy]
   have e2 : g2 (invS f s) a b = (preY f s a.toNat b.toNat : Int) := by unfold g2 invS; rw [j58 hx hy]
   rw [e1, e2]
   obtain ⟨p1, p2, p3, p4⟩ := h1
   have h2 := h.v2f (preX f s a.toNat b.toNat) (preY f s a.toNat b.toNat)
   have h3 := h.v2s (preX f s a.toNat b.toNat) (preY f s a.toNat b.toNat)
   unfold g2
   rw [Int.toNat_natCast, Int.toNat_natCast]
   omega
theorem w4v {f s : List (List Int)} (h : PM f s) (hi : Inj f s) {w : List Int} (hw : inN f.length w) {p : Nat} (hp : p < 2 * (w.length - 1)) : ∃ q, q < 2 * (w.length - 1) ∧ cMv f s (cMv f s w p) q = w := by
 have ha := z3x hw (i := p / 2) (by omega)
 have hb := z3x hw (i := p / 2 + 1) (by omega)
 have hg := v8h h hi ha hb
 by_cases he : p % 2 = 0
 · refine ⟨p + 1, by omega, ?_⟩
   have e1 : cMv f s w p = dW f s w (p / 2) := by rw [cMv, if_pos he]
   have e2 : ∀ x, cMv f s x (p + 1) = dW (invF f s) (invS f s) x (p / 2) := fun x => by rw [cMv, if_neg (by omega), show (p + 1) / 2 = p / 2 from by omega]
   rw [e1, e2]
   exact w1j (by omega) fun a b ha hb => by rw [ha, hb]; exact hg.1
 · refine ⟨p - 1, by omega, ?_⟩
   have e1 : cMv f s w p = dW (invF f s) (invS f s) w (p / 2) := by rw [cMv, if_neg he]
   have e2 : ∀ x, cMv f s x (p - 1) = dW f s x (p / 2) := fun x => by rw [cMv, if_pos (by omega), show (p - 1) / 2 = p / 2 from by omega]
   rw [e1, e2]
   exact w1j (by omega) fun a b ha hb => by rw [ha, hb]; exact hg.2

def Eqw (f s : List (List Int)) (u v : List Int) : Prop := TR (cMv f s) (2 * (u.length - 1)) u v
section
variable {f s : List (List Int)} (h : PM f s) (hi : Inj f s)
include h hi
theorem Eqw.len {u v : List Int} (hu : inN f.length u) (e : Eqw f s u v) : inN f.length v ∧ v.length = u.length := CR_in h hi hu e
theorem Eqw.symm {u v : List Int} (hu : inN f.length u) (e : Eqw f s u v) : Eqw f s v u := by
 have hl := (e.len h hi hu).2
 unfold Eqw at e ⊢
 rw [hl]
 exact TR.symm (P := fun y => inN f.length y ∧ y.length = u.length) ⟨hu, rfl⟩ (fun y hy i _ => ⟨z4q h hi hy.1 i, by rw [q0f]; exact hy.2⟩) (fun y hy i hlt => by
  have := w4v h hi hy.1 (p := i) (by rw [hy.2]; exact hlt)
  rw [hy.2] at this
  exact this) e
theorem Eqw.trans {u v x : List Int} (hu : inN f.length u) (e : Eqw f s u v) (e2 : Eqw f s v x) : Eqw f s u x := by
 have hl := (e.len h hi hu).2
 unfold Eqw at e e2 ⊢
 rw [hl] at e2
 exact TR.trans e e2
theorem Eqw.app {u v : List Int} (hu : inN f.length u) (r : List Int) (e : Eqw f s u v) : Eqw f s (u ++ r) (v ++ r) := by
 unfold Eqw at e ⊢
 exact TR.map (· ++ r) (P := fun y => inN f.length y ∧ y.length = u.length) ⟨hu, rfl⟩ (fun y hy i _ => ⟨z4q h hi hy.1 i, by rw [q0f]; exact hy.2⟩) (fun y hy i hlt => ⟨i, by simp; omega, w9d (by rw [hy.2]; exact hlt)⟩) e
theorem Eqw.pre {r v : List Int} (hr : inN f.length r) (u : List Int) (e : Eqw f s r v) : Eqw f s (u ++ r) (u ++ v) := by
 unfold Eqw at e ⊢
 exact TR.map (u ++ ·) (P := fun y => inN f.length y ∧ y.length = r.length) ⟨hr, rfl⟩ (fun y hy i _ => ⟨z4q h hi hy.1 i, by rw [q0f]; exact hy.2⟩) (fun y hy i hlt => ⟨2 * u.length + i, by simp; omega, w4w⟩) e
end
end Go.Mch
namespace Go.Mch

def iv (f s : List (List Int)) (x y : Nat) : Prop := v2 f (σN f x y) (τN s y x) = x ∧ v2 s (σN f x y) (τN s y x) = y
instance (f s : List (List Int)) (x y : Nat) : Decidable (iv f s x y) := by unfold iv; infer_instance
def isInv (f s : List (List Int)) : Prop := ∀ x, x < f.length → ∀ y, y < f.length → iv f s x y
def z2f (pg : Pg) (n : Nat) : Prop := ∀ f s : List (List Int), PM f s → Call pg n [sol f s] [sol f s] (B (dec (isInv f s)))
set_option maxRecDepth 10000 in
theorem z5m {pg : Pg} (hp : pg.fn 351 = some j4q) : z2f pg 351 := by
 intro f s h
 have h0 := h.pos
 have h12 := h.small
 have hls := h.len
 have fr' := fun x hx => h.tf.row (x := x) hx
 have sr' : ∀ x (hx : x < s.length), (s[x]).length = f.length := fun x hx => (h.ts.row hx).trans hls
 refine Call.intro hp rfl (by simp) ?_
 show wp _ _ j4q.body (post [.t 2] _ _ _) _
 simp [j4q]
 refine j0a (fun a e => (∀ x, x < a → ∀ y, y < f.length → iv f s x y) ∧ e = fr [(1, some (.val (.mem .own none [tb f, tb s]))), (3, some (.val (I a)))]) f.length ?_ ?_ 0 _ (by omega) ⟨fun x hx => by omega, by simp⟩
 · rintro a e ha ⟨h1, rfl⟩
   simp [ha]
   refine j0a (fun b e => (∀ y, y < b → iv f s a y) ∧ e = fr [(1, some (.val (.mem .own none [tb f, tb s]))), (3, some (.val (I a))), (4, some (.val (I b)))]) f.length ?_ ?_ 0 _ (by omega) ⟨fun x hx => by omega, by simp⟩
   · rintro b e hb ⟨h2, rfl⟩
     have hf := h.v2f a b
     have hs2 := h.v2s a b
     have has : a < s.length := by omega
     have hfr := fr' a ha
     have hsr := sr' a has
     have hfg : (f[a])[b]'(by omega) = v2 f a b := j2a _ _
     have hsg : (s[a])[b]'(by omega) = v2 s a b := j2a _ _
     have hiv : iv f s a b ↔ v2 f (σN f a b) (τN s b a) = a ∧ v2 s (σN f a b) (τN s b a) = b := Iff.rfl
     have hf3 := h.v2f (σN f a b) (τN s b a)
     have hs3 := h.v2s (σN f a b) (τN s b a)
     obtain ⟨hf1, hf2⟩ := hf
     obtain ⟨hs1, hs2⟩ := hs2
     rw [← hf1] at hfg
     rw [← hs1] at hsg
     generalize σN f a b = u at *
     generalize τN s b a = v at *
     have hus : u < s.length := by omega
     have hfu := fr' u hf2
     have hsu := sr' u hus
     have hfg2 : (f[u])[v]'(by omega) = v2 f u v := j2a _ _
     have hsg2 : (s[u])[v]'(by omega) = v2 s u v := j2a _ _
     by_cases hx : v2 f u v = a
     · by_cases hy : v2 s u v = b
       · simp [ha, hb, has, hfr, hsr, hfg, hsg, hf2, hs2, hus, hfu, hsu, hfg2, hsg2, hx, hy]
         refine ⟨by omega, fun y hyb => ?_⟩
         rcases Nat.lt_or_ge y b with h3 | h3
         · exact h2 y h3
         · have : y = b := by omega
           subst this
           exact hiv.2 ⟨hx, hy⟩
       · have hn : ¬ isInv f s := fun hh => hy (hiv.1 (hh a ha b hb)).2
         simp [ha, hb, has, hfr, hsr, hfg, hsg, hf2, hs2, hus, hfu, hsu, hfg2, hsg2, hx, hy, j0v hn]
     · have hn : ¬ isInv f s := fun hh => hx (hiv.1 (hh a ha b hb)).1
       simp [ha, hb, has, hfr, hsr, hfg, hsg, hf2, hs2, hfu, hfg2, hx, j0v hn, j0x]
   · rintro e ⟨h2, rfl⟩
     simp
     refine ⟨by omega, fun x hx y hy => ?_⟩
     rcases Nat.lt_or_ge x a with h3 | h3
     · exact h1 x h3 y hy
     · have : x = a := by omega
       subst this
       exact h2 y hy
 · rintro e ⟨h1, rfl⟩
   have hn : isInv f s := fun x hx y hy => h1 x hx y hy
   simp [j03 hn]


end Go.Mch
namespace Go.Mch

def j4e (n : Nat) (r : List Int) : Prop := r.length = n ∧ ∀ v ∈ r, 0 ≤ v ∧ v < n
def TabN (n : Nat) (t : List (List Int)) : Prop := t.length = n ∧ ∀ r ∈ t, j4e n r
abbrev ownL (p : List Int) : T := .mem .own (some 1) (p.map I)
abbrev j1g (t : List (List Int)) : T := .mem .own (some 1) (rows t)
theorem j4e.set {n i : Nat} {r : List Int} {v : Int} (h : j4e n r) (hv : 0 ≤ v ∧ v < n) : j4e n (r.set i v) := by
 refine ⟨by simpa using h.1, fun x hx => ?_⟩
 rcases List.mem_or_eq_of_mem_set hx with h1 | h1
 · exact h.2 x h1
 · rw [h1]; exact hv
theorem j4e.swap {n i j : Nat} {r : List Int} (h : j4e n r) (hd : r.Nodup) (hi : i < r.length) (hj : j < r.length) : j4e n ((r.set i r[j]).set j r[i]) ∧ ((r.set i r[j]).set j r[i]).Nodup :=
 ⟨(h.set (h.2 _ (List.getElem_mem hj))).set (h.2 _ (List.getElem_mem hi)), (List.set_set_perm hi hj).nodup_iff.2 hd⟩
theorem j7h (n : Nat) : j4e n (idL n) ∧ (idL n).Nodup := by
 refine ⟨⟨by simp [idL], fun v hv => ?_⟩, ?_⟩
 · simp only [idL, List.mem_map, List.mem_range] at hv
   obtain ⟨i, hi, rfl⟩ := hv
   omega
 · unfold idL
   exact List.Pairwise.map _ (fun a b h => by omega) List.nodup_range
theorem q0k.at {pg : Pg} (h : q0k pg) {c : Rw Int} {s : Int × Int} (hs : Sr c s) {n : Nat} (hn : 0 < n) : ∃ (s' : Int × Int) (r : Nat), (Sr c s' ∧ r < n) ∧ Call pg 336 [src c s, I n] [src c s', I n] (I r) := by
 obtain ⟨s', r, ⟨g1, g2, g3, _⟩, hc⟩ := h c s n hs
 have g3 := g3 (by omega)
 obtain ⟨i, rfl⟩ : ∃ i : Nat, r = i := ⟨r.toNat, by omega⟩
 exact ⟨s', i, ⟨g1, by omega⟩, hc⟩
def z2l (pg : Pg) : Prop := ∀ (c : Rw Int) (s : Int × Int) (n : Nat), Sr c s → n ≤ 64 → ∃ (s' : Int × Int) (p : List Int), (Sr c s' ∧ j4e n p ∧ p.Nodup) ∧ Call pg 368 [src c s, I n] [src c s', I n] (ownL p)
set_option maxRecDepth 10000 in
theorem t_drw {pg : Pg} (hp : pg.fn 368 = some j4i) (h336 : q0k pg) (h334 : q56 pg) : z2l pg := by
 intro c s n hs hn
 have hfind := Call.q3y (α := (Int × Int) × List Int) (Q := fun Y => Sr c Y.1 ∧ j4e n Y.2 ∧ Y.2.Nodup) (args := [src c s, I n]) (args' := fun Y => [src c Y.1, I n]) (r := fun Y => ownL Y.2) hp rfl (by simp [F.lets, j4i, List.range, List.range.loop]) (by simp [kindOf]) ?_
 · obtain ⟨Y, h1, h2⟩ := hfind
   exact ⟨_, _, h1, h2⟩
 show wp _ _ j4i.body (j59 _ [.t 4] _ _ _) _
 generalize hR : j59 (fun Y : (Int × Int) × List Int => Sr c Y.1 ∧ j4e n Y.2 ∧ Y.2.Nodup) [.t 4] [src c s, I n] (fun Y => [src c Y.1, I n]) (fun Y => ownL Y.2) = R
 simp [j4i]
 refine j0e (h334 n (by omega)) rfl rfl (fun _ => by simp) ?_
 simp
 refine ⟨by omega, ?_⟩
 refine j6m (α := ((Int × Int) × List Int) × Nat) (fun z => z.2) (fun z e => (Sr c z.1.1 ∧ j4e n z.1.2 ∧ z.1.2.Nodup) ∧ z.2 ≤ n ∧ e = fr [(0, some (.val (src c z.1.1))), (1, some (.val (I n))), (5, some (.val (ownL z.1.2))), (6, some (.val (I ((z.2 : Int) - 1))))]) ?_ ((s, idL n), n) _ ⟨⟨hs, (j7h n).1, (j7h n).2⟩, Nat.le_refl _, rfl⟩
 rintro ⟨⟨s1, p⟩, j⟩ e ⟨⟨g1, g2, g3⟩, g4, rfl⟩
 simp only at g1 g2 g3 g4
 by_cases hj : 2 ≤ j
 · obtain ⟨i, rfl⟩ : ∃ i, j = i + 1 := ⟨j - 1, by omega⟩
   obtain ⟨s2, r, ⟨k1, k2⟩, hc⟩ := h336.at g1 (n := i + 1) (by omega)
   have hi : 0 < i := by omega
   have hil : i < p.length := by rw [g2.1]; omega
   have hrl : r < p.length := by rw [g2.1]; omega
   have hsw := g2.swap g3 hil hrl
   simp [hi]
   refine ⟨by omega, ?_⟩
   refine j1k (ts' := [rawB c, I s2.1, H64 s2.2]) (r := I r) (by simpa using hc) ?_
   simp [hil, hrl]
   exact ⟨by omega, by omega, by omega, s2.1, s2.2, (p.set i p[r]).set r p[i], i, by omega, ⟨k1, hsw.1, hsw.2⟩, by omega, by simp only [ownL, List.map_set]⟩
 · have hj' : ¬ (1 : Int) < (j : Int) := by omega
   simp [hj']
   subst hR
   exact ⟨(s1, p), ⟨g1, g2, g3⟩, by simp [post]⟩
theorem j76 (t : List (List Int)) (q : List Int) : rows (t ++ [q]) = rows t ++ [ownL q] := by simp [rows]
theorem TabN.snoc {n k : Nat} {t : List (List Int)} {r : List Int} (h : t.length = k ∧ ∀ r ∈ t, j4e n r) (hr : j4e n r) : (t ++ [r]).length = k + 1 ∧ ∀ x ∈ t ++ [r], j4e n x :=
 ⟨by simp [h.1], fun x hx => by
  rcases List.mem_append.1 hx with h1 | h1
  · exact h.2 x h1
  · rw [List.mem_singleton.1 h1]; exact hr⟩
def w40 (pg : Pg) : Prop := ∀ (c : Rw Int) (s : Int × Int) (n : Nat), Sr c s → 0 < n → n ≤ 64 → ∃ (s' : Int × Int) (t : List (List Int)), (Sr c s' ∧ TabN n t) ∧ Call pg 428 [src c s, I n] [src c s', I n] (j1g t)
set_option maxRecDepth 10000 in
theorem t_tbs {pg : Pg} (hp : pg.fn 428 = some j28) (h336 : q0k pg) (h368 : z2l pg) : w40 pg := by
 intro c s n hs h0 hn
 have hfind := Call.q3y (α := (Int × Int) × List (List Int)) (Q := fun Y => Sr c Y.1 ∧ TabN n Y.2) (args := [src c s, I n]) (args' := fun Y => [src c Y.1, I n]) (r := fun Y => j1g Y.2) hp rfl (by simp [F.lets, j28, List.range, List.range.loop]) (by simp [kindOf]) ?_
 · obtain ⟨Y, h1, h2⟩ := hfind
   exact ⟨_, _, h1, h2⟩
 show wp _ _ j28.body (j59 _ [.t 4] _ _ _) _
 generalize hR : j59 (fun Y : (Int × Int) × List (List Int) => Sr c Y.1 ∧ TabN n Y.2) [.t 4] [src c s, I n] (fun Y => [src c Y.1, I n]) (fun Y => j1g Y.2) = R
 obtain ⟨s1, kd, ⟨k1, _⟩, hc1⟩ := h336.at hs (n := 3) (by omega)
 obtain ⟨s2, p, ⟨k2, k3, _⟩, hc2⟩ := h368 c s1 n k1 hn
 simp [j28]
 refine j1k (ts' := [rawB c, I s1.1, H64 s1.2]) (r := I kd) (by simpa using hc1) ?_
 simp
 refine j1k (ts' := [rawB c, I s2.1, H64 s2.2]) (r := ownL p) (by simpa using hc2) ?_
 simp
 refine j0a (fun k e => ∃ (s3 : Int × Int) (t : List (List Int)), (Sr c s3 ∧ t.length = k ∧ ∀ r ∈ t, j4e n r) ∧ e = fr [(0, some (.val (src c s3))), (1, some (.val (I n))), (5, some (.val (j1g t))), (6, some (.val (I kd))), (7, some (.val (ownL p))), (8, some (.val (I k)))]) n ?_ ?_ 0 _ (by omega) ⟨s2, [], ⟨k2, rfl, by simp⟩, rfl⟩
 · rintro k e hk ⟨s3, t, ⟨g1, g2, g3⟩, rfl⟩
   obtain ⟨s4, q, ⟨j1, j2, _⟩, hc3⟩ := h368 c s3 n g1 hn
   simp [hk]
   refine j1k (ts' := [rawB c, I s4.1, H64 s4.2]) (r := ownL q) (by simpa using hc3) ?_
   simp
   by_cases hk0 : kd = 0
   · simp [hk0]
     refine j0a (fun j e => ∃ (s5 : Int × Int) (q : List Int), (Sr c s5 ∧ j4e n q) ∧ e = fr [(0, some (.val (src c s5))), (1, some (.val (I n))), (5, some (.val (j1g t))), (6, some (.val (I 0))), (7, some (.val (ownL p))), (8, some (.val (I k))), (9, some (.val (ownL q))), (10, some (.val (I j)))]) n ?_ ?_ 0 _ (by omega) ⟨s4, q, ⟨j1, j2⟩, by simp⟩
     · rintro j e hj ⟨s5, q, ⟨i1, i2⟩, rfl⟩
       obtain ⟨s6, r, ⟨m1, m2⟩, hc4⟩ := h336.at i1 (n := n) h0
       have hl : j < q.length := by rw [i2.1]; exact hj
       simp [hj]
       refine j1k (ts' := [rawB c, I s6.1, H64 s6.2]) (r := I r) (by simpa using hc4) ?_
       simp [hl]
       exact ⟨by omega, by omega, s6.1, s6.2, q.set j r, ⟨m1, i2.set ⟨by omega, by omega⟩⟩, by simp only [ownL, List.map_set]⟩
     · rintro e ⟨s5, q, ⟨i1, i2⟩, rfl⟩
       simp
       exact ⟨by unfold roomy; omega, by omega, s5.1, s5.2, t ++ [q], ⟨i1, (TabN.snoc ⟨g2, g3⟩ i2).1, (TabN.snoc ⟨g2, g3⟩ i2).2⟩, by simp only [j1g, j76]⟩
   · by_cases hk1 : kd = 1
     · simp [hk1]
       refine j0a (fun j e => ∃ (q : List Int), j4e n q ∧ e = fr [(0, some (.val (src c s4))), (1, some (.val (I n))), (5, some (.val (j1g t))), (6, some (.val (I 1))), (7, some (.val (ownL p))), (8, some (.val (I k))), (9, some (.val (ownL q))), (11, some (.val (I j)))]) n ?_ ?_ 0 _ (by omega) ⟨q, j2, by simp⟩
       · rintro j e hj ⟨q, i2, rfl⟩
         have hl : j < q.length := by rw [i2.1]; exact hj
         obtain ⟨m, hm, hm2⟩ : ∃ m : Nat, ((k : Int) + j).tmod n = m ∧ m < p.length := ⟨(k + j) % n, by rw [Int.tmod_eq_emod_of_nonneg (by omega), Int.natCast_emod, Int.natCast_add], by rw [k3.1]; exact Nat.mod_lt _ h0⟩
         have hn0 : ¬ n = 0 := by omega
         have hv := k3.2 _ (List.getElem_mem hm2)
         simp [hj, hl, hm, hm2, hn0]
         exact ⟨by omega, by omega, by omega, q.set j p[m], i2.set hv, by simp only [ownL, List.map_set]⟩
       · rintro e ⟨q, i2, rfl⟩
         simp
         exact ⟨by unfold roomy; omega, by omega, s4.1, s4.2, t ++ [q], ⟨j1, (TabN.snoc ⟨g2, g3⟩ i2).1, (TabN.snoc ⟨g2, g3⟩ i2).2⟩, by simp only [j1g, j76]⟩
     · have hk1' : ¬ (kd : Int) = 1 := by omega
       simp [hk0, hk1']
       exact ⟨by unfold roomy; omega, by omega, s4.1, s4.2, t ++ [q], ⟨j1, (TabN.snoc ⟨g2, g3⟩ j2).1, (TabN.snoc ⟨g2, g3⟩ j2).2⟩, by simp only [j1g, j76]⟩
 · rintro e ⟨s3, t, ⟨g1, g2, g3⟩, rfl⟩
   simp
   subst hR
   exact ⟨(s3, t), ⟨g1, g2, g3⟩, by simp [post]⟩
end Go.Mch
namespace Go.Mch

theorem Pm.inL {p : List Int} (h : Pm p) : inN p.length p := h.pm.1
theorem q8b {p : List Int} {x : Nat} (h : x < (invL p).length) : (invL p)[x] = (invQ p x : Int) := by simp [invL]

end Go.Mch
namespace Go.Mch
def imZ (t : List (List Int)) (p : List Int) (a b : Nat) : List (List Int) := tabL t.length fun x y => if invQ p x < a ∨ (invQ p x = a ∧ invQ p y < b) then imG t p x y else 0
@[simp] theorem q2v (t : List (List Int)) (p : List Int) (a b : Nat) : (imZ t p a b).length = t.length := by simp [imZ]
theorem q8c (t : List (List Int)) (p : List Int) (a b : Nat) {i : Nat} (h : i < (imZ t p a b).length) : (imZ t p a b)[i].length = t.length := j4j (by rw [← imZ]; exact List.getElem_mem h)
theorem w39 {t : List (List Int)} {p : List Int} (h : Pm p) (hl : p.length = t.length) (a : Nat) : imZ t p a t.length = imZ t p (a + 1) 0 := by
 apply j73
 intro x y hx hy
 have := h.lt (x := y) (by omega)
 have e : (invQ p x < a ∨ (invQ p x = a ∧ invQ p y < t.length)) ↔ (invQ p x < a + 1 ∨ (invQ p x = a + 1 ∧ invQ p y < 0)) := by omega
 simp only [e]
theorem w4a {t : List (List Int)} {p : List Int} (h : Pm p) (hl : p.length = t.length) : imZ t p t.length 0 = imT t p := by
 apply j73
 intro x y hx hy
 have := h.lt (x := x) (by omega)
 rw [if_pos (by omega)]
theorem w8v {t : List (List Int)} {p : List Int} (h : Pm p) (hl : p.length = t.length) {a b : Nat} (ha : a < p.length) (hb : b < p.length) {P Q : Nat} (hP : (p[a]).toNat = P) (hQ : (p[b]).toNat = Q) (hPl : P < (imZ t p a b).length) :
 (imZ t p a b).set P ((imZ t p a b)[P].set Q (p.getD (v2 t a b).toNat 0)) = imZ t p a (b + 1) := by
 have qP : invQ p P = a := hP ▸ h.back ha
 have qQ : invQ p Q = b := hQ ▸ h.back hb
 have hinj : ∀ x, x < p.length → invQ p x = a → x = P := fun x hx he => by
  have := h.at hx
  rw [he] at this
  simp [ha] at this
  omega
 have hinj2 : ∀ x, x < p.length → invQ p x = b → x = Q := fun x hx he => by
  have := h.at hx
  rw [he] at this
  simp [hb] at this
  omega
 apply List.ext_getElem
 · simp
 · intro i h1 h2
   have hi : i < t.length := by simpa using h2
   rw [List.getElem_set]
   by_cases hiP : P = i
   · subst hiP
     rw [if_pos rfl]
     apply List.ext_getElem
     · simp [q8c]
     · intro j h3 h4
       have hj : j < t.length := by simpa [q8c] using h4
       rw [List.getElem_set]
       simp only [imZ, tabL, List.getElem_map, List.getElem_range]
       by_cases hjQ : Q = j
       · subst hjQ
         rw [if_pos rfl, if_pos (by omega), imG, qP, qQ]
       · rw [if_neg hjQ]
         have : invQ p j ≠ b := fun he => hjQ (hinj2 j (by omega) he).symm
         have e : (invQ p P < a ∨ (invQ p P = a ∧ invQ p j < b)) ↔ (invQ p P < a ∨ (invQ p P = a ∧ invQ p j < b + 1)) := by omega
         simp only [e]
   · rw [if_neg hiP]
     have hne : invQ p i ≠ a := fun he => hiP (hinj i (by omega) he).symm
     simp only [imZ, tabL, List.getElem_map, List.getElem_range]
     refine List.map_congr_left fun j _ => ?_
     have e : (invQ p i < a ∨ (invQ p i = a ∧ invQ p j < b)) ↔ (invQ p i < a ∨ (invQ p i = a ∧ invQ p j < b + 1)) := by omega
     simp only [e]
def zTab (n k : Nat) : List (List Int) := (List.range k).map fun _ => List.replicate n 0
theorem w37 (t : List (List Int)) (p : List Int) : imZ t p 0 0 = zTab t.length t.length := by
 unfold imZ zTab tabL
 refine List.map_congr_left fun x _ => ?_
 apply List.ext_getElem
 · simp
 · intro i h1 h2; simp
theorem w38 {t : List (List Int)} {p : List Int} (h : Pm p) (hl : p.length = t.length) {a b : Nat} (ha : a < p.length) (hb : b < p.length) {P Q : Nat} (hP : (p[a]).toNat = P) (hQ : (p[b]).toNat = Q) :
 (imZ t p a b).set P (((imZ t p a b).getD P []).set Q (p.getD (v2 t a b).toNat 0)) = imZ t p a (b + 1) := by
 have ra := h.inL _ (List.getElem_mem ha)
 have hPl : P < (imZ t p a b).length := by rw [q2v]; omega
 have := w8v h hl ha hb hP hQ hPl
 rw [← this, List.getD_eq_getElem?_getD, List.getElem?_eq_getElem hPl]
 rfl
set_option maxRecDepth 10000 in
theorem w2r {pg : Pg} (hp : pg.fn 367 = some j36) : q8s pg 367 := by
 intro t p ht h hl
 have h12 := h.sm
 have h0 := h.pos
 refine Call.intro hp rfl (by simp) ?_
 show wp _ _ j36.body (post [.t 4] _ _ _) _
 simp [j36]
 refine j0a (fun k e => e = fr [(0, some (.val (tb t))), (1, some (.val (ix p))), (5, some (.val (j1g (zTab t.length k)))), (6, some (.val (I k)))]) t.length ?_ ?_ 0 _ (by omega) ?_
 · rintro k e hk rfl
   have hz : (zTab t.length (k + 1)) = zTab t.length k ++ [List.replicate t.length 0] := by simp [zTab, List.range_succ]
   have hzl : (zTab t.length k).length = k := by simp [zTab]
   rw [hz]
   generalize zTab t.length k = Z at *
   simp [hk]
   exact ⟨by unfold roomy; omega, by unfold roomy; omega, by omega, by simp only [j1g, ownL, j76, List.map_replicate]⟩
 · rintro e rfl
   rw [← w37 t p]
   simp
   refine j0a (fun a e => e = fr [(0, some (.val (tb t))), (1, some (.val (ix p))), (5, some (.val (j1g (imZ t p a 0)))), (7, some (.val (I a)))]) t.length ?_ ?_ 0 _ (by omega) ?_
   · rintro a e ha rfl
     rw [← w39 h hl a]
     have hap : a < p.length := by omega
     have ra := h.inL _ (List.getElem_mem hap)
     have hXl := q2v t p a 0
     have hXr := fun {i : Nat} hi => q8c t p a 0 (i := i) hi
     obtain ⟨P, hP⟩ : ∃ P, p[a] = P := ⟨_, rfl⟩
     rw [hP] at ra
     obtain ⟨P, rfl⟩ : ∃ P' : Nat, P = P' := ⟨P.toNat, by omega⟩
     have hPX : P < (imZ t p a 0).length := by omega
     have hr := hXr hPX
     have hPt : P < t.length := by omega
     have hgr : (rows (imZ t p a 0))[P]? = some (ownL (imZ t p a 0)[P]) := by rw [j6i, List.getElem?_eq_getElem hPX]; rfl
     simp [ha, hap, hP, hPt, hr]
     refine j0a (fun b e => e = fr [(0, some (.val (tb t))), (1, some (.val (ix p))), (5, some (.val (j1g (imZ t p a b)))), (7, some (.val (I a))), (8, some (.sref 5 [P] 1 0 t.length)), (9, some (.val (I b)))]) t.length ?_ ?_ 0 _ (by omega) rfl
     · rintro b e hb rfl
       have hbp : b < p.length := by omega
       have rb := h.inL _ (List.getElem_mem hbp)
       have hXl := q2v t p a b
       have hXr := fun {i : Nat} hi => q8c t p a b (i := i) hi
       obtain ⟨Q, hQ⟩ : ∃ Q, p[b] = Q := ⟨_, rfl⟩
       rw [hQ] at rb
       obtain ⟨Q, rfl⟩ : ∃ Q' : Nat, Q = Q' := ⟨Q.toNat, by omega⟩
       have hset := w38 h hl hap hbp (P := P) (Q := Q) (by rw [hP]; simp) (by rw [hQ]; simp)
       have hrow := ht.row ha
       have hbr : b < (t[a]).length := by rw [hrow]; exact hb
       have hv := j2a ha hbr
       have hv1 := ht.nonneg a b
       have hv2 := ht.lt (by omega) a b
       rw [← hset]
       clear hset
       generalize v2 t a b = v at *
       have hvl : v.toNat < p.length := by omega
       have hvl2 : v < p.length := by omega
       have hg : p[v.toNat] = p.getD v.toNat 0 := by simp [hvl]
       generalize p.getD v.toNat 0 = w at *
       clear hgr hr
       generalize imZ t p a b = X at *
       have hPX' : P < X.length := by omega
       have hr := hXr hPX'
       have hXg : X.getD P [] = X[P] := by simp [hPX']
       rw [hXg]
       have hQX : Q < (X[P]).length := by omega
       have hQt : (Q : Int) < t.length := by omega
       have hQt2 : Q < t.length := by omega
       have hgr : (rows X)[P]? = some (ownL X[P]) := by rw [j6i, List.getElem?_eq_getElem hPX']; rfl
       simp [ha, hb, hbp, hQ, hrow, hv, hvl, hvl2, hv1, hg, hPX', hQX, hQt]
       exact ⟨by omega, by omega, by simp only [j1g, ← j7e hPX']⟩
     · rintro e rfl
       simp
       omega
   · rintro e rfl
     rw [w4a h hl]
     simp
   · simp
 · simp only [zTab, j1g, rows, List.range_zero, List.map_nil]; rfl
def w19 (pg : Pg) : Prop := ∀ (f s : List (List Int)) (p : List Int), Tab f → Tab s → Pm p → p.length = f.length → p.length = s.length → Call pg 422 [sol f s, ix p] [sol f s, ix p] (.agg [j1g (imT f p), j1g (imT s p)])
set_option maxRecDepth 10000 in
theorem v4m {pg : Pg} (hp : pg.fn 422 = some j34) (h367 : q8s pg 367) : w19 pg := by
 intro f s p hf hs h hl hl2
 refine Call.intro hp rfl (by simp) ?_
 show wp _ _ j34.body (post [.cell 4 (some 2)] _ _ _) _
 simp [j34]
 refine j0e (h367 f p hf h hl) rfl rfl (fun _ => by simp) ?_
 simp
 refine j0e (h367 s p hs h hl2) rfl rfl (fun _ => by simp) ?_
 simp
theorem q8d {n : Nat} {t : List (List Int)} {p : List Int} (ht : TabN n t) (hp : Pm p) (hl : p.length = n) : TabN n (imT t p) := by
 have h1 : Tab t := fun r hr => ⟨by rw [(ht.2 r hr).1, ht.1], fun v hv => by rw [ht.1]; exact (ht.2 r hr).2 v hv⟩
 refine ⟨by rw [imT, j8n]; exact ht.1, fun r hr => ⟨by rw [j4j hr]; exact ht.1, fun v hv => ?_⟩⟩
 obtain ⟨x, hx, rfl⟩ := List.mem_map.1 hr
 obtain ⟨y, hy, rfl⟩ := List.mem_map.1 hv
 simp only [List.mem_range] at hx hy
 have hpos := hp.pos
 have a1 := h1.nonneg (invQ p x) (invQ p y)
 have a2 := h1.lt (by rw [ht.1]; omega) (invQ p x) (invQ p y)
 have a3 : (v2 t (invQ p x) (invQ p y)).toNat < p.length := by rw [ht.1] at a2; omega
 have a4 := hp.inL _ (List.getElem_mem a3)
 simp only [imG, List.getD_eq_getElem?_getD, List.getElem?_eq_getElem a3, Option.getD_some]
 omega

def PMN (n : Nat) (f s : List (List Int)) : Prop := TabN n f ∧ TabN n s
abbrev ownS (X : List (List Int) × List (List Int)) : T := .agg [j1g X.1, j1g X.2]
def j6c (X : List (List Int)) : T := if X = [] then nil else j1g X
@[simp] theorem v6u : j6c [] = nil := rfl
theorem j7y {n : Nat} {a : List Int} (h : j4e n a) : ∀ x ∈ [a], j4e n x := fun x hx => by rw [List.mem_singleton.1 hx]; exact h
theorem j5v {n : Nat} {a : List Int} {x : Int} (h : ∀ v ∈ a, 0 ≤ v ∧ v < n) (hx : 0 ≤ x ∧ x < n) : ∀ v ∈ a ++ [x], 0 ≤ v ∧ v < n := fun v hv => by
 rcases List.mem_append.1 hv with h1 | h1
 · exact h v h1
 · rw [List.mem_singleton.1 h1]; exact hx
theorem j2g {X : List (List Int)} {k : Nat} (h : X.length = k) (hk : 0 < k) : j6c X = j1g X := if_neg fun h0 => by rw [h0] at h; simp at h; omega
theorem j6b (X : List (List Int)) (r : List Int) : j6c (X ++ [r]) = .mem .own (some 1) (rows X ++ [ownL r]) := by
 rw [j6c, if_neg (by simp), j1g, j76]
def w2a (pg : Pg) : Prop := ∀ n : Nat, 0 < n → n ≤ 64 → ∃ X : List (List Int) × List (List Int), PMN n X.1 X.2 ∧ Call pg 423 [I n] [I n] (ownS X)
set_option maxRecDepth 10000 in
theorem v4n {pg : Pg} (hp : pg.fn 423 = some j14) : w2a pg := by
 intro n h0 hn
 refine Call.find hp rfl (by simp) ?_
 show wp _ _ j14.body _ _
 generalize hR : (fun (x : X) (e : Env) => ∃ l : List (List Int) × List (List Int), PMN n l.1 l.2 ∧ post j14.rs [I n] [I n] (ownS l) x e) = R
 simp [j14]
 refine j0a (fun k e => ∃ f s : List (List Int), ((f.length = k ∧ ∀ r ∈ f, j4e n r) ∧ s.length = k ∧ ∀ r ∈ s, j4e n r) ∧ e = fr [(0, some (.val (I n))), (2, some (.val (.mem .own none [nil, nil]))), (3, some (.val (.mem .own none [j6c f, j6c s]))), (4, some (.val (I k)))]) n ?_ ?_ 0 _ (by omega) ⟨[], [], ⟨⟨rfl, by simp⟩, rfl, by simp⟩, rfl⟩
 · rintro k e hk ⟨f, s, ⟨⟨g1, g2⟩, g3, g4⟩, rfl⟩
   simp [hk]
   refine j0a (fun j e => ∃ a b : List Int, ((a.length = j ∧ ∀ v ∈ a, 0 ≤ v ∧ v < n) ∧ b.length = j ∧ ∀ v ∈ b, 0 ≤ v ∧ v < n) ∧ e = fr [(0, some (.val (I n))), (2, some (.val (.mem .own none [nil, nil]))), (3, some (.val (.mem .own none [j6c f, j6c s]))), (4, some (.val (I k))), (5, some (.val (ownL a))), (6, some (.val (ownL b))), (7, some (.val (I j)))]) n ?_ ?_ 0 _ (by omega) ⟨[], [], ⟨⟨rfl, by simp⟩, rfl, by simp⟩, rfl⟩
   · rintro j e hj ⟨a, b, ⟨⟨i1, i2⟩, i3, i4⟩, rfl⟩
     obtain ⟨m, hm, hm2⟩ : ∃ m : Nat, ((2 : Int) * k - j + n).tmod n = m ∧ m < n := by
      have h1 : 0 ≤ (2 : Int) * k - j + n := by omega
      refine ⟨((2 : Int) * k - j + n).toNat % n, ?_, Nat.mod_lt _ h0⟩
      rw [Int.tmod_eq_emod_of_nonneg h1, Int.natCast_emod, Int.toNat_of_nonneg h1]
     have hn0 : ¬ n = 0 := by omega
     simp [hj, hm, hn0]
     exact ⟨by omega, by omega, by omega, by unfold roomy; omega, by unfold roomy; omega, by omega, a ++ [(m : Int)], b ++ [(k : Int)], ⟨⟨by simp [i1], j5v i2 (by omega)⟩, by simp [i3], j5v i4 (by omega)⟩, by simp only [ownL, List.map_append, List.map_cons, List.map_nil]⟩
   · rintro e ⟨a, b, ⟨⟨i1, i2⟩, i3, i4⟩, rfl⟩
     by_cases hk0 : k = 0
     · subst hk0
       obtain rfl : f = [] := List.length_eq_zero_iff.1 g1
       obtain rfl : s = [] := List.length_eq_zero_iff.1 g3
       simp
       exact ⟨by unfold roomy; omega, [a], [b], ⟨⟨rfl, j7y ⟨i1, i2⟩⟩, rfl, j7y ⟨i3, i4⟩⟩, rfl⟩
     · rw [j2g g1 (by omega), j2g g3 (by omega)]
       simp
       exact ⟨by unfold roomy; omega, by unfold roomy; omega, by omega, f ++ [a], s ++ [b], ⟨TabN.snoc ⟨g1, g2⟩ ⟨i1, i2⟩, TabN.snoc ⟨g3, g4⟩ ⟨i3, i4⟩⟩, by simp only [j6b]⟩
 · rintro e ⟨f, s, ⟨⟨g1, g2⟩, g3, g4⟩, rfl⟩
   have hf : j6c f = j1g f := if_neg fun h => by rw [h] at g1; simp at g1; omega
   have hs : j6c s = j1g s := if_neg fun h => by rw [h] at g3; simp at g3; omega
   rw [hf, hs]
   simp
   subst hR
   exact ⟨(f, s), ⟨⟨g1, g2⟩, g3, g4⟩, by simp [post, j14]⟩
end Go.Mch
namespace Go.Mch
def z4w (pg : Pg) : Prop := ∀ (n : Nat) (p q : List Int), 0 < n → n ≤ 64 → j4e n p → j4e n q → ∃ X : List (List Int) × List (List Int), (PMN n X.1 X.2 ∧ ∀ r ∈ X.1, r = p) ∧ Call pg 425 [ix p, ix q] [ix p, ix q] (ownS X)
set_option maxRecDepth 10000 in
theorem v4g {pg : Pg} (hp : pg.fn 425 = some j21) (h31 : w2c pg) : z4w pg := by
 intro n p q h0 hn hP hQ
 have hpl := hP.1
 have hql := hQ.1
 refine Call.find hp rfl (by simp) ?_
 show wp _ _ j21.body _ _
 generalize hR : (fun (x : X) (e : Env) => ∃ l : List (List Int) × List (List Int), (PMN n l.1 l.2 ∧ ∀ r ∈ l.1, r = p) ∧ post j21.rs [ix p, ix q] [ix p, ix q] (ownS l) x e) = R
 simp [j21]
 refine j0a (fun k e => ∃ f s : List (List Int), ((f.length = k ∧ ∀ r ∈ f, r = p) ∧ s.length = k ∧ ∀ r ∈ s, j4e n r) ∧ e = fr [(0, some (.val (ix p))), (1, some (.val (ix q))), (4, some (.val (.mem .own none [nil, nil]))), (5, some (.val (.mem .own none [j6c f, j6c s]))), (6, some (.val (I k)))]) n ?_ ?_ 0 _ (by omega) ⟨[], [], ⟨⟨rfl, by simp⟩, rfl, by simp⟩, rfl⟩
 · rintro k e hk ⟨f, s, ⟨⟨g1, g2⟩, g3, g4⟩, rfl⟩
   have hkq : k < q.length := by omega
   have hv := hQ.2 _ (List.getElem_mem hkq)
   simp [hk, hpl]
   refine j0a (fun j e => ∃ b : List Int, (b.length = j ∧ ∀ v ∈ b, 0 ≤ v ∧ v < n) ∧ e = fr [(0, some (.val (ix p))), (1, some (.val (ix q))), (4, some (.val (.mem .own none [nil, nil]))), (5, some (.val (.mem .own none [j6c f, j6c s]))), (6, some (.val (I k))), (7, some (.val (ownL b))), (8, some (.val (I j)))]) n ?_ ?_ 0 _ (by omega) ⟨[], ⟨rfl, by simp⟩, rfl⟩
   · rintro j e hj ⟨b, ⟨i3, i4⟩, rfl⟩
     simp [hj, hpl, hql, hk]
     exact ⟨by unfold roomy; omega, by omega, b ++ [q[k]], ⟨by simp [i3], j5v i4 hv⟩, by simp only [ownL, List.map_append, List.map_cons, List.map_nil]⟩
   · rintro e ⟨b, ⟨i3, i4⟩, rfl⟩
     by_cases hk0 : k = 0
     · subst hk0
       obtain rfl : f = [] := List.length_eq_zero_iff.1 g1
       obtain rfl : s = [] := List.length_eq_zero_iff.1 g3
       simp [hpl]
       refine j0e (h31 p (by omega)) rfl rfl (fun _ => by simp) ?_
       simp
       exact ⟨by unfold roomy; omega, [p], [b], ⟨⟨rfl, by simp⟩, rfl, j7y ⟨i3, i4⟩⟩, rfl⟩
     · rw [j2g g1 (by omega), j2g g3 (by omega)]
       simp [hpl]
       refine j0e (h31 p (by omega)) rfl rfl (fun _ => by simp) ?_
       simp
       exact ⟨by unfold roomy; omega, by unfold roomy; omega, by omega, f ++ [p], s ++ [b], ⟨⟨by simp [g1], fun r hr => by
        rcases List.mem_append.1 hr with h1 | h1
        · exact g2 r h1
        · exact List.mem_singleton.1 h1⟩, TabN.snoc ⟨g3, g4⟩ ⟨i3, i4⟩⟩, by simp only [j6b]⟩
 · rintro e ⟨f, s, ⟨⟨g1, g2⟩, g3, g4⟩, rfl⟩
   rw [j2g g1 h0, j2g g3 h0]
   simp [hpl]
   subst hR
   exact ⟨(f, s), ⟨⟨⟨g1, fun r hr => by rw [g2 r hr]; exact hP⟩, g3, g4⟩, g2⟩, by simp [post, j21]⟩
def w41 (pg : Pg) : Prop := ∀ n : Nat, 0 < n → n ≤ 64 → ∃ X : List (List Int) × List (List Int), (PMN n X.1 X.2 ∧ ∀ r ∈ X.1, r = idL n) ∧ Call pg 449 [I n] [I n] (ownS X)
theorem t_flp {pg : Pg} (hp : pg.fn 449 = some j5e) (h334 : q56 pg) (h425 : z4w pg) : w41 pg := by
 intro n h0 hn
 obtain ⟨X, hX, hc⟩ := h425 n (idL n) (idL n) h0 hn (j7h n).1 (j7h n).1
 refine ⟨X, hX, Call.intro hp rfl (by simp) ?_⟩
 show wp _ _ j5e.body (post [.cell 2 (some 2)] _ _ _) _
 simp [j5e]
 refine j0e (h334 n (by omega)) rfl rfl (fun _ => by simp) ?_
 simp
 refine j0e hc rfl rfl (fun _ => by simp) ?_
 simp
theorem v3w (a m : Nat) : ((a : Int)).tdiv m = ((a / m : Nat) : Int) := by rw [Int.tdiv_eq_ediv_of_nonneg (by omega), Int.natCast_ediv]
theorem v3v (a m : Nat) : ((a : Int)).tmod m = ((a % m : Nat) : Int) := by rw [Int.tmod_eq_emod_of_nonneg (by omega), Int.natCast_emod]
theorem TabN.at {n : Nat} {t : List (List Int)} (h : TabN n t) {i j : Nat} (hi : i < n) (hj : j < n) : ∃ (h1 : i < t.length) (h2 : j < (t[i]).length), (t[i]).length = n ∧ 0 ≤ (t[i])[j] ∧ (t[i])[j] < n := by
 have h1 : i < t.length := by rw [h.1]; exact hi
 have h2 := h.2 _ (List.getElem_mem h1)
 have h3 : j < (t[i]).length := by rw [h2.1]; exact hj
 exact ⟨h1, h3, h2.1, h2.2 _ (List.getElem_mem h3)⟩
theorem mul_lt {n m : Nat} {x y : Int} (h0 : 0 ≤ x) (h1 : x < n) (h2 : 0 ≤ y) (h3 : y < m) (hn : n * m ≤ 64) : 0 ≤ x * m + y ∧ x * m + y < (n * m : Nat) ∧ 0 ≤ x * m ∧ x * m ≤ 64 := by
 obtain ⟨x, rfl⟩ : ∃ x' : Nat, x = x' := ⟨x.toNat, by omega⟩
 obtain ⟨y, rfl⟩ : ∃ y' : Nat, y = y' := ⟨y.toNat, by omega⟩
 have h4 : (x + 1) * m ≤ n * m := Nat.mul_le_mul_right m (by omega)
 have h5 : (x + 1) * m = x * m + m := Nat.succ_mul x m
 have h6 : ((x * m : Nat) : Int) = (x : Int) * m := by simp
 omega
def w9u (pg : Pg) : Prop := ∀ (n m : Nat) (f s f' s' : List (List Int)), 0 < n → 0 < m → n * m ≤ 64 → PMN n f s → PMN m f' s' → ∃ X : List (List Int) × List (List Int), PMN (n * m) X.1 X.2 ∧ Call pg 458 [sol f s, sol f' s'] [sol f s, sol f' s'] (ownS X)
set_option maxRecDepth 10000 in
theorem t_prd {pg : Pg} (hp : pg.fn 458 = some j1z) : w9u pg := by
 intro n m f s f' s' hn0 hm0 hnm hA hB
 have hfl := hA.1.1
 have hsl := hA.2.1
 have hfl' := hB.1.1
 have hsl' := hB.2.1
 have hN : 0 < n * m := Nat.mul_pos hn0 hm0
 obtain ⟨N, hNe⟩ : ∃ N, N = n * m := ⟨_, rfl⟩
 have hNi : (n : Int) * m = N := by rw [hNe]; simp
 have hnl : n ≤ N := by rw [hNe]; exact Nat.le_mul_of_pos_right n hm0
 have hml : m ≤ N := by rw [hNe]; exact Nat.le_mul_of_pos_left m hn0
 rw [← hNe] at hN hnm ⊢
 have hdv : ∀ a, a < N → a / m < n := fun a ha => by rw [hNe, Nat.mul_comm] at ha; exact Nat.div_lt_of_lt_mul ha
 have hmd : ∀ a, a % m < m := fun a => Nat.mod_lt _ hm0
 have hm0' : ¬ (m : Int) = 0 := by omega
 have hm0'' : ¬ m = 0 := by omega
 refine Call.find hp rfl (by simp) ?_
 show wp _ _ j1z.body _ _
 generalize hR : (fun (x : X) (e : Env) => ∃ l : List (List Int) × List (List Int), PMN N l.1 l.2 ∧ post j1z.rs [sol f s, sol f' s'] [sol f s, sol f' s'] (ownS l) x e) = R
 simp [j1z]
 refine j0a (fun k e => ∃ F S : List (List Int), ((F.length = k ∧ ∀ r ∈ F, j4e N r) ∧ S.length = k ∧ ∀ r ∈ S, j4e N r) ∧ e = fr [(2, some (.val (.mem .own none [tb f, tb s]))), (3, some (.val (.mem .own none [tb f', tb s']))), (4, some (.val (.mem .own none [nil, nil]))), (5, some (.val (I n))), (6, some (.val (I m))), (7, some (.val (.mem .own none [j6c F, j6c S]))), (8, some (.val (I k)))]) N ?_ ?_ 0 _ (by omega) ⟨[], [], ⟨⟨rfl, by simp⟩, rfl, by simp⟩, by simp [hfl, hfl']⟩
 · rintro k e hk ⟨F, S, ⟨⟨g1, g2⟩, g3, g4⟩, rfl⟩
   simp [hk, hNi]
   refine ⟨by omega, ?_⟩
   refine j0a (fun j e => ∃ a b : List Int, ((a.length = j ∧ ∀ v ∈ a, 0 ≤ v ∧ v < N) ∧ b.length = j ∧ ∀ v ∈ b, 0 ≤ v ∧ v < N) ∧ e = fr [(2, some (.val (.mem .own none [tb f, tb s]))), (3, some (.val (.mem .own none [tb f', tb s']))), (4, some (.val (.mem .own none [nil, nil]))), (5, some (.val (I n))), (6, some (.val (I m))), (7, some (.val (.mem .own none [j6c F, j6c S]))), (8, some (.val (I k))), (9, some (.val (ownL a))), (10, some (.val (ownL b))), (11, some (.val (I j)))]) N ?_ ?_ 0 _ (by omega) ⟨[], [], ⟨⟨rfl, by simp⟩, rfl, by simp⟩, rfl⟩
   · rintro j e hj ⟨a, b, ⟨⟨i1, i2⟩, i3, i4⟩, rfl⟩
     have q1 := hdv k hk
     have q2 := hdv j hj
     have r1 := hmd k
     have r2 := hmd j
     have d1 := v3w k m
     have d2 := v3w j m
     have d3 := v3v k m
     have d4 := v3v j m
     generalize k / m = A at *
     generalize j / m = B at *
     generalize k % m = C at *
     generalize j % m = D at *
     obtain ⟨u1, u2, u3, u4, u5⟩ := hA.1.at q1 q2
     obtain ⟨v1, v2, v3, v4, v5⟩ := hA.2.at q1 q2
     obtain ⟨x1, x2, x3, x4, x5⟩ := hB.1.at r1 r2
     obtain ⟨y1, y2, y3, y4, y5⟩ := hB.2.at r1 r2
     have m1 := mul_lt u4 u5 x4 x5 (by omega)
     have m2 := mul_lt v4 v5 y4 y5 (by omega)
     rw [← hNe] at m1 m2
     simp [hj, hNi, d1, d2, d3, d4, hm0'', q1, q2, r1, r2, hfl, hsl, hfl', hsl', u3, v3, x3, y3]
     exact ⟨by omega, by omega, by omega, by omega, by omega, by unfold roomy; omega, by omega, by omega, by omega, by omega, by unfold roomy; omega, by omega, a ++ [f[A][B] * m + f'[C][D]], b ++ [s[A][B] * m + s'[C][D]], ⟨⟨by simp [i1], j5v i2 (by omega)⟩, by simp [i3], j5v i4 (by omega)⟩, by simp only [ownL, List.map_append, List.map_cons, List.map_nil]⟩
   · rintro e ⟨a, b, ⟨⟨i1, i2⟩, i3, i4⟩, rfl⟩
     by_cases hk0 : k = 0
     · subst hk0
       obtain rfl : F = [] := List.length_eq_zero_iff.1 g1
       obtain rfl : S = [] := List.length_eq_zero_iff.1 g3
       simp [hNi]
       exact ⟨by omega, by unfold roomy; omega, [a], [b], ⟨⟨rfl, j7y ⟨i1, i2⟩⟩, rfl, j7y ⟨i3, i4⟩⟩, rfl⟩
     · rw [j2g g1 (by omega), j2g g3 (by omega)]
       simp [hNi]
       exact ⟨by omega, by unfold roomy; omega, by unfold roomy; omega, by omega, F ++ [a], S ++ [b], ⟨TabN.snoc ⟨g1, g2⟩ ⟨i1, i2⟩, TabN.snoc ⟨g3, g4⟩ ⟨i3, i4⟩⟩, by simp only [j6b]⟩
 · rintro e ⟨F, S, ⟨⟨g1, g2⟩, g3, g4⟩, rfl⟩
   rw [j2g g1 hN, j2g g3 hN]
   simp [hNi]
   refine ⟨by omega, ?_⟩
   subst hR
   exact ⟨(F, S), ⟨⟨g1, g2⟩, g3, g4⟩, by simp [post, j1z]⟩
def w9q (pg : Pg) : Prop := ∀ (n m : Nat) (f s f' s' : List (List Int)), 0 < n → 0 < m → n + m ≤ 64 → PMN n f s → PMN m f' s' → ∃ X : List (List Int) × List (List Int), PMN (n + m) X.1 X.2 ∧ Call pg 460 [sol f s, sol f' s'] [sol f s, sol f' s'] (ownS X)
set_option maxRecDepth 10000 in
theorem t_uni {pg : Pg} (hp : pg.fn 460 = some j20) : w9q pg := by
 intro n m f s f' s' hn0 hm0 hnm hA hB
 have hfl := hA.1.1
 have hsl := hA.2.1
 have hfl' := hB.1.1
 have hsl' := hB.2.1
 obtain ⟨N, hNe⟩ : ∃ N, N = n + m := ⟨_, rfl⟩
 have hNi : (n : Int) + m = N := by rw [hNe]; simp
 rw [← hNe] at hnm ⊢
 have hN : 0 < N := by omega
 refine Call.find hp rfl (by simp) ?_
 show wp _ _ j20.body _ _
 generalize hR : (fun (x : X) (e : Env) => ∃ l : List (List Int) × List (List Int), PMN N l.1 l.2 ∧ post j20.rs [sol f s, sol f' s'] [sol f s, sol f' s'] (ownS l) x e) = R
 simp [j20]
 refine j0a (fun k e => ∃ F S : List (List Int), ((F.length = k ∧ ∀ r ∈ F, j4e N r) ∧ S.length = k ∧ ∀ r ∈ S, j4e N r) ∧ e = fr [(2, some (.val (.mem .own none [tb f, tb s]))), (3, some (.val (.mem .own none [tb f', tb s']))), (4, some (.val (.mem .own none [nil, nil]))), (5, some (.val (I n))), (6, some (.val (I m))), (7, some (.val (.mem .own none [j6c F, j6c S]))), (8, some (.val (I k)))]) N ?_ ?_ 0 _ (by omega) ⟨[], [], ⟨⟨rfl, by simp⟩, rfl, by simp⟩, by simp [hfl, hfl']⟩
 · rintro k e hk ⟨F, S, ⟨⟨g1, g2⟩, g3, g4⟩, rfl⟩
   simp [hk, hNi]
   refine ⟨by omega, ?_⟩
   refine j0a (fun j e => ∃ a b : List Int, ((a.length = j ∧ ∀ v ∈ a, 0 ≤ v ∧ v < N) ∧ b.length = j ∧ ∀ v ∈ b, 0 ≤ v ∧ v < N) ∧ e = fr [(2, some (.val (.mem .own none [tb f, tb s]))), (3, some (.val (.mem .own none [tb f', tb s']))), (4, some (.val (.mem .own none [nil, nil]))), (5, some (.val (I n))), (6, some (.val (I m))), (7, some (.val (.mem .own none [j6c F, j6c S]))), (8, some (.val (I k))), (9, some (.val (ownL a))), (10, some (.val (ownL b))), (11, some (.val (I j)))]) N ?_ ?_ 0 _ (by omega) ⟨[], [], ⟨⟨rfl, by simp⟩, rfl, by simp⟩, rfl⟩
   · rintro j e hj ⟨a, b, ⟨⟨i1, i2⟩, i3, i4⟩, rfl⟩
     by_cases ck : k < n
     · by_cases cj : j < n
       · obtain ⟨u1, u2, u3, u4, u5⟩ := hA.1.at ck cj
         obtain ⟨v1, v2, v3, v4, v5⟩ := hA.2.at ck cj
         simp [hj, hNi, ck, cj, hfl, hsl, u3, v3]
         exact ⟨by omega, by unfold roomy; omega, by unfold roomy; omega, by omega, a ++ [f[k][j]], b ++ [s[k][j]], ⟨⟨by simp [i1], j5v i2 (by omega)⟩, by simp [i3], j5v i4 (by omega)⟩, by simp only [ownL, List.map_append, List.map_cons, List.map_nil]⟩
       · have ck' : ¬ n ≤ k := by omega
         simp [hj, hNi, ck, cj, ck', j0x]
         exact ⟨by omega, by unfold roomy; omega, by unfold roomy; omega, by omega, a ++ [(j : Int)], b ++ [(k : Int)], ⟨⟨by simp [i1], j5v i2 (by omega)⟩, by simp [i3], j5v i4 (by omega)⟩, by simp only [ownL, List.map_append, List.map_cons, List.map_nil]⟩
     · have ck' : n ≤ k := by omega
       by_cases cj : n ≤ j
       · obtain ⟨A, hAk⟩ : ∃ A : Nat, (k : Int) - n = A := ⟨k - n, by omega⟩
         obtain ⟨B, hBj⟩ : ∃ B : Nat, (j : Int) - n = B := ⟨j - n, by omega⟩
         have cA : A < m := by omega
         have cB : B < m := by omega
         obtain ⟨u1, u2, u3, u4, u5⟩ := hB.1.at cA cB
         obtain ⟨v1, v2, v3, v4, v5⟩ := hB.2.at cA cB
         simp [hj, hNi, ck, ck', cj, cA, cB, hfl', hsl', u3, v3, hAk, hBj, j0x]
         exact ⟨by omega, by omega, by omega, by omega, by unfold roomy; omega, by omega, by omega, by omega, by unfold roomy; omega, by omega, a ++ [f'[A][B] + n], b ++ [s'[A][B] + n], ⟨⟨by simp [i1], j5v i2 (by omega)⟩, by simp [i3], j5v i4 (by omega)⟩, by simp only [ownL, List.map_append, List.map_cons, List.map_nil]⟩
       · simp [hj, hNi, ck, cj, ck', j0x]
         exact ⟨by omega, by unfold roomy; omega, by unfold roomy; omega, by omega, a ++ [(j : Int)], b ++ [(k : Int)], ⟨⟨by simp [i1], j5v i2 (by omega)⟩, by simp [i3], j5v i4 (by omega)⟩, by simp only [ownL, List.map_append, List.map_cons, List.map_nil]⟩
   · rintro e ⟨a, b, ⟨⟨i1, i2⟩, i3, i4⟩, rfl⟩
     by_cases hk0 : k = 0
     · subst hk0
       obtain rfl : F = [] := List.length_eq_zero_iff.1 g1
       obtain rfl : S = [] := List.length_eq_zero_iff.1 g3
       simp [hNi]
       exact ⟨by omega, by unfold roomy; omega, [a], [b], ⟨⟨rfl, j7y ⟨i1, i2⟩⟩, rfl, j7y ⟨i3, i4⟩⟩, rfl⟩
     · rw [j2g g1 (by omega), j2g g3 (by omega)]
       simp [hNi]
       exact ⟨by omega, by unfold roomy; omega, by unfold roomy; omega, by omega, F ++ [a], S ++ [b], ⟨TabN.snoc ⟨g1, g2⟩ ⟨i1, i2⟩, TabN.snoc ⟨g3, g4⟩ ⟨i3, i4⟩⟩, by simp only [j6b]⟩
 · rintro e ⟨F, S, ⟨⟨g1, g2⟩, g3, g4⟩, rfl⟩
   rw [j2g g1 hN, j2g g3 hN]
   simp [hNi]
   refine ⟨by omega, ?_⟩
   subst hR
   exact ⟨(F, S), ⟨⟨g1, g2⟩, g3, g4⟩, by simp [post, j20]⟩
end Go.Mch
namespace Go.Mch
theorem j95 {n : Nat} (h : 0 < n) : TabN n (j7m n n) := by
 refine ⟨by simp [j7m], fun r hr => ?_⟩
 simp only [j7m, List.mem_replicate] at hr
 rw [hr.2]
 refine ⟨by simp, fun v hv => ?_⟩
 simp only [List.mem_replicate] at hv
 omega
theorem TabN.set2 {n i j : Nat} {t : List (List Int)} {v : Int} (h : TabN n t) (hi : i < t.length) (hv : 0 ≤ v ∧ v < n) : TabN n (t.set i (t[i].set j v)) := by
 refine ⟨by simpa using h.1, fun x hx => ?_⟩
 rcases List.mem_or_eq_of_mem_set hx with h1 | h1
 · exact h.2 x h1
 · rw [h1]; exact (h.2 _ (List.getElem_mem hi)).set hv
def w2f (pg : Pg) : Prop := ∀ (n : Nat) (f s : List (List Int)), 0 < n → n ≤ 64 → PMN n f s → ∃ X : List (List Int) × List (List Int), PMN n X.1 X.2 ∧ Call pg 406 [sol f s] [sol f s] (ownS X)
set_option maxRecDepth 10000 in
theorem v4p {pg : Pg} (hp : pg.fn 406 = some j15) (h398 : q6b pg) : w2f pg := by
 intro n f s h0 hn hA
 have hfl := hA.1.1
 have hsl := hA.2.1
 refine Call.find hp rfl (by simp) ?_
 show wp _ _ j15.body _ _
 generalize hR : (fun (x : X) (e : Env) => ∃ l : List (List Int) × List (List Int), PMN n l.1 l.2 ∧ post j15.rs [sol f s] [sol f s] (ownS l) x e) = R
 simp [j15]
 rw [hfl]
 refine j0e (h398 n h0 (by omega)) rfl rfl (fun _ => by simp) ?_
 simp
 refine j0a (fun a e => ∃ F S : List (List Int), PMN n F S ∧ e = fr [(1, some (.val (.mem .own none [tb f, tb s]))), (2, some (.val (.mem .own none [nil, nil]))), (3, some (.val (I n))), (4, some (.val (.mem .own none [j1g F, j1g S]))), (5, some (.val (I a)))]) n ?_ ?_ 0 _ (by omega) ⟨j7m n n, j7m n n, ⟨j95 h0, j95 h0⟩, rfl⟩
 · rintro a e ha ⟨F, S, hX, rfl⟩
   simp [ha]
   refine j0a (fun b e => ∃ F S : List (List Int), PMN n F S ∧ e = fr [(1, some (.val (.mem .own none [tb f, tb s]))), (2, some (.val (.mem .own none [nil, nil]))), (3, some (.val (I n))), (4, some (.val (.mem .own none [j1g F, j1g S]))), (5, some (.val (I a))), (6, some (.val (I b)))]) n ?_ ?_ 0 _ (by omega) ⟨F, S, hX, by simp⟩
   · rintro b e hb ⟨F, S, hX, rfl⟩
     obtain ⟨u1, u2, u3, u4, u5⟩ := hA.1.at ha hb
     obtain ⟨v1, v2, v3, v4, v5⟩ := hA.2.at ha hb
     obtain ⟨P, hP⟩ : ∃ P : Nat, (f[a])[b] = P := ⟨((f[a])[b]).toNat, by omega⟩
     obtain ⟨Q, hQ⟩ : ∃ Q : Nat, (s[a])[b] = Q := ⟨((s[a])[b]).toNat, by omega⟩
     rw [hP] at u4 u5
     rw [hQ] at v4 v5
     have hPn : P < n := by omega
     have hQn : Q < n := by omega
     obtain ⟨x1, x2, x3, _⟩ := hX.1.at hPn hQn
     obtain ⟨y1, y2, y3, _⟩ := hX.2.at hPn hQn
     have w1 := hX.1.1
     have w2 := hX.2.1
     have hg1 : (rows F)[P]? = some (ownL F[P]) := by rw [j6i, List.getElem?_eq_getElem x1]; rfl
     have hg2 : (rows S)[P]? = some (ownL S[P]) := by rw [j6i, List.getElem?_eq_getElem y1]; rfl
     simp [hb, ha, hfl, hsl, u3, v3, hP, hQ, hPn, hQn, x3, y3, w1, w2]
     exact ⟨by omega, by omega, F.set P (F[P].set Q a), S.set P (S[P].set Q b), ⟨hX.1.set2 x1 ⟨by omega, by omega⟩, hX.2.set2 y1 ⟨by omega, by omega⟩⟩, by simp only [j1g, ← j7e x1, ← j7e y1]⟩
   · rintro e ⟨F, S, hX, rfl⟩
     simp
     exact ⟨by omega, F, S, hX, rfl⟩
 · rintro e ⟨F, S, hX, rfl⟩
   simp
   subst hR
   exact ⟨(F, S), hX, by simp [post, j15]⟩
def okR2 (n : Nat) (R : List (List Int)) : Prop := TabN n R ∧ ∀ x y, x < n → y < n → 0 ≤ ixOf (R.getD (v2 R x y).toNat []) x
def w9v (pg : Pg) : Prop := ∀ (n : Nat) (R : List (List Int)), 0 < n → n ≤ 64 → okR2 n R → ∃ X : List (List Int) × List (List Int), PMN n X.1 X.2 ∧ Call pg 461 [tb R] [tb R] (ownS X)
set_option maxRecDepth 10000 in
theorem t_ivl {pg : Pg} (hp : pg.fn 461 = some j1d) (h280 : q8u pg 280) (h69 : q05 pg) : w9v pg := by
 intro n R h0 hn ⟨hA, hI⟩
 have hRl := hA.1
 have hfit : fits R := ⟨by omega, fun r hr => by have := (hA.2 r hr).1; omega⟩
 refine Call.find hp rfl (by simp) ?_
 show wp _ _ j1d.body _ _
 generalize hR : (fun (x : X) (e : Env) => ∃ l : List (List Int) × List (List Int), PMN n l.1 l.2 ∧ post j1d.rs [tb R] [tb R] (ownS l) x e) = Rr
 simp [j1d]
 refine j0e (h280 R hfit) rfl rfl (fun _ => by simp) ?_
 simp
 refine j0a (fun k e => ∃ s : List (List Int), (s.length = k ∧ ∀ r ∈ s, j4e n r) ∧ e = fr [(0, some (.val (tb R))), (2, some (.val (.mem .own none [nil, nil]))), (3, some (.val (.mem .own none [j1g R, j6c s]))), (4, some (.val (I k)))]) n ?_ ?_ 0 _ (by omega) ⟨[], ⟨rfl, by simp⟩, rfl⟩
 · rintro k e hk ⟨s, ⟨g3, g4⟩, rfl⟩
   simp [hk, hRl]
   refine j0a (fun j e => ∃ b : List Int, (b.length = j ∧ ∀ v ∈ b, 0 ≤ v ∧ v < n) ∧ e = fr [(0, some (.val (tb R))), (2, some (.val (.mem .own none [nil, nil]))), (3, some (.val (.mem .own none [j1g R, j6c s]))), (4, some (.val (I k))), (5, some (.val (ownL b))), (6, some (.val (I j)))]) n ?_ ?_ 0 _ (by omega) ⟨[], ⟨rfl, by simp⟩, rfl⟩
   · rintro j e hj ⟨b, ⟨i3, i4⟩, rfl⟩
     obtain ⟨u1, u2, u3, u4, u5⟩ := hA.at hk hj
     have hv := j2a u1 u2
     have hii := hI k j hk hj
     rw [hv] at u4 u5
     obtain ⟨P, hP⟩ : ∃ P : Nat, v2 R k j = P := ⟨(v2 R k j).toNat, by omega⟩
     rw [hP] at hv u4 u5 hii
     have hPn : P < n := by omega
     have hPl : P < R.length := by omega
     have hrow := hA.2 _ (List.getElem_mem hPl)
     have hg : R.getD P [] = R[P] := by simp [hPl]
     rw [Int.toNat_natCast, hg] at hii
     have hle := (j7z R[P] k).2
     have hc := h69 R[P] k (by have := hrow.1; omega)
     generalize ixOf R[P] k = z at *
     simp [hj, hRl, hk, u3, hv, hPn]
     refine j0e hc rfl rfl (fun _ => rfl) ?_
     have hz := hrow.1
     simp
     exact ⟨by unfold roomy; omega, by omega, b ++ [z], ⟨by simp [i3], j5v i4 (by omega)⟩, by simp only [ownL, List.map_append, List.map_cons, List.map_nil]⟩
   · rintro e ⟨b, ⟨i3, i4⟩, rfl⟩
     by_cases hk0 : k = 0
     · subst hk0
       obtain rfl : s = [] := List.length_eq_zero_iff.1 g3
       simp [hRl]
       exact ⟨by unfold roomy; omega, [b], ⟨rfl, j7y ⟨i3, i4⟩⟩, rfl⟩
     · rw [j2g g3 (by omega)]
       simp [hRl]
       exact ⟨by unfold roomy; omega, by omega, s ++ [b], TabN.snoc ⟨g3, g4⟩ ⟨i3, i4⟩, by simp only [j6b]⟩
 · rintro e ⟨s, ⟨g3, g4⟩, rfl⟩
   rw [j2g g3 h0]
   simp [hRl]
   subst hR
   exact ⟨(R, s), ⟨hA, g3, g4⟩, by simp [post, j1d]⟩
theorem z08 {n : Nat} {p q : List Int} (hp : j4e n p) (hq : j4e n q) : j4e n (j31 p q) := by
 refine ⟨by simp [j31, hp.1], fun v hv => ?_⟩
 obtain ⟨x, hx, rfl⟩ := List.mem_map.1 hv
 have h1 := hp.2 x hx
 have h2 : x.toNat < q.length := by rw [hq.1]; omega
 rw [List.getD_eq_getElem?_getD, List.getElem?_eq_getElem h2]
 exact hq.2 _ (List.getElem_mem h2)
def w9r (pg : Pg) : Prop := ∀ (c : Rw Int) (s : Int × Int) (n : Nat), Sr c s → 0 < n → n ≤ 64 → ∃ (s' : Int × Int) (X : List (List Int) × List (List Int)), (Sr c s' ∧ PMN n X.1 X.2) ∧ Call pg 459 [src c s, I n] [src c s', I n] (ownS X)
set_option maxRecDepth 10000 in
theorem t_twd {pg : Pg} (hp : pg.fn 459 = some j1c) (h336 : q0k pg) (h368 : z2l pg) (h334 : q56 pg) (h279 : q7l pg 279) (h425 : z4w pg) : w9r pg := by
 intro c s n hs h0 hn
 have hfind := Call.q3y (α := (Int × Int) × (List (List Int) × List (List Int))) (Q := fun Y => Sr c Y.1 ∧ PMN n Y.2.1 Y.2.2) (args := [src c s, I n]) (args' := fun Y => [src c Y.1, I n]) (r := fun Y => ownS Y.2) hp rfl (by simp [F.lets, j1c, List.range, List.range.loop]) (by simp [kindOf]) ?_
 · obtain ⟨Y, h1, h2⟩ := hfind
   exact ⟨_, _, h1, h2⟩
 show wp _ _ j1c.body (j59 _ _ _ _ _) _
 generalize hR : j59 (fun Y : (Int × Int) × (List (List Int) × List (List Int)) => Sr c Y.1 ∧ PMN n Y.2.1 Y.2.2) j1c.rs [src c s, I n] (fun Y => [src c Y.1, I n]) (fun Y => ownS Y.2) = R
 obtain ⟨s1, p, ⟨k1, k2, _⟩, hc1⟩ := h368 c s n hs hn
 obtain ⟨s2, r, ⟨k3, k3'⟩, hc2⟩ := h336.at k1 (n := 4) (by omega)
 simp [j1c]
 refine j1k (ts' := [rawB c, I s1.1, H64 s1.2]) (r := ownL p) (by simpa using hc1) ?_
 simp
 refine j0e (h334 n (by omega)) rfl rfl (fun _ => by simp) ?_
 simp
 refine j1k (ts' := [rawB c, I s2.1, H64 s2.2]) (r := I r) (by simpa using hc2) ?_
 simp
 refine j6m (α := List Int × Nat) (fun z => z.2) (fun z e => (j4e n z.1 ∧ z.2 ≤ 4) ∧ e = fr [(0, some (.val (src c s2))), (1, some (.val (I n))), (4, some (.val (.mem .own none [nil, nil]))), (5, some (.val (ownL p))), (6, some (.val (ownL z.1))), (7, some (.val (I z.2)))]) ?_ (idL n, r) _ ⟨⟨(j7h n).1, by simp only; omega⟩, rfl⟩
 rintro ⟨q, j⟩ e ⟨⟨g1, g2⟩, rfl⟩
 simp only at g1 g2
 by_cases hj : 0 < j
 · have hql := g1.1
   have hpl := k2.1
   have hc3 := h279 q p (by omega) (by unfold inN; rw [hpl]; exact g1.2)
   simp [hj]
   refine j0e hc3 rfl rfl (fun _ => by simp) ?_
   simp
   exact ⟨by omega, j31 q p, j - 1, by omega, ⟨z08 g1 k2, by omega⟩, by
    have : (j : Int) - 1 = ((j - 1 : Nat) : Int) := by omega
    rw [this]⟩
 · obtain rfl : j = 0 := by omega
   obtain ⟨s3, b, ⟨k4, _⟩, hc4⟩ := h336.at k3 (n := 2) (by omega)
   simp
   refine j1k (ts' := [rawB c, I s3.1, H64 s3.2]) (r := I b) (by simpa using hc4) ?_
   by_cases hb : b = 0
   · obtain ⟨X, ⟨hX, _⟩, hc5⟩ := h425 n p q h0 hn k2 g1
     simp [hb]
     refine j0e hc5 rfl rfl (fun _ => by simp) ?_
     simp
     subst hR
     exact ⟨(s3, X), ⟨k4, hX⟩, by simp [post, j1c]⟩
   · obtain ⟨X, ⟨hX, _⟩, hc5⟩ := h425 n q p h0 hn g1 k2
     simp [hb]
     refine j0e hc5 rfl rfl (fun _ => by simp) ?_
     simp
     subst hR
     exact ⟨(s3, X), ⟨k4, hX⟩, by simp [post, j1c]⟩
end Go.Mch
namespace Go.Mch
abbrev S2 := List (List Int) × List (List Int)
def rw4 : List (List Int) := [[0, 1, 3, 2], [0, 1, 3, 2], [1, 0, 2, 3], [1, 0, 2, 3]]
def rw3 : List (List Int) := [[0, 1, 2], [0, 1, 2], [1, 0, 2]]
theorem v5y : okR2 4 rw4 := by
 refine ⟨⟨rfl, fun r hr => ?_⟩, fun x y hx hy => ?_⟩
 · simp only [rw4, List.mem_cons, List.not_mem_nil, or_false] at hr
   rcases hr with rfl | rfl | rfl | rfl <;> exact ⟨rfl, by decide⟩
 · have : ∀ x < 4, ∀ y < 4, 0 ≤ ixOf (rw4.getD (v2 rw4 x y).toNat []) x := by decide
   exact this x hx y hy
theorem v5z : okR2 3 rw3 := by
 refine ⟨⟨rfl, fun r hr => ?_⟩, fun x y hx hy => ?_⟩
 · simp only [rw3, List.mem_cons, List.not_mem_nil, or_false] at hr
   rcases hr with rfl | rfl | rfl <;> exact ⟨rfl, by decide⟩
 · have : ∀ x < 3, ∀ y < 3, 0 ≤ ixOf (rw3.getD (v2 rw3 x y).toNat []) x := by decide
   exact this x hx y hy
def y1l (pg : Pg) (most : Nat) : Prop := ∀ (c : Rw Int) (s : Int × Int), Sr c s → ∃ (s' : Int × Int) (n : Nat) (X : S2), (Sr c s' ∧ 0 < n ∧ n ≤ most ∧ PMN n X.1 X.2) ∧ Call pg 445 [src c s, I most] [src c s', I most] (ownS X)
def w93 (pg : Pg) : Prop := ∀ most : Nat, 0 < most → most ≤ 12 → y1l pg most
set_option maxRecDepth 10000 in
theorem t_any {pg : Pg} (hp : pg.fn 445 = some j3g) (h336 : q0k pg) (h449 : w41 pg) (h423 : w2a pg) (h458 : w9u pg) (h459 : w9r pg) (h460 : w9q pg) (h461 : w9v pg) (h406 : w2f pg) : w93 pg := by
 intro most
 induction most using Nat.strongRecOn with
 | _ most ih =>
 intro m0 m12 c s hs
 have hfind := Call.q3y (α := (Int × Int) × Nat × S2) (Q := fun Y => Sr c Y.1 ∧ 0 < Y.2.1 ∧ Y.2.1 ≤ most ∧ PMN Y.2.1 Y.2.2.1 Y.2.2.2) (args := [src c s, I most]) (args' := fun Y => [src c Y.1, I most]) (r := fun Y => ownS Y.2.2) hp rfl (by simp [F.lets, j3g, List.range, List.range.loop]) (by simp [kindOf]) ?_
 · obtain ⟨Y, h1, h2⟩ := hfind
   exact ⟨_, _, _, h1, h2⟩
 show wp _ _ j3g.body (j59 _ _ _ _ _) _
 generalize hR : j59 (fun Y : (Int × Int) × Nat × S2 => Sr c Y.1 ∧ 0 < Y.2.1 ∧ Y.2.1 ≤ most ∧ PMN Y.2.1 Y.2.2.1 Y.2.2.2) j3g.rs [src c s, I most] (fun Y => [src c Y.1, I most]) (fun Y => ownS Y.2.2) = R
 have hfin : ∀ (s' : Int × Int) (k : Nat) (X : S2), Sr c s' → 0 < k → k ≤ most → PMN k X.1 X.2 → R .ret (fr [(0, some (.val (src c s'))), (1, some (.val (I most))), (4, some (.val (.mem .own none [j1g X.1, j1g X.2])))]) := by
  intro s' k X a1 a2 a3 a4
  subst hR
  exact ⟨(s', k, X), ⟨a1, a2, a3, a4⟩, by simp [post, j3g]⟩
 obtain ⟨s1, r1, ⟨k1, k2⟩, hc1⟩ := h336.at hs (n := most) m0
 obtain ⟨s2, kd, ⟨k3, k4⟩, hc2⟩ := h336.at k1 (n := 8) (by omega)
 obtain ⟨n, hn⟩ : ∃ n : Nat, (1 : Int) + r1 = n := ⟨1 + r1, by omega⟩
 have hn0 : 0 < n := by omega
 have hnm : n ≤ most := by omega
 simp [j3g]
 refine j1k (ts' := [rawB c, I s1.1, H64 s1.2]) (r := I r1) (by simpa using hc1) ?_
 simp [hn]
 refine ⟨by omega, ?_⟩
 refine j1k (ts' := [rawB c, I s2.1, H64 s2.2]) (r := I kd) (by simpa using hc2) ?_
 obtain ⟨sL, XL, ⟨jL1, jL2⟩, hcL⟩ := h459 c s2 n k3 hn0 (by omega)
 simp
 rcases (by omega : kd = 0 ∨ kd = 1 ∨ kd = 2 ∨ kd = 3 ∨ kd = 4 ∨ kd = 5 ∨ kd = 6 ∨ kd = 7) with rfl | rfl | rfl | rfl | rfl | rfl | rfl | rfl
 · obtain ⟨X, ⟨hX, _⟩, hc⟩ := h449 n hn0 (by omega)
   simp
   refine j0e hc rfl rfl (fun _ => by simp) ?_
   simp
   exact hfin s2 n X k3 hn0 hnm hX
 · obtain ⟨X, hX, hc⟩ := h423 n hn0 (by omega)
   simp
   refine j0e hc rfl rfl (fun _ => by simp) ?_
   simp
   exact hfin s2 n X k3 hn0 hnm hX
 · obtain ⟨q, hq, hq2⟩ : ∃ q : Nat, (n : Int) / 2 = q ∧ q = n / 2 := ⟨n / 2, by omega, rfl⟩
   have e1 : (n : Int).tmod 2 = (n : Int) % 2 := by rw [Int.tmod_eq_emod_of_nonneg (by omega)]
   by_cases h4 : 4 ≤ n
   · have h4' : (4 : Int) ≤ n := by omega
     by_cases hev : (n : Int) % 2 = 0
     · obtain ⟨s3, X, ⟨j1, j2⟩, hc3⟩ := h459 c s2 q k3 (by omega) (by omega)
       obtain ⟨s4, Y, ⟨j3, j4⟩, hc4⟩ := h459 c s3 2 j1 (by omega) (by omega)
       obtain ⟨Z, hZ, hc5⟩ := h458 q 2 X.1 X.2 Y.1 Y.2 (by omega) (by omega) (by omega) j2 j4
       rw [show q * 2 = n by omega] at hZ
       simp [h4', hev, e1, hq]
       refine ⟨by omega, ?_⟩
       refine j1k (ts' := [rawB c, I s3.1, H64 s3.2]) (r := ownS X) (by simpa using hc3) ?_
       simp
       refine j1k (ts' := [rawB c, I s4.1, H64 s4.2]) (r := ownS Y) (by simpa using hc4) ?_
       simp
       refine j0e hc5 rfl rfl (fun _ => by simp) ?_
       simp
       exact hfin s4 n Z j3 hn0 hnm hZ
     · simp [h4', hev, e1]
       refine j1k (ts' := [rawB c, I sL.1, H64 sL.2]) (r := ownS XL) (by simpa using hcL) ?_
       simp
       exact hfin sL n XL jL1 hn0 hnm jL2
   · have h4' : ¬ (4 : Int) ≤ n := by omega
     simp [h4', j0x]
     refine j1k (ts' := [rawB c, I sL.1, H64 sL.2]) (r := ownS XL) (by simpa using hcL) ?_
     simp
     exact hfin sL n XL jL1 hn0 hnm jL2
 · by_cases h2 : 2 ≤ n
   · have h2' : (2 : Int) ≤ n := by omega
     obtain ⟨n1, hn1⟩ : ∃ n1 : Nat, (n : Int) - 1 = n1 := ⟨n - 1, by omega⟩
     obtain ⟨s3, r3, ⟨j1, j2⟩, hc3⟩ := h336.at k3 (n := n1) (by omega)
     obtain ⟨m, hm⟩ : ∃ m : Nat, (1 : Int) + r3 = m := ⟨1 + r3, by omega⟩
     obtain ⟨d, hd⟩ : ∃ d : Nat, (n : Int) - m = d := ⟨n - m, by omega⟩
     obtain ⟨s4, k, X, ⟨j3, j4, j5, j6⟩, hc4⟩ := ih m (by omega) (by omega) (by omega) c s3 j1
     obtain ⟨s5, Y, ⟨j7, j8⟩, hc5⟩ := h459 c s4 d j3 (by omega) (by omega)
     obtain ⟨Z, hZ, hc6⟩ := h460 k d X.1 X.2 Y.1 Y.2 j4 (by omega) (by omega) j6 j8
     simp [h2', hn1]
     refine ⟨by omega, ?_⟩
     refine j1k (ts' := [rawB c, I s3.1, H64 s3.2]) (r := I r3) (by simpa using hc3) ?_
     simp [hm]
     refine ⟨by omega, ?_⟩
     refine j1k (ts' := [rawB c, I s4.1, H64 s4.2]) (r := ownS X) (by simpa using hc4) ?_
     simp [hd]
     refine ⟨by omega, ?_⟩
     refine j1k (ts' := [rawB c, I s5.1, H64 s5.2]) (r := ownS Y) (by simpa using hc5) ?_
     simp
     refine j0e hc6 rfl rfl (fun _ => by simp) ?_
     simp
     exact hfin s5 (k + d) Z j7 (by omega) (by omega) hZ
   · have h2' : ¬ (2 : Int) ≤ n := by omega
     simp [h2']
     refine j1k (ts' := [rawB c, I sL.1, H64 sL.2]) (r := ownS XL) (by simpa using hcL) ?_
     simp
     exact hfin sL n XL jL1 hn0 hnm jL2
 · by_cases h4 : 4 ≤ most
   · have h4' : (4 : Int) ≤ most := by omega
     obtain ⟨Z, hZ, hc6⟩ := h461 4 rw4 (by omega) (by omega) v5y
     simp [h4']
     refine j0e hc6 rfl rfl (fun _ => by simp) ?_
     simp
     exact hfin s2 4 Z k3 (by omega) (by omega) hZ
   · have h4' : ¬ (4 : Int) ≤ most := by omega
     simp [h4']
     refine j1k (ts' := [rawB c, I sL.1, H64 sL.2]) (r := ownS XL) (by simpa using hcL) ?_
     simp
     exact hfin sL n XL jL1 hn0 hnm jL2
 · by_cases h2 : 2 ≤ n
   · have h2' : (2 : Int) ≤ n := by omega
     obtain ⟨X, hX, hc⟩ := h423 n hn0 (by omega)
     obtain ⟨Z, hZ, hc6⟩ := h406 n X.1 X.2 hn0 (by omega) hX
     simp [h2']
     refine j0e hc rfl rfl (fun _ => by simp) ?_
     simp
     refine j0e hc6 rfl rfl (fun _ => by simp) ?_
     simp
     exact hfin s2 n Z k3 hn0 hnm hZ
   · have h2' : ¬ (2 : Int) ≤ n := by omega
     simp [h2']
     refine j1k (ts' := [rawB c, I sL.1, H64 sL.2]) (r := ownS XL) (by simpa using hcL) ?_
     simp
     exact hfin sL n XL jL1 hn0 hnm jL2
 · by_cases h4 : 3 ≤ most
   · have h4' : (3 : Int) ≤ most := by omega
     obtain ⟨Z, hZ, hc6⟩ := h461 3 rw3 (by omega) (by omega) v5z
     simp [h4']
     refine j0e hc6 rfl rfl (fun _ => by simp) ?_
     simp
     exact hfin s2 3 Z k3 (by omega) (by omega) hZ
   · have h4' : ¬ (3 : Int) ≤ most := by omega
     simp [h4']
     refine j1k (ts' := [rawB c, I sL.1, H64 sL.2]) (r := ownS XL) (by simpa using hcL) ?_
     simp
     exact hfin sL n XL jL1 hn0 hnm jL2
 · simp
   refine j1k (ts' := [rawB c, I sL.1, H64 sL.2]) (r := ownS XL) (by simpa using hcL) ?_
   simp
   exact hfin sL n XL jL1 hn0 hnm jL2
end Go.Mch
namespace Go.Mch
theorem TabN.tab {n : Nat} {t : List (List Int)} (h : TabN n t) : Tab t := fun r hr => ⟨by rw [(h.2 r hr).1, h.1], fun v hv => by rw [h.1]; exact (h.2 r hr).2 v hv⟩
theorem w3p {n : Nat} {p : List Int} (h : j4e n p) (hd : p.Nodup) (h0 : 0 < n) (h12 : n ≤ 12) : Pm p := by
 have hl := h.1
 exact ⟨⟨fun x hx => by rw [hl]; exact h.2 x hx, hd⟩, by omega, by omega⟩
def w42 (pg : Pg) : Prop := ∀ (c : Rw Int) (s : Int × Int) (most : Nat), Sr c s → 0 < most → most ≤ 12 → ∃ (s' : Int × Int) (n : Nat) (X : S2), (Sr c s' ∧ 0 < n ∧ n ≤ most ∧ PMN n X.1 X.2) ∧ Call pg 412 [src c s, I most] [src c s', I most] (ownS X)
set_option maxRecDepth 10000 in
theorem t_dr2 {pg : Pg} (hp : pg.fn 412 = some j2u) (h336 : q0k pg) (h445 : w93 pg) (h368 : z2l pg) (h422 : w19 pg) : w42 pg := by
 intro c s most hs m0 m12
 have hfind := Call.q3y (α := (Int × Int) × Nat × S2) (Q := fun Y => Sr c Y.1 ∧ 0 < Y.2.1 ∧ Y.2.1 ≤ most ∧ PMN Y.2.1 Y.2.2.1 Y.2.2.2) (args := [src c s, I most]) (args' := fun Y => [src c Y.1, I most]) (r := fun Y => ownS Y.2.2) hp rfl (by simp [F.lets, j2u, List.range, List.range.loop]) (by simp [kindOf]) ?_
 · obtain ⟨Y, h1, h2⟩ := hfind
   exact ⟨_, _, _, h1, h2⟩
 show wp _ _ j2u.body (j59 _ _ _ _ _) _
 generalize hR : j59 (fun Y : (Int × Int) × Nat × S2 => Sr c Y.1 ∧ 0 < Y.2.1 ∧ Y.2.1 ≤ most ∧ PMN Y.2.1 Y.2.2.1 Y.2.2.2) j2u.rs [src c s, I most] (fun Y => [src c Y.1, I most]) (fun Y => ownS Y.2.2) = R
 have hfin : ∀ (s' : Int × Int) (k : Nat) (X : S2), Sr c s' → 0 < k → k ≤ most → PMN k X.1 X.2 → R .ret (fr [(0, some (.val (src c s'))), (1, some (.val (I most))), (4, some (.val (.mem .own none [j1g X.1, j1g X.2])))]) := by
  intro s' k X a1 a2 a3 a4
  subst hR
  exact ⟨(s', k, X), ⟨a1, a2, a3, a4⟩, by simp [post, j2u]⟩
 obtain ⟨s1, n, X, ⟨k1, k2, k3, k4⟩, hc1⟩ := h445 most m0 m12 c s hs
 obtain ⟨s2, r, ⟨k5, _⟩, hc2⟩ := h336.at k1 (n := 4) (by omega)
 obtain ⟨s3, p, ⟨k6, k7, k8⟩, hc3⟩ := h368 c s2 n k5 (by omega)
 have hpm := w3p k7 k8 k2 (by omega)
 have hl1 := k4.1.1
 have hc4 := h422 X.1 X.2 p k4.1.tab k4.2.tab hpm (by rw [k7.1, k4.1.1]) (by rw [k7.1, k4.2.1])
 simp [j2u]
 refine j1k (ts' := [rawB c, I s1.1, H64 s1.2]) (r := ownS X) (by simpa using hc1) ?_
 simp
 refine j1k (ts' := [rawB c, I s2.1, H64 s2.2]) (r := I r) (by simpa using hc2) ?_
 by_cases hr : 0 < r
 · have hl2 := k4.2.1
   simp [hr, hl1, hl2]
   refine j1k (ts' := [rawB c, I s3.1, H64 s3.2]) (r := ownL p) (by simpa using hc3) ?_
   simp [hl1, hl2]
   refine j0e hc4 rfl rfl (fun _ => by simp) ?_
   simp
   exact hfin s3 n (imT X.1 p, imT X.2 p) k6 k2 k3 ⟨q8d k4.1 hpm k7.1, q8d k4.2 hpm k7.1⟩
 · simp [hr]
   exact hfin s2 n X k5 k2 k3 k4
theorem q1f (t : List (List Int)) (i : Nat) (r : List Int) : (rows t).set i (ownL r) = rows (t.set i r) := by simp [rows, List.map_set]
def Bd (t : List (List Int)) : Prop := t.length ≤ 20 ∧ ∀ r ∈ t, r.length ≤ 20
theorem TabN.bd {n : Nat} {t : List (List Int)} (h : TabN n t) (hn : n ≤ 20) : Bd t := ⟨by rw [h.1]; exact hn, fun r hr => by rw [(h.2 r hr).1]; exact hn⟩
theorem Bd.set {t : List (List Int)} (h : Bd t) {i : Nat} {r : List Int} (hr : r.length ≤ 20) : Bd (t.set i r) := ⟨by simpa using h.1, fun x hx => by
 rcases List.mem_or_eq_of_mem_set hx with h1 | h1
 · exact h.2 x h1
 · rw [h1]; exact hr⟩
def w92 (pg : Pg) : Prop := ∀ (c : Rw Int) (s : Int × Int) (n : Nat), Sr c s → 0 < n → n ≤ 12 → ∃ (s' : Int × Int) (t : List (List Int)), (Sr c s' ∧ Bd t) ∧ Call pg 413 [src c s, I n] [src c s', I n] (j1g t)
set_option maxRecDepth 10000 in
theorem t_bad {pg : Pg} (hp : pg.fn 413 = some j3i) (h336 : q0k pg) (h428 : w40 pg) (h334 : q56 pg) (h292 : q7n pg) : w92 pg := by
 intro c s n hs n0 n12
 have hfind := Call.q3y (α := (Int × Int) × List (List Int)) (Q := fun Y => Sr c Y.1 ∧ Bd Y.2) (args := [src c s, I n]) (args' := fun Y => [src c Y.1, I n]) (r := fun Y => j1g Y.2) hp rfl (by simp [F.lets, j3i, List.range, List.range.loop]) (by simp [kindOf]) ?_
 · obtain ⟨Y, h1, h2⟩ := hfind
   exact ⟨_, _, h1, h2⟩
 show wp _ _ j3i.body (j59 _ _ _ _ _) _
 generalize hR : j59 (fun Y : (Int × Int) × List (List Int) => Sr c Y.1 ∧ Bd Y.2) j3i.rs [src c s, I n] (fun Y => [src c Y.1, I n]) (fun Y => j1g Y.2) = R
 have hfin : ∀ (s' : Int × Int) (t : List (List Int)), Sr c s' → Bd t → R .ret (fr [(0, some (.val (src c s'))), (1, some (.val (I n))), (4, some (.val (j1g t)))]) := by
  intro s' X a1 a2
  subst hR
  exact ⟨(s', X), ⟨a1, a2⟩, by simp [post, j3i]⟩
 obtain ⟨s1, t, ⟨k1, k2⟩, hc1⟩ := h428 c s n hs n0 (by omega)
 obtain ⟨s2, kd, ⟨k3, k3'⟩, hc2⟩ := h336.at k1 (n := 30) (by omega)
 have hbd := k2.bd (by omega)
 have htl := k2.1
 have ht0 : 0 < t.length := by omega
 have hrow0 := (k2.2 _ (List.getElem_mem ht0)).1
 have hg : (rows t)[0]? = some (ownL t[0]) := by rw [j6i, List.getElem?_eq_getElem ht0]; rfl
 simp [j3i]
 refine j1k (ts' := [rawB c, I s1.1, H64 s1.2]) (r := j1g t) (by simpa using hc1) ?_
 simp
 refine j1k (ts' := [rawB c, I s2.1, H64 s2.2]) (r := I kd) (by simpa using hc2) ?_
 simp
 rcases (by omega : kd = 0 ∨ kd = 1 ∨ kd = 2 ∨ kd = 3 ∨ kd = 4 ∨ 5 ≤ kd) with rfl | rfl | rfl | rfl | rfl | hk
 · simp
   refine j0e (h334 n (by omega)) rfl rfl (fun _ => by simp) ?_
   simp
   have := hfin s2 (t ++ [idL n]) k3 ⟨by simp; omega, fun r hr => by
    rcases List.mem_append.1 hr with h1 | h1
    · exact hbd.2 r h1
    · rw [List.mem_singleton.1 h1]; simp [idL]; omega⟩
   exact ⟨by unfold roomy; omega, by simpa only [j1g, j76] using this⟩
 · simp [ht0]
   have := hfin s2 (t.set 0 (t[0] ++ [0])) k3 (hbd.set (by simp; omega))
   exact ⟨by unfold roomy; omega, by omega, by simpa only [j1g, ← q1f, ownL, List.map_append, List.map_cons, List.map_nil] using this⟩
 · obtain ⟨s3, z, ⟨j1, _⟩, hc3⟩ := h292 c s2 [-1, n, 1099511627776] k3 (by simp) (by simp)
   simp [ht0]
   simp only [ix, List.map_cons, List.map_nil] at hc3
   refine j1k (ts' := [rawB c, I s3.1, H64 s3.2]) (r := I z) (by simpa using hc3) ?_
   have ht00 : 0 < t[0].length := by omega
   simp [ht0, ht00]
   have := hfin s3 (t.set 0 (t[0].set 0 z)) j1 (hbd.set (by simp; omega))
   exact ⟨by omega, by simpa only [j1g, ← q1f, ownL, List.map_set] using this⟩
 · simp
   exact hfin s2 [] k3 ⟨by simp, by simp⟩
 · obtain ⟨s3, t', ⟨j1, j2⟩, hc3⟩ := h428 c s2 13 k3 (by omega) (by omega)
   simp
   refine j1k (ts' := [rawB c, I s3.1, H64 s3.2]) (r := j1g t') (by simpa using hc3) ?_
   simp
   exact hfin s3 t' j1 (j2.bd (by omega))
 · have h1 : ¬ kd = 0 := by omega
   have h2 : ¬ (kd : Int) = 1 := by omega
   have h3 : ¬ (kd : Int) = 2 := by omega
   have h4 : ¬ (kd : Int) = 3 := by omega
   have h5 : ¬ (kd : Int) = 4 := by omega
   simp [h1, h2, h3, h4, h5]
   exact hfin s2 t k3 hbd
def z2h (pg : Pg) (f : Nat) : Prop := ∀ (c : Rw Int) (s : Int × Int) (most : Nat), Sr c s → 0 < most → most ≤ 12 → ∃ (s' : Int × Int) (X : S2), (Sr c s' ∧ Bd X.1 ∧ Bd X.2) ∧ Call pg f [src c s, I most] [src c s', I most] (ownS X)
set_option maxRecDepth 10000 in
theorem t_spl {pg : Pg} (hp : pg.fn 379 = some j2e) (h336 : q0k pg) (h412 : w42 pg) (h368 : z2l pg) (h428 : w40 pg) (h413 : w92 pg) : z2h pg 379 := by
 intro c s most hs m0 m12
 have hfind := Call.q3y (α := (Int × Int) × S2) (Q := fun Y => Sr c Y.1 ∧ Bd Y.2.1 ∧ Bd Y.2.2) (args := [src c s, I most]) (args' := fun Y => [src c Y.1, I most]) (r := fun Y => ownS Y.2) hp rfl (by simp [F.lets, j2e, List.range, List.range.loop]) (by simp [kindOf]) ?_
 · obtain ⟨Y, h1, h2⟩ := hfind
   exact ⟨_, _, h1, h2⟩
 show wp _ _ j2e.body (j59 _ _ _ _ _) _
 generalize hR : j59 (fun Y : (Int × Int) × S2 => Sr c Y.1 ∧ Bd Y.2.1 ∧ Bd Y.2.2) j2e.rs [src c s, I most] (fun Y => [src c Y.1, I most]) (fun Y => ownS Y.2) = R
 have hfin : ∀ (s' : Int × Int) (X : S2), Sr c s' → Bd X.1 → Bd X.2 → R .ret (fr [(0, some (.val (src c s'))), (1, some (.val (I most))), (4, some (.val (.mem .own none [j1g X.1, j1g X.2])))]) := by
  intro s' X a1 a2 a3
  subst hR
  exact ⟨(s', X), ⟨a1, a2, a3⟩, by simp [post, j2e]⟩
 obtain ⟨s1, n, X, ⟨k1, n0, nm, hX⟩, hc1⟩ := h412 c s most hs m0 m12
 obtain ⟨s2, kd, ⟨k3, k3'⟩, hc2⟩ := h336.at k1 (n := 24) (by omega)
 have hb1 := hX.1.bd (by omega)
 have hb2 := hX.2.bd (by omega)
 have hl1 := hX.1.1
 have hl2 := hX.2.1
 simp [j2e]
 refine j1k (ts' := [rawB c, I s1.1, H64 s1.2]) (r := ownS X) (by simpa using hc1) ?_
 simp [hl1]
 refine j1k (ts' := [rawB c, I s2.1, H64 s2.2]) (r := I kd) (by simpa using hc2) ?_
 simp
 rcases (by omega : kd = 0 ∨ kd = 1 ∨ kd = 2 ∨ kd = 3 ∨ kd = 4 ∨ 5 ≤ kd) with rfl | rfl | rfl | rfl | rfl | hk
 · obtain ⟨s3, a, ⟨j1, j2⟩, hc3⟩ := h336.at k3 (n := n) n0
   obtain ⟨s4, p, ⟨j3, j4, _⟩, hc4⟩ := h368 c s3 n j1 (by omega)
   simp [hl1]
   refine j1k (ts' := [rawB c, I s3.1, H64 s3.2]) (r := I a) (by simpa using hc3) ?_
   simp
   refine j1k (ts' := [rawB c, I s4.1, H64 s4.2]) (r := ownL p) (by simpa using hc4) ?_
   simp [hl1, j2]
   have := hfin s4 (X.1.set a p, X.2) j3 (hb1.set (by rw [j4.1]; omega)) hb2
   exact ⟨by omega, by simpa only [j1g, ← q1f, ownL] using this⟩
 · obtain ⟨s3, a, ⟨j1, j2⟩, hc3⟩ := h336.at k3 (n := n) n0
   obtain ⟨s4, b, ⟨j3, j4⟩, hc4⟩ := h336.at j1 (n := n) n0
   obtain ⟨s5, z, ⟨j5, j6⟩, hc5⟩ := h336.at j3 (n := n) n0
   have ha : a < X.2.length := by omega
   have hrow := (hX.2.2 _ (List.getElem_mem ha)).1
   have hg : (rows X.2)[a]? = some (ownL X.2[a]) := by rw [j6i, List.getElem?_eq_getElem ha]; rfl
   simp [hl2]
   refine j1k (ts' := [rawB c, I s3.1, H64 s3.2]) (r := I a) (by simpa using hc3) ?_
   simp [hl2, j2, hrow]
   refine j1k (ts' := [rawB c, I s4.1, H64 s4.2]) (r := I b) (by simpa using hc4) ?_
   simp
   refine j1k (ts' := [rawB c, I s5.1, H64 s5.2]) (r := I z) (by simpa using hc5) ?_
   simp [hl2, j2, j4, hrow]
   have := hfin s5 (X.1, X.2.set a (X.2[a].set b z)) j5 hb1 (hb2.set (by rw [List.length_set, hrow]; omega))
   exact ⟨by omega, by simpa only [j1g, ← q1f, ownL, List.map_set] using this⟩
 · obtain ⟨s3, f, ⟨j1, j2⟩, hc3⟩ := h428 c s2 n k3 n0 (by omega)
   obtain ⟨s4, g, ⟨j3, j4⟩, hc4⟩ := h428 c s3 n j1 n0 (by omega)
   simp
   refine j1k (ts' := [rawB c, I s3.1, H64 s3.2]) (r := j1g f) (by simpa using hc3) ?_
   simp
   refine j1k (ts' := [rawB c, I s4.1, H64 s4.2]) (r := j1g g) (by simpa using hc4) ?_
   simp
   exact hfin s4 (f, g) j3 (j2.bd (by omega)) (j4.bd (by omega))
 · obtain ⟨s3, t', ⟨j1, j2⟩, hc3⟩ := h413 c s2 n k3 n0 (by omega)
   simp
   refine j1k (ts' := [rawB c, I s3.1, H64 s3.2]) (r := j1g t') (by simpa using hc3) ?_
   simp
   exact hfin s3 (X.1, t') j1 hb1 j2
 · obtain ⟨s3, t', ⟨j1, j2⟩, hc3⟩ := h413 c s2 n k3 n0 (by omega)
   simp
   refine j1k (ts' := [rawB c, I s3.1, H64 s3.2]) (r := j1g t') (by simpa using hc3) ?_
   simp
   exact hfin s3 (t', X.2) j1 j2 hb2
 · have h1 : ¬ kd = 0 := by omega
   have h2 : ¬ (kd : Int) = 1 := by omega
   have h3 : ¬ (kd : Int) = 2 := by omega
   have h4 : ¬ (kd : Int) = 3 := by omega
   have h5 : ¬ (kd : Int) = 4 := by omega
   simp [h1, h2, h3, h4, h5]
   exact hfin s2 X k3 hb1 hb2
end Go.Mch
namespace Go.Mch
def CY (n : Nat) (t : List (List Int)) : Prop := TabN n t ∧ ∀ r ∈ t, r.Nodup
abbrev cyT (t : List (List Int)) : T := .agg [tb t]
abbrev ownC (t : List (List Int)) : T := .agg [j1g t]
theorem CY.has {n : Nat} {t : List (List Int)} (h : CY n t) (h0 : 0 < n) (h12 : n ≤ 12) {x y : Nat} (hx : x < n) (hy : y < n) : ∃ (h1 : x < t.length), 0 ≤ ixOf t[x] y ∧ ixOf t[x] y < n := by
 have h1 : x < t.length := by rw [h.1.1]; exact hx
 have h2 := h.1.2 _ (List.getElem_mem h1)
 have hp := w3p h2 (h.2 _ (List.getElem_mem h1)) h0 h12
 have := hp.mem (x := y) (by rw [h2.1]; exact hy)
 have h3 := j7z t[x] y
 rw [h2.1] at h3
 exact ⟨h1, (j45 _ _).2 this, h3.2⟩
theorem w8o {p : List Int} (h : Pm p) : j4e p.length (invL p) ∧ (invL p).Nodup := by
 refine ⟨⟨z11 p, fun v hv => ?_⟩, ?_⟩
 · obtain ⟨i, hi, rfl⟩ := List.getElem_of_mem hv
   have hil : i < p.length := by simpa using hi
   have := h.lt hil
   rw [q8b hi]
   omega
 · rw [List.nodup_iff_pairwise_ne, List.pairwise_iff_getElem]
   intro i j hi hj hij he
   have hil : i < p.length := by simpa using hi
   have hjl : j < p.length := by simpa using hj
   rw [q8b hi, q8b hj] at he
   have h1 := h.at hil
   have h2 := h.at hjl
   have he' : invQ p i = invQ p j := by omega
   rw [he'] at h1
   rw [h1] at h2
   omega
def w94 (pg : Pg) : Prop := ∀ n a b c : Nat, 0 < n → n ≤ 64 → a ≤ 64 → b ≤ 64 → c ≤ 64 → ∃ t : List (List Int), TabN n t ∧ Call pg 424 [I n, I a, I b, I c] [I n, I a, I b, I c] (ownC t)
set_option maxRecDepth 10000 in
theorem t_aff {pg : Pg} (hp : pg.fn 424 = some j2k) : w94 pg := by
 intro n a b c h0 hn ha hb hc
 refine Call.find hp rfl (by simp) ?_
 show wp _ _ j2k.body _ _
 generalize hR : (fun (x : X) (e : Env) => ∃ l : List (List Int), TabN n l ∧ post j2k.rs [I n, I a, I b, I c] [I n, I a, I b, I c] (ownC l) x e) = R
 simp [j2k]
 refine j0a (fun k e => ∃ s : List (List Int), (s.length = k ∧ ∀ r ∈ s, j4e n r) ∧ e = fr [(0, some (.val (I n))), (1, some (.val (I a))), (2, some (.val (I b))), (3, some (.val (I c))), (8, some (.val (.mem .own none [nil]))), (9, some (.val (.mem .own none [j6c s]))), (10, some (.val (I k)))]) n ?_ ?_ 0 _ (by omega) ⟨[], ⟨rfl, by simp⟩, rfl⟩
 · rintro k e hk ⟨s, ⟨g3, g4⟩, rfl⟩
   simp [hk]
   refine j0a (fun j e => ∃ q : List Int, (q.length = j ∧ ∀ v ∈ q, 0 ≤ v ∧ v < n) ∧ e = fr [(0, some (.val (I n))), (1, some (.val (I a))), (2, some (.val (I b))), (3, some (.val (I c))), (8, some (.val (.mem .own none [nil]))), (9, some (.val (.mem .own none [j6c s]))), (10, some (.val (I k))), (11, some (.val (ownL q))), (12, some (.val (I j)))]) n ?_ ?_ 0 _ (by omega) ⟨[], ⟨rfl, by simp⟩, rfl⟩
   · rintro j e hj ⟨q, ⟨i3, i4⟩, rfl⟩
     obtain ⟨u, hu, hu2⟩ : ∃ u : Nat, (a : Int) * k = u ∧ u ≤ 4096 := ⟨a * k, by simp, Nat.mul_le_mul ha (by omega : k ≤ 64)⟩
     obtain ⟨v, hv, hv2⟩ : ∃ v : Nat, (b : Int) * j = v ∧ v ≤ 4096 := ⟨b * j, by simp, Nat.mul_le_mul hb (by omega : j ≤ 64)⟩
     obtain ⟨m, hm, hm2⟩ : ∃ m : Nat, ((u : Int) + v + c).tmod n = m ∧ m < n := ⟨(u + v + c) % n, by rw [Int.tmod_eq_emod_of_nonneg (by omega), Int.natCast_emod]; simp, Nat.mod_lt _ h0⟩
     have hn0 : ¬ n = 0 := by omega
     simp [hj, hu, hv, hm, hn0]
     exact ⟨by omega, by omega, by omega, by omega, by unfold roomy; omega, by omega, q ++ [(m : Int)], ⟨by simp [i3], j5v i4 (by omega)⟩, by simp only [ownL, List.map_append, List.map_cons, List.map_nil]⟩
   · rintro e ⟨q, ⟨i3, i4⟩, rfl⟩
     by_cases hk0 : k = 0
     · subst hk0
       obtain rfl : s = [] := List.length_eq_zero_iff.1 g3
       simp
       exact ⟨by unfold roomy; omega, [q], ⟨rfl, j7y ⟨i3, i4⟩⟩, rfl⟩
     · rw [j2g g3 (by omega)]
       simp
       exact ⟨by unfold roomy; omega, by omega, s ++ [q], TabN.snoc ⟨g3, g4⟩ ⟨i3, i4⟩, by simp only [j6b]⟩
 · rintro e ⟨s, ⟨g3, g4⟩, rfl⟩
   rw [j2g g3 h0]
   simp
   subst hR
   exact ⟨s, ⟨g3, g4⟩, by simp [post, j2k]⟩
def w9t (pg : Pg) : Prop := ∀ (n : Nat) (t : List (List Int)), n ≤ 64 → TabN n t → ∃ q : List Int, q.length = n ∧ Call pg 417 [tb t] [tb t] (ownL q)
set_option maxRecDepth 10000 in
theorem t_sqs {pg : Pg} (hp : pg.fn 417 = some j1y) : w9t pg := by
 intro n t hn ht
 have htl := ht.1
 refine Call.find hp rfl (by simp) ?_
 show wp _ _ j1y.body _ _
 generalize hR : (fun (x : X) (e : Env) => ∃ l : List Int, l.length = n ∧ post j1y.rs [tb t] [tb t] (ownL l) x e) = R
 simp [j1y]
 refine j0a (fun k e => ∃ q : List Int, q.length = k ∧ e = fr [(0, some (.val (tb t))), (3, some (.val (ownL q))), (4, some (.val (I k)))]) n ?_ ?_ 0 _ (by omega) ⟨[], rfl, rfl⟩
 · rintro k e hk ⟨q, g1, rfl⟩
   obtain ⟨u1, u2, u3, u4, u5⟩ := ht.at hk hk
   simp [hk, htl, u3]
   exact ⟨by unfold roomy; omega, by omega, q ++ [t[k][k]], by simp [g1], by simp only [ownL, List.map_append, List.map_cons, List.map_nil]⟩
 · rintro e ⟨q, g1, rfl⟩
   simp [htl]
   subst hR
   exact ⟨q, g1, by simp [post, j1y]⟩
def w9x (pg : Pg) : Prop := ∀ (n : Nat) (t : List (List Int)), n ≤ 64 → TabN n t → ∃ q : List Int, q.length ≤ 3 ∧ Call pg 418 [tb t] [tb t] (ownL q)
set_option maxRecDepth 10000 in
theorem t_flt {pg : Pg} (hp : pg.fn 418 = some j2d) : w9x pg := by
 intro n t hn ht
 have htl := ht.1
 refine Call.find hp rfl (by simp) ?_
 show wp _ _ j2d.body _ _
 generalize hR : (fun (x : X) (e : Env) => ∃ l : List Int, l.length ≤ 3 ∧ post j2d.rs [tb t] [tb t] (ownL l) x e) = R
 simp [j2d, htl]
 refine j0a (fun x e => e = fr [(0, some (.val (tb t))), (3, some (.val (I n))), (4, some (.val (I x)))]) n ?_ ?_ 0 _ (by omega) rfl
 · rintro x e hx rfl
   simp [hx]
   refine j0a (fun y e => e = fr [(0, some (.val (tb t))), (3, some (.val (I n))), (4, some (.val (I x))), (5, some (.val (I y)))]) n ?_ ?_ 0 _ (by omega) rfl
   · rintro y e hy rfl
     simp [hy]
     refine j0a (fun z e => e = fr [(0, some (.val (tb t))), (3, some (.val (I n))), (4, some (.val (I x))), (5, some (.val (I y))), (6, some (.val (I z)))]) n ?_ ?_ 0 _ (by omega) rfl
     · rintro z e hz rfl
       obtain ⟨a1, a2, a3, a4, a5⟩ := ht.at hx hy
       obtain ⟨b1, b2, b3, b4, b5⟩ := ht.at hx hz
       obtain ⟨c1, c2, c3, c4, c5⟩ := ht.at hy hx
       obtain ⟨d1, d2, d3, d4, d5⟩ := ht.at hy hz
       obtain ⟨A, hA⟩ : ∃ A : Nat, t[x][y] = A := ⟨(t[x][y]).toNat, by omega⟩
       obtain ⟨B, hB⟩ : ∃ A : Nat, t[x][z] = A := ⟨(t[x][z]).toNat, by omega⟩
       obtain ⟨C, hC⟩ : ∃ A : Nat, t[y][x] = A := ⟨(t[y][x]).toNat, by omega⟩
       obtain ⟨D, hD⟩ : ∃ A : Nat, t[y][z] = A := ⟨(t[y][z]).toNat, by omega⟩
       rw [hA] at a4 a5
       rw [hB] at b4 b5
       rw [hC] at c4 c5
       rw [hD] at d4 d5
       have hAn : A < n := by omega
       have hBn : B < n := by omega
       have hCn : C < n := by omega
       have hDn : D < n := by omega
       obtain ⟨m1, m2, m3, m4, m5⟩ := ht.at hAn hBn
       obtain ⟨n1, n2, n3, n4, n5⟩ := ht.at hCn hDn
       by_cases he : t[A][B] = t[C][D]
       · simp [hz, hx, hy, htl, a3, c3, hA, hB, hC, hD, hAn, hBn, hCn, hDn, m3, n3, he]
         omega
       · simp [hz, hx, hy, htl, a3, c3, hA, hB, hC, hD, hAn, hBn, hCn, hDn, m3, n3, he]
         subst hR
         exact ⟨[(x : Int), y, z], by simp, by simp [post, j2d]⟩
     · rintro e rfl
       simp
       omega
   · rintro e rfl
     simp
     omega
 · rintro e rfl
   simp
   subst hR
   exact ⟨[], by simp, by simp [post, j2d]⟩
end Go.Mch
namespace Go.Mch
def w90 (pg : Pg) : Prop := ∀ (n : Nat) (t : List (List Int)), 0 < n → n ≤ 12 → TabN n t → ∃ b : Bool, (b = true → ∀ r ∈ t, r.Nodup) ∧ Call pg 363 [cyT t] [cyT t] (B b)
set_option maxRecDepth 10000 in
theorem t_cyI {pg : Pg} (hp : pg.fn 363 = some j3e) (h46 : q02 pg 46) (h410 : q2d pg) (h417 : w9t pg) (h47 : z4z pg 47) (h418 : w9x pg) : w90 pg := by
 intro n t h0 hn ht
 have htl := ht.1
 have hT := ht.tab
 have hc1 := h46 t (by omega) (fun r hr => by have := (ht.2 r hr).1; omega)
 have hist : j49 t := ⟨by omega, by omega, hT⟩
 have hc2 := h410 t hT (by omega) (by omega)
 obtain ⟨q, q1, hc3⟩ := h417 n t (by omega) ht
 have hc4 := h47 q (by omega)
 obtain ⟨w, w1, hc5⟩ := h418 n t (by omega) ht
 have hw1 : w.length ≤ 1048576 := by omega
 simp only [hist, decide_true] at hc1
 by_cases hr : j44 t
 · simp only [hr, decide_true] at hc2
   by_cases hq : isPerm q
   · simp only [hq, decide_true] at hc4
     refine ⟨decide (w.length = 0), fun _ r hr' => (hr r hr').2, Call.intro hp rfl (by simp) ?_⟩
     show wp _ _ j3e.body (post _ _ _ _) _
     simp [j3e]
     refine j0e hc1 rfl rfl (fun _ => rfl) ?_
     simp
     refine j0e hc2 rfl rfl (fun _ => rfl) ?_
     simp
     refine j0e hc3 rfl rfl (fun _ => by simp) ?_
     simp
     refine j0e hc4 rfl rfl (fun _ => rfl) ?_
     simp
     refine j0e hc5 rfl rfl (fun _ => by simp) ?_
     simp
   · simp only [hq, decide_false] at hc4
     refine ⟨false, by simp, Call.intro hp rfl (by simp) ?_⟩
     show wp _ _ j3e.body (post _ _ _ _) _
     simp [j3e]
     refine j0e hc1 rfl rfl (fun _ => rfl) ?_
     simp
     refine j0e hc2 rfl rfl (fun _ => rfl) ?_
     simp
     refine j0e hc3 rfl rfl (fun _ => by simp) ?_
     simp
     refine j0e hc4 rfl rfl (fun _ => rfl) ?_
     simp [j0x]
 · simp only [hr, decide_false] at hc2
   refine ⟨false, by simp, Call.intro hp rfl (by simp) ?_⟩
   show wp _ _ j3e.body (post _ _ _ _) _
   simp [j3e]
   refine j0e hc1 rfl rfl (fun _ => rfl) ?_
   simp
   refine j0e hc2 rfl rfl (fun _ => rfl) ?_
   simp [j0x]
def w9z (pg : Pg) : Prop := ∀ (n : Nat) (f s : List (List Int)), 0 < n → n ≤ 12 → CY n f → fits s → ∃ t : List (List Int), CY n t ∧ Call pg 364 [sol f s] [sol f s] (ownC t)
set_option maxRecDepth 10000 in
theorem t_cyc {pg : Pg} (hp : pg.fn 364 = some j2z) (h304 : w9w pg 304) : w9z pg := by
 intro n f s h0 hn hf hs
 have hfl := hf.1.1
 refine Call.find hp rfl (by simp) ?_
 show wp _ _ j2z.body _ _
 generalize hR : (fun (x : X) (e : Env) => ∃ l : List (List Int), CY n l ∧ post j2z.rs [sol f s] [sol f s] (ownC l) x e) = R
 simp [j2z]
 refine j0a (fun k e => ∃ t : List (List Int), ((t.length = k ∧ ∀ r ∈ t, j4e n r) ∧ ∀ r ∈ t, r.Nodup) ∧ e = fr [(1, some (.val (.mem .own none [tb f, tb s]))), (2, some (.val (.mem .own none [nil]))), (3, some (.val (.mem .own none [j6c t]))), (4, some (.val (I k)))]) n ?_ ?_ 0 _ (by omega) ⟨[], ⟨⟨rfl, by simp⟩, by simp⟩, rfl⟩
 · rintro k e hk ⟨t, ⟨⟨g1, g2⟩, g3⟩, rfl⟩
   have hkl : k < f.length := by omega
   have hr := hf.1.2 _ (List.getElem_mem hkl)
   have hpm := w3p hr (hf.2 _ (List.getElem_mem hkl)) h0 hn
   have hc := h304 f[k] hpm
   obtain ⟨j1, j2⟩ := w8o hpm
   rw [hr.1] at j1
   by_cases hk0 : k = 0
   · subst hk0
     obtain rfl : t = [] := List.length_eq_zero_iff.1 g1
     simp [hk, hfl]
     refine j0e hc rfl rfl (fun _ => by simp) ?_
     simp
     exact ⟨by unfold roomy; omega, [invL f[0]], ⟨⟨rfl, j7y j1⟩, fun r hr => by rw [List.mem_singleton.1 hr]; exact j2⟩, rfl⟩
   · rw [j2g g1 (by omega)]
     simp [hk, hfl]
     refine j0e hc rfl rfl (fun _ => by simp) ?_
     simp
     refine ⟨by unfold roomy; omega, by omega, t ++ [invL f[k]], ⟨TabN.snoc ⟨g1, g2⟩ j1, fun r hr => ?_⟩, by simp only [j6b]⟩
     rcases List.mem_append.1 hr with h1 | h1
     · exact g3 r h1
     · rw [List.mem_singleton.1 h1]; exact j2
 · rintro e ⟨t, ⟨⟨g1, g2⟩, g3⟩, rfl⟩
   rw [j2g g1 h0]
   simp [hfl]
   subst hR
   exact ⟨t, ⟨⟨g1, g2⟩, g3⟩, by simp [post, j2z]⟩
def w9y (pg : Pg) : Prop := ∀ (n : Nat) (t : List (List Int)), 0 < n → n ≤ 12 → CY n t → ∃ X : S2, PMN n X.1 X.2 ∧ Call pg 366 [cyT t] [cyT t] (ownS X)
set_option maxRecDepth 10000 in
theorem t_cys {pg : Pg} (hp : pg.fn 366 = some j1o) (h398 : q6b pg) (h69 : q05 pg) : w9y pg := by
 intro n t h0 hn ht
 have htl := ht.1.1
 refine Call.find hp rfl (by simp) ?_
 show wp _ _ j1o.body _ _
 generalize hR : (fun (x : X) (e : Env) => ∃ l : S2, PMN n l.1 l.2 ∧ post j1o.rs [cyT t] [cyT t] (ownS l) x e) = R
 simp [j1o]
 rw [htl]
 refine j0e (h398 n h0 (by omega)) rfl rfl (fun _ => by simp) ?_
 simp
 refine j0a (fun a e => ∃ F S : List (List Int), PMN n F S ∧ e = fr [(1, some (.val (.mem .own none [tb t]))), (2, some (.val (.mem .own none [nil, nil]))), (3, some (.val (I n))), (4, some (.val (.mem .own none [j1g F, j1g S]))), (5, some (.val (I a)))]) n ?_ ?_ 0 _ (by omega) ⟨j7m n n, j7m n n, ⟨j95 h0, j95 h0⟩, rfl⟩
 · rintro a e ha ⟨F, S, hX, rfl⟩
   have hal : a < t.length := by omega
   have w1 := hX.1.1
   have w2 := hX.2.1
   have xF : a < F.length := by omega
   have xS : a < S.length := by omega
   have rF := (hX.1.2 _ (List.getElem_mem xF)).1
   have rS := (hX.2.2 _ (List.getElem_mem xS)).1
   have hg1 : (rows F)[a]? = some (ownL F[a]) := by rw [j6i, List.getElem?_eq_getElem xF]; rfl
   have hg2 : (rows S)[a]? = some (ownL S[a]) := by rw [j6i, List.getElem?_eq_getElem xS]; rfl
   simp [ha, w1, w2, rF, rS]
   refine j0a (fun b e => ∃ F S : List (List Int), PMN n F S ∧ e = fr [(1, some (.val (.mem .own none [tb t]))), (2, some (.val (.mem .own none [nil, nil]))), (3, some (.val (I n))), (4, some (.val (.mem .own none [j1g F, j1g S]))), (5, some (.val (I a))), (6, some (.sref 4 [0, a] 1 0 n)), (7, some (.sref 4 [1, a] 1 0 n)), (8, some (.val (I b)))]) n ?_ ?_ 0 _ (by omega) ⟨F, S, hX, by simp⟩
   · clear hg1 hg2 rF rS xF xS w1 w2 hX
     rintro b e hb ⟨F, S, hX, rfl⟩
     have w1 := hX.1.1
     have w2 := hX.2.1
     have xF : a < F.length := by omega
     have xS : a < S.length := by omega
     have rF := (hX.1.2 _ (List.getElem_mem xF)).1
     have rS := (hX.2.2 _ (List.getElem_mem xS)).1
     have hg1 : (rows F)[a]? = some (ownL F[a]) := by rw [j6i, List.getElem?_eq_getElem xF]; rfl
     have hg2 : (rows S)[a]? = some (ownL S[a]) := by rw [j6i, List.getElem?_eq_getElem xS]; rfl
     obtain ⟨_, z1, z2⟩ := ht.has h0 hn ha hb
     have hrow := (ht.1.2 _ (List.getElem_mem hal)).1
     have hc := h69 t[a] b (by omega)
     obtain ⟨u, hu⟩ : ∃ u : Nat, ixOf t[a] b = u := ⟨(ixOf t[a] b).toNat, by omega⟩
     rw [hu] at z1 z2 hc
     have hun : u < n := by omega
     obtain ⟨m1, m2, m3, m4, m5⟩ := ht.1.at hun ha
     simp [hb, ha, htl]
     refine j0e hc rfl rfl (fun _ => rfl) ?_
     simp [hb, ha, htl, w1, w2, rF, rS, hun, m3]
     exact ⟨by omega, by omega, F.set a (F[a].set b u), S.set a (S[a].set b t[u][a]), ⟨hX.1.set2 xF ⟨by omega, by omega⟩, hX.2.set2 xS ⟨by omega, by omega⟩⟩, by simp only [j1g, ← j7e xF, ← j7e xS]⟩
   · rintro e ⟨F, S, hX, rfl⟩
     simp
     exact ⟨by omega, F, S, hX, rfl⟩
 · rintro e ⟨F, S, hX, rfl⟩
   simp
   subst hR
   exact ⟨(F, S), hX, by simp [post, j1o]⟩
theorem PMN.pm {n : Nat} {f s : List (List Int)} (h : PMN n f s) (h0 : 0 < n) (h12 : n ≤ 12) : PM f s := ⟨h.1.tab, h.2.tab, by rw [h.1.1, h.2.1], by rw [h.1.1]; exact h0, by rw [h.1.1]; exact h12⟩
theorem PMN.fits {n : Nat} {f s : List (List Int)} (h : PMN n f s) (h12 : n ≤ 12) : fits f ∧ fits s := ⟨⟨by rw [h.1.1]; omega, fun r hr => by rw [(h.1.2 r hr).1]; omega⟩, by rw [h.2.1]; omega, fun r hr => by rw [(h.2.2 r hr).1]; omega⟩
def z7n (pg : Pg) (f : Nat) : Prop := ∀ (c : Rw Int) (s : Int × Int) (most : Nat), Sr c s → 0 < most → most ≤ 12 → ∃ (s' : Int × Int) (n : Nat) (t : List (List Int)), (Sr c s' ∧ 0 < n ∧ n ≤ most ∧ CY n t) ∧ Call pg f [src c s, I most] [src c s', I most] (ownC t)
set_option maxRecDepth 10000 in
theorem t_cyA {pg : Pg} (hp : pg.fn 427 = some j3f) (h336 : q0k pg) (h424 : w94 pg) (h363 : w90 pg) (h412 : w42 pg) (h350 : j87 pg 350) (h351 : z2f pg 351) (h364 : w9z pg) (h449 : w41 pg) : z7n pg 427 := by
 intro c s most hs m0 m12
 have hfind := Call.q3y (α := (Int × Int) × Nat × List (List Int)) (Q := fun Y => Sr c Y.1 ∧ 0 < Y.2.1 ∧ Y.2.1 ≤ most ∧ CY Y.2.1 Y.2.2) (args := [src c s, I most]) (args' := fun Y => [src c Y.1, I most]) (r := fun Y => ownC Y.2.2) hp rfl (by simp [F.lets, j3f, List.range, List.range.loop]) (by simp [kindOf]) ?_
 · obtain ⟨Y, h1, h2⟩ := hfind
   exact ⟨_, _, _, h1, h2⟩
 show wp _ _ j3f.body (j59 _ _ _ _ _) _
 generalize hR : j59 (fun Y : (Int × Int) × Nat × List (List Int) => Sr c Y.1 ∧ 0 < Y.2.1 ∧ Y.2.1 ≤ most ∧ CY Y.2.1 Y.2.2) j3f.rs [src c s, I most] (fun Y => [src c Y.1, I most]) (fun Y => ownC Y.2.2) = R
 have hfin : ∀ (s' : Int × Int) (k : Nat) (t : List (List Int)), Sr c s' → 0 < k → k ≤ most → CY k t → R .ret (fr [(0, some (.val (src c s'))), (1, some (.val (I most))), (4, some (.val (.mem .own none [j1g t])))]) := by
  intro s' k X a1 a2 a3 a4
  subst hR
  exact ⟨(s', k, X), ⟨a1, a2, a3, a4⟩, by simp [post, j3f]⟩
 obtain ⟨s1, r1, ⟨k1, k2⟩, hc1⟩ := h336.at hs (n := most) m0
 obtain ⟨s2, kd, ⟨k3, k4⟩, hc2⟩ := h336.at k1 (n := 3) (by omega)
 obtain ⟨n, hn⟩ : ∃ n : Nat, (1 : Int) + r1 = n := ⟨1 + r1, by omega⟩
 have hn0 : 0 < n := by omega
 have hnm : n ≤ most := by omega
 simp [j3f]
 refine j1k (ts' := [rawB c, I s1.1, H64 s1.2]) (r := I r1) (by simpa using hc1) ?_
 simp [hn]
 refine ⟨by omega, ?_⟩
 refine j1k (ts' := [rawB c, I s2.1, H64 s2.2]) (r := I kd) (by simpa using hc2) ?_
 by_cases hk0 : kd = 0
 · simp [hk0]
   refine j0a (fun k e => ∃ s' : Int × Int, Sr c s' ∧ e = fr [(0, some (.val (src c s'))), (1, some (.val (I most))), (4, some (.val (.mem .own none [nil]))), (5, some (.val (I n))), (6, some (.val (I k)))]) 30 ?_ ?_ 0 _ (by omega) ⟨s2, k3, rfl⟩
   · rintro k e hk ⟨s3, g1, rfl⟩
     obtain ⟨s4, a1, ⟨j1, j2⟩, hd1⟩ := h336.at g1 (n := n) hn0
     obtain ⟨s5, a2, ⟨j3, j4⟩, hd2⟩ := h336.at j1 (n := n) hn0
     obtain ⟨s6, a3, ⟨j5, j6⟩, hd3⟩ := h336.at j3 (n := n) hn0
     obtain ⟨t, ht, hd4⟩ := h424 n a1 a2 a3 hn0 (by omega) (by omega) (by omega) (by omega)
     obtain ⟨b, hb, hd5⟩ := h363 n t hn0 (by omega) ht
     have hk' : (k : Int) < 30 := by omega
     simp [hk']
     refine j1k (ts' := [rawB c, I s4.1, H64 s4.2]) (r := I a1) (by simpa using hd1) ?_
     simp
     refine j1k (ts' := [rawB c, I s5.1, H64 s5.2]) (r := I a2) (by simpa using hd2) ?_
     simp
     refine j1k (ts' := [rawB c, I s6.1, H64 s6.2]) (r := I a3) (by simpa using hd3) ?_
     simp
     refine j0e hd4 rfl rfl (fun _ => by simp) ?_
     simp
     refine j0e hd5 rfl rfl (fun _ => rfl) ?_
     cases b with
     | true =>
      simp
      exact hfin s6 n t j5 hn0 hnm ⟨ht, hb rfl⟩
     | false =>
      simp
      exact ⟨by omega, s6.1, s6.2, j5, rfl⟩
   · rintro e ⟨s3, g1, rfl⟩
     simp
     refine j0a (fun k e => ∃ s' : Int × Int, Sr c s' ∧ e = fr [(0, some (.val (src c s'))), (1, some (.val (I most))), (4, some (.val (.mem .own none [nil]))), (5, some (.val (I n))), (8, some (.val (I k)))]) 8 ?_ ?_ 0 _ (by omega) ⟨s3, g1, rfl⟩
     · rintro k e hk ⟨s3, g1, rfl⟩
       obtain ⟨s4, m, X, ⟨j1, j2, j3, j4⟩, hd1⟩ := h412 c s3 n g1 hn0 (by omega)
       have hpm := j4.pm j2 (by omega)
       have hfit := j4.fits (by omega)
       have hk' : (k : Int) < 8 := by omega
       have hd2 := h350 X.1 X.2 hpm
       have hd3 := h351 X.1 X.2 hpm
       simp [hk']
       refine j1k (ts' := [rawB c, I s4.1, H64 s4.2]) (r := ownS X) (by simpa using hd1) ?_
       simp
       refine j0e hd2 rfl rfl (fun _ => rfl) ?_
       by_cases hg : j8d X.1 X.2
       · simp [hg]
         refine j0e hd3 rfl rfl (fun _ => rfl) ?_
         generalize dec (isInv X.1 X.2) = b at *
         cases b with
         | true =>
          obtain ⟨t, ht, hd4⟩ := h364 m X.1 X.2 j2 (by omega) ⟨j4.1, fun r hr => (hg.1 r hr).2⟩ hfit.2
          simp
          refine j0e hd4 rfl rfl (fun _ => by simp) ?_
          simp
          exact hfin s4 m t j1 j2 (by omega) ht
         | false =>
          simp
          exact ⟨by omega, s4.1, s4.2, j1, rfl⟩
       · simp [hg, j0x]
         exact ⟨by omega, s4.1, s4.2, j1, rfl⟩
     · rintro e ⟨s3, g1, rfl⟩
       obtain ⟨X, ⟨j1, j2⟩, hd1⟩ := h449 n hn0 (by omega)
       have hfit := j1.fits (by omega)
       obtain ⟨t, ht, hd2⟩ := h364 n X.1 X.2 hn0 (by omega) ⟨j1.1, fun r hr => by rw [j2 r hr]; exact (j7h n).2⟩ hfit.2
       simp
       refine j0e hd1 rfl rfl (fun _ => by simp) ?_
       simp
       refine j0e hd2 rfl rfl (fun _ => by simp) ?_
       simp
       exact hfin s3 n t g1 hn0 hnm ht
 · simp [hk0]
   refine j0a (fun k e => ∃ s' : Int × Int, Sr c s' ∧ e = fr [(0, some (.val (src c s'))), (1, some (.val (I most))), (4, some (.val (.mem .own none [nil]))), (5, some (.val (I n))), (8, some (.val (I k)))]) 8 ?_ ?_ 0 _ (by omega) ⟨s2, k3, rfl⟩
   · rintro k e hk ⟨s3, g1, rfl⟩
     obtain ⟨s4, m, X, ⟨j1, j2, j3, j4⟩, hd1⟩ := h412 c s3 n g1 hn0 (by omega)
     have hpm := j4.pm j2 (by omega)
     have hfit := j4.fits (by omega)
     have hk' : (k : Int) < 8 := by omega
     have hd2 := h350 X.1 X.2 hpm
     have hd3 := h351 X.1 X.2 hpm
     simp [hk']
     refine j1k (ts' := [rawB c, I s4.1, H64 s4.2]) (r := ownS X) (by simpa using hd1) ?_
     simp
     refine j0e hd2 rfl rfl (fun _ => rfl) ?_
     by_cases hg : j8d X.1 X.2
     · simp [hg]
       refine j0e hd3 rfl rfl (fun _ => rfl) ?_
       generalize dec (isInv X.1 X.2) = b at *
       cases b with
       | true =>
        obtain ⟨t, ht, hd4⟩ := h364 m X.1 X.2 j2 (by omega) ⟨j4.1, fun r hr => (hg.1 r hr).2⟩ hfit.2
        simp
        refine j0e hd4 rfl rfl (fun _ => by simp) ?_
        simp
        exact hfin s4 m t j1 j2 (by omega) ht
       | false =>
        simp
        exact ⟨by omega, s4.1, s4.2, j1, rfl⟩
     · simp [hg, j0x]
       exact ⟨by omega, s4.1, s4.2, j1, rfl⟩
   · rintro e ⟨s3, g1, rfl⟩
     obtain ⟨X, ⟨j1, j2⟩, hd1⟩ := h449 n hn0 (by omega)
     have hfit := j1.fits (by omega)
     obtain ⟨t, ht, hd2⟩ := h364 n X.1 X.2 hn0 (by omega) ⟨j1.1, fun r hr => by rw [j2 r hr]; exact (j7h n).2⟩ hfit.2
     simp
     refine j0e hd1 rfl rfl (fun _ => by simp) ?_
     simp
     refine j0e hd2 rfl rfl (fun _ => by simp) ?_
     simp
     exact hfin s3 n t g1 hn0 hnm ht
theorem w0c {p : List Int} (h : p.Nodup) {i j : Nat} (hi : i < p.length) (hj : j < p.length) (he : p.getD i 0 = p.getD j 0) : i = j := by
 simp only [List.getD_eq_getElem?_getD, List.getElem?_eq_getElem hi, List.getElem?_eq_getElem hj, Option.getD_some] at he
 exact (List.getElem_inj h).1 he
theorem w0t {n : Nat} {t : List (List Int)} {p : List Int} (ht : CY n t) (hp : Pm p) (hl : p.length = n) : ∀ r ∈ imT t p, r.Nodup := by
 intro r hr
 obtain ⟨a, ha, rfl⟩ := List.mem_map.1 hr
 simp only [List.mem_range] at ha
 have htl := ht.1.1
 have hA := hp.lt (x := a) (by omega)
 have hAt : invQ p a < t.length := by omega
 have hrow := ht.1.2 _ (List.getElem_mem hAt)
 have hnd := ht.2 _ (List.getElem_mem hAt)
 rw [List.nodup_iff_pairwise_ne, List.pairwise_iff_getElem]
 intro i j hi hj hij he
 have hil : i < n := by simp at hi; omega
 have hjl : j < n := by simp at hj; omega
 simp only [List.getElem_map, List.getElem_range] at he
 unfold imG at he
 have hI := hp.lt (x := i) (by omega)
 have hJ := hp.lt (x := j) (by omega)
 obtain ⟨u1, u2, u3, u4, u5⟩ := ht.1.at (i := invQ p a) (j := invQ p i) (by omega) (by omega)
 obtain ⟨v1, v2', v3, v4, v5⟩ := ht.1.at (i := invQ p a) (j := invQ p j) (by omega) (by omega)
 have e1 := j2a u1 u2
 have e2 := j2a v1 v2'
 rw [e1] at u4 u5
 rw [e2] at v4 v5
 have h1 := w0c hp.pm.2 (by omega) (by omega) he
 have h2 : v2 t (invQ p a) (invQ p i) = v2 t (invQ p a) (invQ p j) := by omega
 rw [← e1, ← e2] at h2
 have h3 := (List.getElem_inj hnd).1 h2
 have h4 := hp.at (x := i) (by omega)
 have h5 := hp.at (x := j) (by omega)
 rw [h3] at h4
 omega
set_option maxRecDepth 10000 in
theorem v4r {pg : Pg} (hp : pg.fn 378 = some j2t) (h336 : q0k pg) (h427 : z7n pg 427) (h368 : z2l pg) (h367 : q8s pg 367) : z7n pg 378 := by
 intro c s most hs m0 m12
 have hfind := Call.q3y (α := (Int × Int) × Nat × List (List Int)) (Q := fun Y => Sr c Y.1 ∧ 0 < Y.2.1 ∧ Y.2.1 ≤ most ∧ CY Y.2.1 Y.2.2) (args := [src c s, I most]) (args' := fun Y => [src c Y.1, I most]) (r := fun Y => ownC Y.2.2) hp rfl (by simp [F.lets, j2t, List.range, List.range.loop]) (by simp [kindOf]) ?_
 · obtain ⟨Y, h1, h2⟩ := hfind
   exact ⟨_, _, _, h1, h2⟩
 show wp _ _ j2t.body (j59 _ _ _ _ _) _
 generalize hR : j59 (fun Y : (Int × Int) × Nat × List (List Int) => Sr c Y.1 ∧ 0 < Y.2.1 ∧ Y.2.1 ≤ most ∧ CY Y.2.1 Y.2.2) j2t.rs [src c s, I most] (fun Y => [src c Y.1, I most]) (fun Y => ownC Y.2.2) = R
 have hfin : ∀ (s' : Int × Int) (k : Nat) (t : List (List Int)), Sr c s' → 0 < k → k ≤ most → CY k t → R .ret (fr [(0, some (.val (src c s'))), (1, some (.val (I most))), (4, some (.val (.mem .own none [j1g t])))]) := by
  intro s' k X a1 a2 a3 a4
  subst hR
  exact ⟨(s', k, X), ⟨a1, a2, a3, a4⟩, by simp [post, j2t]⟩
 obtain ⟨s1, n, t, ⟨k1, k2, k3, k4⟩, hc1⟩ := h427 c s most hs m0 m12
 obtain ⟨s2, r, ⟨k5, _⟩, hc2⟩ := h336.at k1 (n := 3) (by omega)
 obtain ⟨s3, p, ⟨k6, k7, k8⟩, hc3⟩ := h368 c s2 n k5 (by omega)
 have hpm := w3p k7 k8 k2 (by omega)
 have hl1 := k4.1.1
 have hc4 := h367 t p k4.1.tab hpm (by rw [k7.1, hl1])
 simp [j2t]
 refine j1k (ts' := [rawB c, I s1.1, H64 s1.2]) (r := ownC t) (by simpa using hc1) ?_
 simp
 refine j1k (ts' := [rawB c, I s2.1, H64 s2.2]) (r := I r) (by simpa using hc2) ?_
 by_cases hr : 0 < r
 · simp [hr, hl1]
   refine j1k (ts' := [rawB c, I s3.1, H64 s3.2]) (r := ownL p) (by simpa using hc3) ?_
   simp [hl1]
   refine j0e hc4 rfl rfl (fun _ => by simp) ?_
   simp
   refine hfin s3 n (imT t p) k6 k2 k3 ⟨q8d k4.1 hpm k7.1, ?_⟩
   exact w0t k4 hpm k7.1
 · simp [hr]
   exact hfin s2 n t k5 k2 k3 k4
set_option maxRecDepth 10000 in
theorem v4k {pg : Pg} (hp : pg.fn 268 = some j2c) (h336 : q0k pg) (h378 : z7n pg 378) (h366 : w9y pg) (h379 : z2h pg 379) : z2h pg 268 := by
 intro c s most hs m0 m12
 have hfind := Call.q3y (α := (Int × Int) × S2) (Q := fun Y => Sr c Y.1 ∧ Bd Y.2.1 ∧ Bd Y.2.2) (args := [src c s, I most]) (args' := fun Y => [src c Y.1, I most]) (r := fun Y => ownS Y.2) hp rfl (by simp [F.lets, j2c, List.range, List.range.loop]) (by simp [kindOf]) ?_
 · obtain ⟨Y, h1, h2⟩ := hfind
   exact ⟨_, _, h1, h2⟩
 show wp _ _ j2c.body (j59 _ _ _ _ _) _
 generalize hR : j59 (fun Y : (Int × Int) × S2 => Sr c Y.1 ∧ Bd Y.2.1 ∧ Bd Y.2.2) j2c.rs [src c s, I most] (fun Y => [src c Y.1, I most]) (fun Y => ownS Y.2) = R
 have hfin : ∀ (s' : Int × Int) (X : S2), Sr c s' → Bd X.1 → Bd X.2 → R .ret (fr [(0, some (.val (src c s'))), (1, some (.val (I most))), (4, some (.val (.mem .own none [j1g X.1, j1g X.2])))]) := by
  intro s' X a1 a2 a3
  subst hR
  exact ⟨(s', X), ⟨a1, a2, a3⟩, by simp [post, j2c]⟩
 obtain ⟨s1, r, ⟨k1, _⟩, hc1⟩ := h336.at hs (n := 3) (by omega)
 simp [j2c]
 refine j1k (ts' := [rawB c, I s1.1, H64 s1.2]) (r := I r) (by simpa using hc1) ?_
 by_cases hr : r = 0
 · obtain ⟨s2, n, t, ⟨k2, k3, k4, k5⟩, hc2⟩ := h378 c s1 most k1 m0 m12
   obtain ⟨X, hX, hc3⟩ := h366 n t k3 (by omega) k5
   simp [hr]
   refine j1k (ts' := [rawB c, I s2.1, H64 s2.2]) (r := ownC t) (by simpa using hc2) ?_
   simp
   refine j0e hc3 rfl rfl (fun _ => by simp) ?_
   simp
   exact hfin s2 X k2 (hX.1.bd (by omega)) (hX.2.bd (by omega))
 · obtain ⟨s2, X, ⟨k2, k3, k4⟩, hc2⟩ := h379 c s1 most k1 m0 m12
   simp [hr]
   refine j1k (ts' := [rawB c, I s2.1, H64 s2.2]) (r := ownS X) (by simpa using hc2) ?_
   simp
   exact hfin s2 X k2 k3 k4
end Go.Mch
namespace Go.Mch

theorem w4y {L : List Int} {k : Int} (h : asc L) (hl : ∀ v ∈ L, v < k) : asc (L ++ [k]) := by
 intro i hi
 simp only [List.length_append, List.length_cons, List.length_nil] at hi
 unfold z2e
 by_cases h1 : i + 1 < L.length
 · have := h i h1
   unfold z2e at this
   rw [List.getD_eq_getElem?_getD, List.getD_eq_getElem?_getD, List.getElem?_append_left (by omega), List.getElem?_append_left h1, ← List.getD_eq_getElem?_getD, ← List.getD_eq_getElem?_getD]
   exact this
 · have h2 : i + 1 = L.length := by omega
   have h3 : i < L.length := by omega
   rw [List.getD_eq_getElem?_getD, List.getD_eq_getElem?_getD, List.getElem?_append_left h3, List.getElem?_append_right (by omega), h2, List.getElem?_eq_getElem h3]
   simpa using hl _ (List.getElem_mem h3)
theorem z92 {xs : List Int} {P : Int → Bool} {k : Nat} {v : Int} (h : v ∈ plK xs P k) : 0 ≤ v ∧ v < k := by
 simp only [plK, List.mem_map, List.mem_filter, List.mem_range] at h
 obtain ⟨i, ⟨h1, _⟩, rfl⟩ := h
 omega
theorem w7r (xs : List Int) (P : Int → Bool) (k : Nat) : asc (plK xs P k) := by
 induction k with
 | zero => intro i hi; simp [plK] at hi
 | succ k ih =>
  have hs : plK xs P (k + 1) = if P (xs.getD k 0) then plK xs P k ++ [(k : Int)] else plK xs P k := by
   simp only [plK, List.range_succ, List.filter_append, List.filter_cons, List.filter_nil, List.map_append]
   split <;> simp
  rw [hs]
  split
  · exact w4y ih fun v hv => (z92 hv).2
  · exact ih
def csM (f s : List (List Int)) (c : Int) : List Int := pl (classes f s) fun x => decide (x = c)
theorem z19 {f s : List (List Int)} {c : Int} (h : csM f s c ≠ []) : q1m f.length (csM f s c) ∧ (csM f s c).length ≤ f.length := by
 have hl := z1v (classes f s) (fun x => decide (x = c)) (classes f s).length
 have hd : csM f s c = plK (classes f s) (fun x => decide (x = c)) (classes f s).length := rfl
 rw [hd] at h ⊢
 refine ⟨⟨List.length_pos_iff.2 h, fun v hv => ?_, w7r _ _ _⟩, by simpa using hl⟩
 have := z92 hv
 rw [j4f] at this
 omega
theorem q1m.inN {n : Nat} {xs : List Int} (h : q1m n xs) : inN n xs := fun v hv => by
 have := h.2.1 v hv
 omega
open Classical in
noncomputable def csR (f s : List (List Int)) (c : Int) : Option (List (List Int) × List (List Int)) := if j5c f s ∧ csM f s c ≠ [] ∧ clo f s (csM f s c) then some (subT f (csM f s c), subT s (csM f s c)) else none
open Classical in
noncomputable def csC (f s : List (List Int)) (c : Int) : Int := q48 1 (fun f s => if csM f s c ≠ [] ∧ clo f s (csM f s c) then 0 else 4) f s
def S_cs (pg : Pg) (n : Nat) : Prop := ∀ (f s : List (List Int)) (c : Int), fits f → fits s → Call pg n [sol f s, I c] [sol f s, I c] (.tup [solT (csR f s c), I (csC f s c)])
theorem z8p {pg : Pg} (hp : pg.fn 199 = some j2n) (h264 : q57 pg 264) (h289 : j5s pg 289) (h316 : q58 pg) (h331 : j88 pg 331) (h332 : w9s pg) : S_cs pg 199 := by
 intro f s c hf hs
 refine Call.intro hp rfl (by simp) ?_
 show wp _ _ j2n.body (post [.cell 4 (some 2), .t 5] _ _ _) _
 simp [j2n]
 refine j0e (h264 f s hf hs) rfl rfl (fun _ => rfl) ?_
 by_cases h : j5c f s
 · have hpm := PM.of h.1.1
   have h12 := hpm.small
   simp [csC, j1a h, csR, h]
   refine j0e (h289 f s hpm) rfl rfl (fun _ => by simp) ?_
   simp
   have hm : Call pg 316 [ix (classes f s), I c] [ix (classes f s), I c] (.mem .own (some 1) ((csM f s c).map I)) := h316 (classes f s) c (by simp; omega)
   refine j0e hm rfl rfl (fun _ => by simp) ?_
   have hset := fun hne => z19 (f := f) (s := s) (c := c) hne
   generalize csM f s c = M at *
   by_cases hM : M = []
   · simp [hM, solT, j0x]
   · obtain ⟨k1, k2⟩ := hset hM
     have h0 := k1.1
     simp [hM]
     refine j0e (h331 f s M hpm k1.inN (by omega)) rfl rfl (fun _ => rfl) ?_
     by_cases hc : clo f s M
     · simp [hc]
       refine j0e (h332 f s M hpm k1.inN h0 (by omega)) rfl rfl (fun _ => by simp) ?_
       simp [solT, h, hM, hc]
     · simp [hc, solT]
 · simp [csC, j2i h, csR, h, solT]
theorem z8q {pg : Pg} (hp : pg.fn 200 = some j2q) (h266 : q57 pg 266) (h291 : j5s pg 291) (h318 : q8p pg) (h333 : j88 pg 333) (h239 : w13 pg) : S_cs pg 200 := by
 intro f s c hf hs
 refine Call.intro hp rfl (by simp) ?_
 show wp _ _ j2q.body (post [.cell 4 (some 2), .t 5] _ _ _) _
 simp [j2q]
 refine j0e (h266 f s hf hs) rfl rfl (fun _ => rfl) ?_
 by_cases h : j5c f s
 · have hpm := PM.of h.1.1
   have h12 := hpm.small
   simp [csC, j1a h, csR, h]
   refine j0e (h291 f s hpm) rfl rfl (fun _ => by simp) ?_
   simp
   have hm : Call pg 318 [ix (classes f s), I c] [ix (classes f s), I c] (ownN (csM f s c)) := h318 (classes f s) c (by simp; omega)
   have hset := fun hne => z19 (f := f) (s := s) (c := c) hne
   generalize csM f s c = M at *
   by_cases hM : M = []
   · subst hM
     refine j0e hm rfl rfl (fun _ => by simp [ownN]) ?_
     simp [ownN, solT, j0x]
   · obtain ⟨k1, k2⟩ := hset hM
     have h0 := k1.1
     rw [j6a hM] at hm
     refine j0e hm rfl rfl (fun _ => by simp) ?_
     simp [hM]
     refine j0e (h333 f s M hpm k1.inN (by omega)) rfl rfl (fun _ => rfl) ?_
     by_cases hc : clo f s M
     · simp [hc]
       refine j0e (h239 f s M h.1.1 k1 hc (by omega)) rfl rfl (fun _ => by simp) ?_
       simp [solT, h, hM, hc]
     · simp [hc, solT]
 · simp [csC, j2i h, csR, h, solT]
end Go.Mch
namespace Go.Mch
def w91 (pg : Pg) : Prop := ∀ c : Rw Int, Call pg 128 [rawB c] [rawB c] (B (decide ((4096 : Int) < (lst c).length)))
theorem t_big {pg : Pg} (hp : pg.fn 128 = some j8j) : w91 pg := by
 intro c
 refine Call.intro hp rfl (by simp) ?_
 show wp _ _ j8j.body (post [.t 2] _ _ _) _
 simp [j8j]
def j93 (pg : Pg) : Prop := ∀ a b : Rw Int, (lst a).length ≤ 1048576 → Call pg 141 [rawI a, rawI b] [rawI a, rawI b] (B (decide (lst a = lst b)))
theorem w6n {pg : Pg} (hp : pg.fn 141 = some j3u) : j93 pg := by
 intro a b ha
 refine Call.intro hp rfl (by simp) ?_
 show wp _ _ j3u.body (post [.t 4] _ _ _) _
 by_cases hl : (lst a).length = (lst b).length
 · simp [j3u, hl]
   refine j0a (fun k e => (∀ i, i < k → (lst a)[i]? = (lst b)[i]?) ∧ e = fr [(0, some (.val (rawI a))), (1, some (.val (rawI b))), (5, some (.val (I k)))]) (lst a).length ?_ ?_ 0 _ (by omega) ?_
   · rintro k e hk ⟨h1, rfl⟩
     have hk2 : k < (lst b).length := by omega
     by_cases hne : (lst a)[k] = (lst b)[k]
     · simp [hk, hk2, hne]
       refine ⟨by omega, fun i hi => ?_⟩
       rcases Nat.lt_or_ge i k with h2 | h2
       · exact h1 i h2
       · have : i = k := by omega
         subst this
         rw [List.getElem?_eq_getElem hk, List.getElem?_eq_getElem hk2, hne]
     · simp [hk, hk2, hne]
       intro h2
       exact hne (by simp [h2])
   · rintro e ⟨h1, rfl⟩
     simp [hl]
     apply List.ext_getElem?
     intro i
     rcases Nat.lt_or_ge i (lst a).length with h2 | h2
     · exact h1 i h2
     · rw [List.getElem?_eq_none h2, List.getElem?_eq_none (by omega)]
   · exact ⟨fun i hi => by omega, by simp⟩
 · have : lst a ≠ lst b := fun h => hl (by rw [h])
   have h2 : ((lst a).length : Int) ≠ (lst b).length := by omega
   simp [j3u, h2, this]

def q3d (pg : Pg) : Prop := ∀ a b : Rw (Rw Int), small a → Call pg 137 [rawT a, rawT b] [rawT a, rawT b] (B (decide ((lst a).map lst = (lst b).map lst)))
theorem w6l {pg : Pg} (hp : pg.fn 137 = some j29) (h141 : j93 pg) : q3d pg := by
 intro a b ⟨ha, hr⟩
 refine Call.intro hp rfl (by simp) ?_
 show wp _ _ j29.body (post [.t 4] _ _ _) _
 by_cases hl : (lst a).length = (lst b).length
 · simp [j29, hl]
   refine j0a (fun k e => (∀ i, i < k → ((lst a).map lst)[i]? = ((lst b).map lst)[i]?) ∧ e = fr [(0, some (.val (rawT a))), (1, some (.val (rawT b))), (5, some (.val (I k)))]) (lst a).length ?_ ?_ 0 _ (by omega) ?_
   · rintro k e hk ⟨h1, rfl⟩
     have hk2 : k < (lst b).length := by omega
     simp [hk, hk2]
     refine j0e (h141 _ _ (hr _ (List.getElem_mem hk))) rfl rfl (fun _ => rfl) ?_
     by_cases hne : lst (lst a)[k] = lst (lst b)[k]
     · simp [hne]
       refine ⟨by omega, fun i hi => ?_⟩
       rcases Nat.lt_or_ge i k with h2 | h2
       · have := h1 i h2
         simpa using this
       · have : i = k := by omega
         subst this
         simp [hk, hk2, hne]
     · simp [hne]
       intro h2
       have h3 := congrArg (fun l => l[k]?) h2
       simp [hk, hk2] at h3
       exact hne h3
   · rintro e ⟨h1, rfl⟩
     simp [hl]
     apply List.ext_getElem?
     intro i
     rcases Nat.lt_or_ge i (lst a).length with h2 | h2
     · exact h1 i h2
     · rw [List.getElem?_eq_none (by simpa using h2), List.getElem?_eq_none (by simp; omega)]
   · exact ⟨fun i hi => by omega, by simp⟩
 · have : (lst a).map lst ≠ (lst b).map lst := fun h => hl (by have := congrArg List.length h; simpa using this)
   have h2 : ((lst a).length : Int) ≠ (lst b).length := by omega
   simp [j29, h2, this]

def w17 (pg : Pg) : Prop := ∀ a b : Rw (Rw Int), small a → Call pg 178 [rawT a, rawT b] [rawT a, rawT b] (B (decide ((lst a).map lst = (lst b).map lst)))
theorem j93.o {pg : Pg} (h : j93 pg) (o o' : Option (List Int)) (hs : (lso o).length ≤ 1048576) : Call pg 141 [rawI (.ofO o), rawI (.ofO o')] [rawI (.ofO o), rawI (.ofO o')] (B (decide (lso o = lso o'))) := by
 have := h (.ofO o) (.ofO o') (by simpa using hs)
 simpa using this
theorem q3d.tb {pg : Pg} (h : q3d pg) (X Y : List (List Int)) (hs : j48 X) : Call pg 137 [tb X, tb Y] [tb X, tb Y] (B (decide (X = Y))) := by
 have := h (ryT (some X)) (ryT (some Y)) (j8o hs)
 simp only [q2o, q66] at this
 exact this
theorem w17.tb {pg : Pg} (h : w17 pg) (X Y : List (List Int)) (hs : j48 X) : Call pg 178 [tb X, tb Y] [tb X, tb Y] (B (decide (X = Y))) := by
 have := h (ryT (some X)) (ryT (some Y)) (j8o hs)
 simp only [q2o, q66] at this
 exact this
def z2i (pg : Pg) : Prop := ∀ X Y Z W : List (List Int), j48 X → j48 Y → Call pg 218 [sol X Y, sol Z W] [sol X Y, sol Z W] (B (decide (X = Z ∧ Y = W)))
set_option maxRecDepth 10000 in
theorem w6m {pg : Pg} (hp : pg.fn 218 = some j09) (h137 : q3d pg) : z2i pg := by
 intro X Y Z W hX hY
 refine Call.intro hp rfl (by simp) ?_
 show wp _ _ j09.body (post [.t 4] _ _ _) _
 simp [j09]
 refine j0e (h137.tb X Z hX) rfl rfl (fun _ => rfl) ?_
 by_cases h : X = Z
 · simp [h]
   refine j0e (h137.tb Y W hY) rfl rfl (fun _ => rfl) ?_
   simp
 · simp [h, j0x]
def w12 (pg : Pg) : Prop := ∀ xs : List Int, xs.length ≤ 1048576 → (∀ x ∈ xs, 0 ≤ x ∧ x ≤ 1048576) → Call pg 219 [ix xs] [ix xs] (I (greatest xs))
theorem v4h {pg : Pg} (hp : pg.fn 219 = some j7j) : w12 pg := by
 intro xs hl hx
 refine Call.intro hp rfl (by simp) ?_
 show wp _ _ j7j.body (post [.t 2] _ _ _) _
 simp [j7j]
 refine j0a (fun k e => e = fr [(0, some (.val (ix xs))), (3, some (.val (I (greatest (xs.take k))))), (4, some (.val (I k)))]) xs.length ?_ ?_ 0 _ (by omega) ?_
 · rintro k e hk rfl
   have h1 := hx _ (List.getElem_mem hk)
   have hs := j50 hk
   by_cases hg : greatest (xs.take k) ≤ xs[k]
   · rw [if_pos hg] at hs
     simp [hk, hg, hs]
     omega
   · rw [if_neg hg] at hs
     simp [hk, hg, hs]
     omega
 · rintro e rfl
   simp
 · simp [greatest]
end Go.Mch
namespace Go.Mch
theorem z6w {N : Nat} {g : Nat → Nat} (hs : ∀ w, w < N → ∃ a, a < N ∧ g a = w) : ∀ a b, a < N → b < N → g a = g b → a = b := by
 have hc : ∀ w, ∃ a, w < N → a < N ∧ g a = w := fun w => by
  by_cases h : w < N
  · obtain ⟨a, h1, h2⟩ := hs w h
    exact ⟨a, fun _ => ⟨h1, h2⟩⟩
  · exact ⟨0, fun h0 => absurd h0 h⟩
 obtain ⟨h, hh⟩ : ∃ h : Nat → Nat, ∀ w, w < N → h w < N ∧ g (h w) = w := ⟨fun w => Classical.choose (hc w), fun w hw => Classical.choose_spec (hc w) hw⟩
 have hsur := j7c (n := N) (g := h) (fun y hy => (hh y hy).1) (fun y y' h1 h2 he => by
  have e1 := (hh y h1).2
  have e2 := (hh y' h2).2
  rw [he] at e1
  omega)
 intro a b ha hb he
 obtain ⟨a', a1, rfl⟩ := hsur a ha
 obtain ⟨b', b1, rfl⟩ := hsur b hb
 rw [(hh a' a1).2, (hh b' b1).2] at he
 rw [he]
theorem q46 {n x y : Nat} (hy : y < n) : (x * n + y) / n = x ∧ (x * n + y) % n = y := by
 have hn : 0 < n := by omega
 refine ⟨?_, ?_⟩
 · rw [Nat.add_comm, Nat.add_mul_div_right _ _ hn, Nat.div_eq_of_lt hy, Nat.zero_add]
 · rw [Nat.add_comm, Nat.add_mul_mod_self_right, Nat.mod_eq_of_lt hy]
theorem q74 {n x y : Nat} (hx : x < n) (hy : y < n) : x * n + y < n * n := by
 have : (x + 1) * n ≤ n * n := Nat.mul_le_mul_right n hx
 have h2 : (x + 1) * n = x * n + n := Nat.succ_mul x n
 omega
theorem z3h {n x y x' y' : Nat} (hy : y < n) (hy' : y' < n) (h : x * n + y = x' * n + y') : x = x' ∧ y = y' := by
 have h1 := q46 (x := x) hy
 have h2 := q46 (x := x') hy'
 rw [h] at h1
 exact ⟨h1.1.symm.trans h2.1, h1.2.symm.trans h2.2⟩
def ldN (f s : List (List Int)) (a : Nat) : Nat := σN f (a / f.length) (a % f.length) * f.length + τN s (a % f.length) (a / f.length)
theorem v7v {f s : List (List Int)} (h : PM f s) (a : Nat) : ldN f s a < f.length * f.length := q74 (h.v2f _ _).2 (h.v2s _ _).2
theorem w5v {f s : List (List Int)} (h : PM f s) : Inj f s ↔ ∀ a b, a < f.length * f.length → b < f.length * f.length → ldN f s a = ldN f s b → a = b := by
 constructor
 · intro hi a b ha hb he
   apply Classical.byContradiction
   intro hne
   obtain ⟨e1, e2⟩ := z3h (h.v2s (a / f.length) (a % f.length)).2 (h.v2s (b / f.length) (b % f.length)).2 he
   have a1 := (h.v2f (a / f.length) (a % f.length)).1
   have a2 := (h.v2f (b / f.length) (b % f.length)).1
   have a3 := (h.v2s (a / f.length) (a % f.length)).1
   have a4 := (h.v2s (b / f.length) (b % f.length)).1
   exact hi a ha b hb ⟨hne, by rw [← a1, ← a2, e1], by rw [← a3, ← a4, e2]⟩
 · intro hi a ha b hb ⟨hne, e1, e2⟩
   refine hne (hi a b ha hb ?_)
   unfold ldN σN τN
   rw [e1, e2]
theorem w7i {f s : List (List Int)} (h : Rg f s) (hi : Inj f s) : Inj (retF f s) (retS f s) := by
 have hpm := h.1
 have hr := q90 h
 have q := q1i hpm
 rw [w5v hr.1]
 rw [w5v hpm] at hi
 have hsur := j7c (n := f.length * f.length) (g := ldN f s) (fun y _ => v7v hpm y) (fun y y' h1 h2 he => hi y y' h1 h2 he)
 refine z6w fun w hw => ?_
 rw [q44] at hw ⊢
 have hm0 := q8k (s := s) hpm.pos
 have hk : w / clM f s < clM f s := Nat.div_lt_of_lt_mul hw
 have hl : w % clM f s < clM f s := Nat.mod_lt _ hm0
 have dk := q.dn _ hk
 have dl := q.dn _ hl
 obtain ⟨a, ha, he⟩ := hsur (clD f s (w / clM f s) * f.length + clD f s (w % clM f s)) (q74 dk dl)
 have hx : a / f.length < f.length := Nat.div_lt_of_lt_mul ha
 have hy : a % f.length < f.length := Nat.mod_lt _ hpm.pos
 obtain ⟨e1, e2⟩ := z3h (hpm.v2s (a / f.length) (a % f.length)).2 dl he
 generalize a / f.length = x at *
 generalize a % f.length = y at *
 have cx := q.cm x hx
 have cy := q.cm y hy
 refine ⟨clC f s x * clM f s + clC f s y, q74 cx cy, ?_⟩
 obtain ⟨p1, p2⟩ := q46 (x := clC f s x) cy
 obtain ⟨r1, r2⟩ := z9p h hx hy
 unfold ldN
 rw [q44, p1, p2]
 have s1 : σN (retF f s) (clC f s x) (clC f s y) = w / clM f s := by
  unfold σN; rw [r1, e1, q.cd _ hk, Int.toNat_natCast]
 have s2 : τN (retS f s) (clC f s y) (clC f s x) = w % clM f s := by
  unfold τN; rw [r2, e2, q.cd _ hl, Int.toNat_natCast]
 rw [s1, s2, Nat.mul_comm]
 exact Nat.div_add_mod _ _
theorem z9o {f s : List (List Int)} (h : j5c f s) : j5c (retF f s) (retS f s) := by
 have hr := q90 (rg_of h)
 refine ⟨⟨?_, w7i (rg_of h) h.1.2.1, hr.2.1⟩, hr.2.2⟩
 have hp := hr.1
 exact ⟨⟨hp.pos, hp.small, hp.tf⟩, ⟨by rw [hp.len]; exact hp.pos, by rw [hp.len]; exact hp.small, hp.ts⟩, hp.len.symm⟩

end Go.Mch
namespace Go.Mch
def q8q (pg : Pg) : Prop := Call pg 218 [.agg [nil, nil], .agg [nil, nil]] [.agg [nil, nil], .agg [nil, nil]] (B true)
theorem w2s {pg : Pg} (hp : pg.fn 218 = some j09) (h137 : q3d pg) : q8q pg := by
 have h0 : Call pg 137 [nil, nil] [nil, nil] (B true) := by
  have := h137 .no .no ⟨by simp, by simp⟩
  simpa [rawT] using this
 refine Call.intro hp rfl (by simp) ?_
 show wp _ _ j09.body (post [.t 4] _ _ _) _
 simp [j09]
 refine j0e h0 rfl rfl (fun _ => rfl) ?_
 simp
 refine j0e h0 rfl rfl (fun _ => rfl) ?_
 simp
theorem j93.ix {pg : Pg} (h : j93 pg) (X Y : List Int) (hs : X.length ≤ 1048576) : Call pg 141 [ix X, ix Y] [ix X, ix Y] (B (decide (X = Y))) := h (.of X) (.of Y) hs
end Go.Mch
namespace Go.Mch
def Rn (k : Int) : Prop := -4611686018427387904 ≤ k ∧ k ≤ 1099511627776
def z2m (pg : Pg) : Prop := ∀ (c : Rw Int) (s : Int × Int) (n : Int), Sr c s → -1 ≤ n → n ≤ 1048576 → ∃ (s' : Int × Int) (k : Int), (Sr c s' ∧ Rn k) ∧ Call pg 293 [src c s, I n] [src c s', I n] (I k)
set_option maxRecDepth 10000 in
theorem w6u {pg : Pg} (hp : pg.fn 293 = some j2f) (h336 : q0k pg) (h292 : q7n pg) : z2m pg := by
 intro c s n hs m0 m12
 have hfind := Call.q3y (α := (Int × Int) × Int) (Q := fun Y => Sr c Y.1 ∧ Rn Y.2) (args := [src c s, I n]) (args' := fun Y => [src c Y.1, I n]) (r := fun Y => I Y.2) hp rfl (by simp [F.lets, j2f, List.range, List.range.loop]) (by simp [kindOf]) ?_
 · obtain ⟨Y, h1, h2⟩ := hfind
   exact ⟨_, _, h1, h2⟩
 show wp _ _ j2f.body (j59 _ _ _ _ _) _
 generalize hR : j59 (fun Y : (Int × Int) × Int => Sr c Y.1 ∧ Rn Y.2) j2f.rs [src c s, I n] (fun Y => [src c Y.1, I n]) (fun Y => I Y.2) = R
 have hfin : ∀ (s' : Int × Int) (k : Int), Sr c s' → Rn k → R .ret (fr [(0, some (.val (src c s'))), (1, some (.val (I n))), (4, some (.val (I k)))]) := by
  intro s' k a1 a2
  subst hR
  exact ⟨(s', k), ⟨a1, a2⟩, by simp [post, j2f]⟩
 obtain ⟨s1, r, ⟨k1, k2⟩, hc1⟩ := h336.at hs (n := 14) (by omega)
 simp [j2f]
 refine j1k (ts' := [rawB c, I s1.1, H64 s1.2]) (r := I r) (by simpa using hc1) ?_
 by_cases hr : r = 0
 · obtain ⟨s2, z, ⟨j1, j2⟩, hc2⟩ := h292 c s1 [-1, n + 1, 1099511627776, -4611686018427387904] k1 (by simp) (by simp)
   simp [hr]
   refine ⟨by omega, ?_⟩
   refine j1k (ts' := [rawB c, I s2.1, H64 s2.2]) (r := I z) (by simpa [ix] using hc2) ?_
   simp
   refine hfin s2 z j1 ?_
   simp at j2
   rcases j2 with rfl | rfl | rfl | rfl <;> constructor <;> omega
 · obtain ⟨s2, z, ⟨j1, j2, j3, j4⟩, hc2⟩ := h336 c s1 (n + 1) k1
   have hz : 0 ≤ z ∧ z ≤ n + 1 := by
    by_cases h1 : 1 ≤ n + 1
    · have := j3 h1; omega
    · have := j4 (by omega); omega
   simp [hr]
   refine ⟨by omega, ?_⟩
   refine j1k (ts' := [rawB c, I s2.1, H64 s2.2]) (r := I z) (by simpa using hc2) ?_
   simp
   exact hfin s2 z j1 ⟨by omega, by omega⟩
def z7m (pg : Pg) (f : Nat) : Prop := ∀ c : Rw Int, okB c → ∃ (X : S2) (k : Int), (Bd X.1 ∧ Bd X.2 ∧ Rn k) ∧ Call pg f [rawB c] [rawB c] (.tup [ownS X, I k])
set_option maxRecDepth 10000 in
theorem t_dSL {pg : Pg} (hp : pg.fn 253 = some j1p) (h269 : z5b pg) (h268 : z2h pg 268) (h292 : q7n pg) : z7m pg 253 := by
 intro c hc
 obtain ⟨s, hs, hc1⟩ := h269 c hc
 obtain ⟨s1, X, ⟨k1, k2, k3⟩, hc2⟩ := h268 c s 10 hs (by omega) (by omega)
 obtain ⟨s2, k, ⟨k4, k5⟩, hc3⟩ := h292 c s1 [0, 1, 1, 2, 3, -1] k1 (by simp) (by simp)
 refine ⟨X, k, ⟨k2, k3, by simp at k5; rcases k5 with rfl | rfl | rfl | rfl | rfl | rfl <;> constructor <;> omega⟩, Call.intro hp rfl (by simp) ?_⟩
 show wp _ _ j1p.body (post [.cell 2 (some 2), .t 3] _ _ _) _
 simp [j1p]
 refine j0e hc1 rfl rfl (fun h => by simp at h) ?_
 simp
 refine j1k (ts' := [rawB c, I s1.1, H64 s1.2]) (r := ownS X) (by simpa using hc2) ?_
 simp
 refine j1k (ts' := [rawB c, I s2.1, H64 s2.2]) (r := I k) (by simpa [ix] using hc3) ?_
 simp
set_option maxRecDepth 10000 in
theorem t_dCS {pg : Pg} (hp : pg.fn 254 = some j1l) (h269 : z5b pg) (h268 : z2h pg 268) (h292 : q7n pg) (h293 : z2m pg) : z7m pg 254 := by
 intro c hc
 obtain ⟨s, hs, hc1⟩ := h269 c hc
 obtain ⟨s1, X, ⟨k1, k2, k3⟩, hc2⟩ := h268 c s 10 hs (by omega) (by omega)
 obtain ⟨s2, r, ⟨k4, k5⟩, hc3⟩ := h292 c s1 [0, 1, 2] k1 (by simp) (by simp)
 have hr : 0 ≤ r ∧ r ≤ 2 := by simp at k5; rcases k5 with rfl | rfl | rfl <;> omega
 obtain ⟨s3, k, ⟨k6, k7⟩, hc4⟩ := h293 c s2 r k4 (by omega) (by omega)
 refine ⟨X, k, ⟨k2, k3, k7⟩, Call.intro hp rfl (by simp) ?_⟩
 show wp _ _ j1l.body (post [.cell 2 (some 2), .t 3] _ _ _) _
 simp [j1l]
 refine j0e hc1 rfl rfl (fun h => by simp at h) ?_
 simp
 refine j1k (ts' := [rawB c, I s1.1, H64 s1.2]) (r := ownS X) (by simpa using hc2) ?_
 simp
 refine j1k (ts' := [rawB c, I s2.1, H64 s2.2]) (r := I r) (by simpa [ix] using hc3) ?_
 simp
 refine j1k (ts' := [rawB c, I s3.1, H64 s3.2]) (r := I k) (by simpa using hc4) ?_
 simp
end Go.Mch
namespace Go.Mch
def serA (f s : List (List Int)) : Nat → List (List Int) × List (List Int)
 | 0 => (f, s)
 | k + 1 => (retF (serA f s k).1 (serA f s k).2, retS (serA f s k).1 (serA f s k).2)
theorem z5x (f s : List (List Int)) (k : Nat) : serA (retF f s) (retS f s) k = serA f s (k + 1) := by
 induction k with
 | zero => rfl
 | succ k ih => rw [serA, ih]; rfl
theorem z2z (n : Nat) : ∀ (f s : List (List Int)) (i : Nat) (h : i < (serL n f s).length), (serL n f s)[i] = serA f s i := by
 induction n with
 | zero => intro f s i h; simp [serL] at h
 | succ n ih =>
  intro f s i h
  cases i with
  | zero => simp [serL, serA]
  | succ i =>
   by_cases hc : clM f s = f.length
   · simp [serL, hc] at h
   · have hl : i < (serL n (retF f s) (retS f s)).length := by simpa [serL, hc] using h
     have := ih (retF f s) (retS f s) i hl
     rw [z5x] at this
     simpa [serL, hc] using this
theorem j60 {f s : List (List Int)} (h : j5c f s) (k : Nat) : j5c (serA f s k).1 (serA f s k).2 := by
 induction k with
 | zero => exact h
 | succ k ih => exact z9o ih
theorem j75 {f s : List (List Int)} (h : j5c f s) (k : Nat) : fits (serA f s k).1 ∧ fits (serA f s k).2 := by
 have hpm := PM.of (j60 h k).1.1
 have h12 := hpm.small
 have hl := hpm.len
 refine ⟨⟨by omega, fun r hr => ?_⟩, ⟨by omega, fun r hr => ?_⟩⟩
 · have := (hpm.tf r hr).1; omega
 · have := (hpm.ts r hr).1; omega
def slN (f s : List (List Int)) : Nat → Nat → Nat
 | 0, x => x
 | k + 1, x => clC (serA f s k).1 (serA f s k).2 (slN f s k x)
theorem q9j {f s : List (List Int)} (h : j5c f s) {x : Nat} (hx : x < f.length) (k : Nat) : slN f s k x < (serA f s k).1.length := by
 induction k with
 | zero => exact hx
 | succ k ih =>
  have hpm := PM.of (j60 h k).1.1
  have := (q1i hpm).cm _ ih
  simpa [slN, serA] using this
theorem w6z {f s : List (List Int)} (h : j5c f s) (k : Nat) {w : Nat} (hw : w < (serA f s k).1.length) : ∃ x, x < f.length ∧ slN f s k x = w := by
 induction k generalizing w with
 | zero => exact ⟨w, hw, rfl⟩
 | succ k ih =>
  have hq := q1i (PM.of (j60 h k).1.1)
  have hw' : w < clM (serA f s k).1 (serA f s k).2 := by simpa [serA] using hw
  obtain ⟨x, hx, e⟩ := ih (hq.dn w hw')
  exact ⟨x, hx, by rw [slN, e, hq.cd w hw']⟩
theorem z1j {f s : List (List Int)} (h : j5c f s) {x : Nat} (hx : x < f.length) (k : Nat) (hk : k ≤ (serL f.length f s).length) : (slL f s k).getD x 0 = (slN f s k x : Int) := by
 induction k with
 | zero => simp [slL, slN, idL, hx]
 | succ k ih =>
  have ihk := ih (by omega)
  have hl := q9j h hx k
  have hxl : x < (slL f s k).length := by simpa using hx
  rw [q33 (by omega), z2z]
  have e : (slL f s k)[x] = (slN f s k x : Int) := by rw [← ihk, List.getD_eq_getElem?_getD, List.getElem?_eq_getElem hxl]; rfl
  have := (j83 (f := (serA f s k).1) (s := (serA f s k).2) hl).1
  rw [slN, this, j31, List.getD_eq_getElem?_getD, List.getElem?_map, List.getElem?_eq_getElem hxl]
  simp only [Option.map_some, Option.getD_some, e, Int.toNat_natCast]
theorem w60 {f s : List (List Int)} (h : j5c f s) {x y : Nat} (hx : x < f.length) (hy : y < f.length) (k : Nat) :
 v2 (serA f s k).1 (slN f s k x) (slN f s k y) = (slN f s k (σN f x y) : Int) ∧ v2 (serA f s k).2 (slN f s k x) (slN f s k y) = (slN f s k (τN s y x) : Int) := by
 induction k with
 | zero =>
  have hpm := PM.of h.1.1
  exact ⟨(hpm.v2f x y).1.symm, (hpm.v2s x y).1.symm⟩
 | succ k ih =>
  obtain ⟨i1, i2⟩ := ih
  obtain ⟨r1, r2⟩ := z9p (rg_of (j60 h k)) (q9j h hx k) (q9j h hy k)
  have e1 : σN (serA f s k).1 (slN f s k x) (slN f s k y) = slN f s k (σN f x y) := by rw [σN, i1, Int.toNat_natCast]
  have e2 : τN (serA f s k).2 (slN f s k y) (slN f s k x) = slN f s k (τN s y x) := by rw [τN, i2, Int.toNat_natCast]
  rw [e1] at r1
  rw [e2] at r2
  exact ⟨r1, r2⟩
theorem z0j {xs : List Int} {m : Nat} (h : ∀ x ∈ xs, x < m) : ∀ k, k ≤ xs.length → greatest (xs.take k) ≤ m := by
 intro k
 induction k with
 | zero => intro _; simp [greatest]
 | succ k ih =>
  intro hk
  have := ih (by omega)
  have h2 := h _ (List.getElem_mem (show k < xs.length by omega))
  rw [j50 (by omega)]
  split <;> omega
theorem z0k {xs : List Int} : ∀ k, k ≤ xs.length → ∀ i (_ : i < k) (hl : i < xs.length), xs[i] < greatest (xs.take k) := by
 intro k
 induction k with
 | zero => intro _ i _; omega
 | succ k ih =>
  intro hk i hi hl
  rw [j50 (by omega)]
  by_cases hik : i = k
  · subst hik
    split <;> omega
  · have := ih (by omega) i (by omega) hl
    split <;> omega
theorem z15 {xs : List Int} {m : Nat} (h : ∀ x ∈ xs, x < m) (hs : ∀ w : Nat, w < m → (w : Int) ∈ xs) (h0 : 0 < m) : greatest xs = m := by
 have h1 := z0j h xs.length (Nat.le_refl _)
 obtain ⟨i, hi, e⟩ := List.getElem_of_mem (hs (m - 1) (by omega))
 have h2 := z0k xs.length (Nat.le_refl _) i hi hi
 rw [List.take_length] at h1 h2
 omega
theorem z8u {f s : List (List Int)} (h : j5c f s) (k : Nat) (hk : k ≤ (serL f.length f s).length) : greatest (slL f s k) = ((serA f s k).1.length : Int) := by
 have hpm := PM.of (j60 h k).1.1
 refine z15 (fun v hv => ?_) (fun w hw => ?_) hpm.pos
 · obtain ⟨i, hi, rfl⟩ := List.getElem_of_mem hv
   have hi' : i < f.length := by simpa using hi
   have e := z1j h hi' k hk
   rw [List.getD_eq_getElem?_getD, List.getElem?_eq_getElem hi, Option.getD_some] at e
   have := q9j h hi' k
   omega
 · obtain ⟨x, hx, rfl⟩ := w6z h k hw
   have hxl : x < (slL f s k).length := by simpa using hx
   have e := z1j h hx k hk
   rw [List.getD_eq_getElem?_getD, List.getElem?_eq_getElem hxl, Option.getD_some] at e
   rw [← e]
   exact List.getElem_mem hxl
theorem w7b {f s : List (List Int)} {k : Nat} (hk : k < (serL f.length f s).length) : (rsL f s).getD k 0 = ((serA f s k).1.length : Int) := by
 rw [rsL, List.getD_eq_getElem?_getD, List.getElem?_map, List.getElem?_eq_getElem hk, z2z]
 rfl
@[simp] theorem z6i (f s : List (List Int)) : (rsL f s).length = (serL f.length f s).length := by simp [rsL]
end Go.Mch
namespace Go.Mch
theorem w5z (X Y : List (List Int)) (y : Value) : T.frz .fresh (.tup [.agg [.mem .own (some 1) (rows X), .mem .own (some 1) (rows Y)], .sc y]) = .tup [.agg [frT X, frT Y], .sc y] := by
 show T.tup [T.agg [T.mem .fresh (some 1) (T.frzL .fresh (rows X)), T.mem .fresh (some 1) (T.frzL .fresh (rows Y))], .sc y] = _
 rw [q0c, q0c]
theorem z2v {f : List (List Int)} {l : List Int} (h : l.length ≤ 1048576) : j48 (subT f l) := ⟨by simpa [subT] using h, fun r hr => by rw [j4j hr]; exact h⟩
def z5a (pg : Pg) : Prop := ∀ c : Rw Int, okB c → ∃ args', Call pg 121 [rawB c] args' (B true)
set_option maxHeartbeats 2000000 in
set_option maxRecDepth 20000 in
theorem w2t {pg : Pg} (hp : pg.fn 121 = some j4v) (h128 : w91 pg) (h253 : z7m pg 253) (h202 : S_sl pg 202) (h201 : S_sl pg 201) (h141 : j93 pg) (h189 : S_rs pg 189) (h187 : S_ro pg 187) (h186 : S_ro pg 186) (h218 : z2i pg) (h218z : q8q pg) (h219 : w12 pg) (h254 : z7m pg 254) (h200 : S_cs pg 200) (h199 : S_cs pg 199) : z5a pg := by
 intro c hc
 obtain ⟨X, k, ⟨hX1, hX2, hk⟩, hd⟩ := h253 c hc
 obtain ⟨f, s⟩ := X
 have hf : fits f := ⟨by have := hX1.1; simp only at this; omega, fun r hr => by have := hX1.2 r hr; omega⟩
 have hs : fits s := ⟨by have := hX2.1; simp only at this; omega, fun r hr => by have := hX2.2 r hr; omega⟩
 refine ⟨[rawB c], Call.intro hp rfl (by simp) ?_⟩
 show wp _ _ j4v.body (post [.t 2] _ _ _) _
 simp [j4v]
 refine j0e (h128 c) rfl rfl (fun _ => rfl) ?_
 by_cases hbig : (4096 : Int) < (lst c).length
 · simp [hbig]
 · simp [hbig]
   refine j0e hd rfl rfl (fun _ => by simp) ?_
   simp [w5z]
   obtain ⟨o1, e1, hc1⟩ := h202 f s k hf hs
   obtain ⟨o2, e2, hc2⟩ := h201 f s k hf hs
   by_cases h : j5c f s
   · obtain ⟨o3, e3, hc3⟩ := h189 f s hf hs
     simp only [j1a h] at e3 hc3
     have hpm := PM.of h.1.1
     have h12 := hpm.small
     have h0 := hpm.pos
     have hL := q34 f.length f s
     have hL0 : 0 < (serL f.length f s).length := by
      obtain ⟨P, F, S, e⟩ := z8y (f := f) (s := s) h0
      rw [e]; simp
     have hrl := z6i f s
     obtain rfl : o3 = some (rsL f s) := by
      cases o3 with
      | none => simp only [q78] at e3; rw [← e3] at hrl; simp at hrl; omega
      | some l => simp only [j7s] at e3; rw [e3]
     simp only [ownI] at hc3
     by_cases hr : 0 ≤ k ∧ k ≤ ((serL f.length f s).length : Int) - 1
     · obtain ⟨K, rfl⟩ : ∃ K : Nat, k = K := ⟨k.toNat, by omega⟩
       have hK : K < (serL f.length f s).length := by omega
       have e0 : slR f s K = slL f s K := by simp only [slR, j1a h, if_pos hr, Int.toNat_natCast]
       have c0 : slC f s K = 0 := by simp only [slC, j1a h, if_pos hr]
       rw [e0] at e1 e2
       rw [c0] at hc1 hc2
       have hll : (slL f s K).length = f.length := q2k f s K
       obtain rfl : o1 = some (slL f s K) := by
        cases o1 with
        | none => simp only [q78] at e1; rw [← e1] at hll; simp at hll; omega
        | some l => simp only [j7s] at e1; rw [e1]
       obtain rfl : o2 = some (slL f s K) := by
        cases o2 with
        | none => simp only [q78] at e2; rw [← e2] at hll; simp at hll; omega
        | some l => simp only [j7s] at e2; rw [e2]
       simp only [ownI] at hc1 hc2
       have hlk := h141.ix (slL f s K) (slL f s K) (by omega)
       have hget : ∀ x (hx : x < (slL f s K).length), (slL f s K)[x] = (slN f s K x : Int) := fun x hx => by
        have := z1j h (x := x) (by omega) K (by omega)
        rw [← this, List.getD_eq_getElem?_getD, List.getElem?_eq_getElem hx]; rfl
       have hlt : ∀ x, x < f.length → slN f s K x < (serA f s K).1.length := fun x hx => q9j h hx K
       have hgr : ∀ x ∈ slL f s K, 0 ≤ x ∧ x ≤ 1048576 := fun x hx => by
        obtain ⟨i, hi, rfl⟩ := List.getElem_of_mem hx
        have a1 := hget i hi
        have a2 := hlt i (by omega)
        have a3 := (PM.of (j60 h K).1.1).small
        omega
       have hct := h219 (slL f s K) (by omega) hgr
       rw [z8u h K (by omega)] at hct
       have hsz : K < (rsL f s).length := by omega
       have hsk : (rsL f s)[K] = ((serA f s K).1.length : Int) := by
        have := w7b hK
        rw [List.getD_eq_getElem?_getD, List.getElem?_eq_getElem hsz] at this; exact this
       have hro := fun i => h187 (serA f s i).1 (serA f s i).2 (j75 h i).1 (j75 h i).2
       have hri := fun i => h186 (serA f s i).1 (serA f s i).2 (j75 h i).1 (j75 h i).2
       have hls := fun i => h218 (serA f s (i + 1)).1 (serA f s (i + 1)).2 (serA f s (i + 1)).1 (serA f s (i + 1)).2 (j75 h (i + 1)).1 (j75 h (i + 1)).2
       have hrs : ∀ i, solT (roR (serA f s i).1 (serA f s i).2) = .agg [j1g (serA f s (i + 1)).1, j1g (serA f s (i + 1)).2] := fun i => by rw [roR, if_pos (j60 h i)]; rfl
       have hrc : ∀ i, q48 (1 : Int) (fun _ _ => 0) (serA f s i).1 (serA f s i).2 = 0 := fun i => j1a (j60 h i)
       simp only [hrs, hrc] at hro hri
       refine j0e hc1 rfl rfl (fun _ => by simp) ?_
       simp
       refine j0e hc2 rfl rfl (fun _ => by simp) ?_
       simp
       refine j0e hlk rfl rfl (fun _ => rfl) ?_
       simp
       refine j0e hc3 rfl rfl (fun _ => by simp) ?_
       simp [hrl, hK]
       refine j0a (fun i e => e = fr [(0, some (.val (rawB c))), (3, some (.val (.mem .own none [frT f, frT s]))), (4, some (.val (I K))), (5, some (.val (ownL (slL f s K)))), (9, some (.val (ownL (rsL f s)))), (11, some (.val (.mem .own none [frT (serA f s i).1, frT (serA f s i).2]))), (12, some (.val (I i)))]) K ?_ ?_ 0 _ (by omega) rfl
       · rintro i e hi rfl
         simp [hi]
         refine j0e (hro i) rfl rfl (fun _ => by simp) ?_
         simp [w5z]
         refine j0e (hri i) rfl rfl (fun _ => by simp) ?_
         simp
         refine j0e (hls i) rfl rfl (fun _ => rfl) ?_
         simp
         omega
       · rintro e rfl
         have hpK := PM.of (j60 h K).1.1
         have hFl := hpK.len
         have hled := fun {x y : Nat} hx hy => w60 h (x := x) (y := y) hx hy K
         obtain ⟨Y, k2, ⟨hY1, hY2, hk2⟩, hd2⟩ := h254 c hc
         generalize (serA f s K).1 = F at *
         generalize (serA f s K).2 = S at *
         simp [hrl, hK, hsk]
         refine j0e hct rfl rfl (fun _ => rfl) ?_
         simp [hrl, hK, hsk, hFl]
         refine j0a (fun x e => e = fr [(0, some (.val (rawB c))), (3, some (.val (.mem .own none [frT f, frT s]))), (5, some (.val (ownL (slL f s K)))), (11, some (.val (.mem .own none [frT F, frT S]))), (17, some (.val (I x)))]) f.length ?_ ?_ 0 _ (by omega) rfl
         · rintro x e hx rfl
           simp [hx, hll]
           refine j0a (fun y e => e = fr [(0, some (.val (rawB c))), (3, some (.val (.mem .own none [frT f, frT s]))), (5, some (.val (ownL (slL f s K)))), (11, some (.val (.mem .own none [frT F, frT S]))), (17, some (.val (I x))), (18, some (.val (I y)))]) f.length ?_ ?_ 0 _ (by omega) rfl
           · rintro y e hy rfl
             have xL : x < (slL f s K).length := by omega
             have yL : y < (slL f s K).length := by omega
             have eX := hget x xL
             have eY := hget y yL
             have hlx := hlt x hx
             have hly := hlt y hy
             obtain ⟨q1, q2⟩ := hled hx hy
             obtain ⟨p1, p1'⟩ := hpm.v2f x y
             obtain ⟨p2, p2'⟩ := hpm.v2s x y
             have xs : x < s.length := by rw [hpm.len]; exact hx
             have hrow := hpm.tf.row hx
             have hrow2 := hpm.ts.row xs
             have hsl := hpm.len
             have yf : y < (f[x]).length := by omega
             have ys : y < (s[x]).length := by omega
             have w1 : (f[x])[y] = (σN f x y : Int) := by rw [j2a hx yf, p1]
             have w2 : (s[x])[y] = (τN s y x : Int) := by rw [j2a xs ys, p2]
             have e3 := hget (σN f x y) (by omega)
             have e4 := hget (τN s y x) (by omega)
             have hFr := hpK.tf.row hlx
             have hSx : slN f s K x < S.length := by omega
             have hSr := hpK.ts.row hSx
             have hFy : slN f s K y < (F[slN f s K x]).length := by omega
             have hSy : slN f s K y < (S[slN f s K x]).length := by omega
             have hSy2 : slN f s K y < S.length := by omega
             have w3 := j2a hlx hFy
             have w4 := j2a hSx hSy
             rw [q1] at w3
             rw [q2] at w4
             simp [frT, hx, hy, hll, eX, eY, hlx, hly, xs, yf, ys, w1, w2, e3, e4, hFr, hSr, hSx, hSy2, w3, w4, p1', p2']
             omega
           · rintro e rfl
             simp [hll]
             omega
         · rintro e rfl
           obtain ⟨f2, s2⟩ := Y
           have hf2 : fits f2 := ⟨by have := hY1.1; simp only at this; omega, fun r hr => by have := hY1.2 r hr; omega⟩
           have hs2 : fits s2 := ⟨by have := hY2.1; simp only at this; omega, fun r hr => by have := hY2.2 r hr; omega⟩
           have hca := h200 f2 s2 k2 hf2 hs2
           have hcb := h199 f2 s2 k2 hf2 hs2
           simp [hll]
           refine j0e hd2 rfl rfl (fun _ => by simp) ?_
           simp
           by_cases hcs : j5c f2 s2 ∧ csM f2 s2 k2 ≠ [] ∧ clo f2 s2 (csM f2 s2 k2)
           · have hM : (csM f2 s2 k2).length ≤ 12 := by
              have h1 := (z19 hcs.2.1).2
              have h2 := (PM.of hcs.1.1.1).small
              omega
             have e1 : csR f2 s2 k2 = some (subT f2 (csM f2 s2 k2), subT s2 (csM f2 s2 k2)) := if_pos hcs
             rw [e1] at hca hcb
             have hlk2 := h218 (subT f2 (csM f2 s2 k2)) (subT s2 (csM f2 s2 k2)) (subT f2 (csM f2 s2 k2)) (subT s2 (csM f2 s2 k2)) (z2v (by omega)) (z2v (by omega))
             simp only [solT] at hca hcb
             refine j0e hca rfl rfl (fun _ => by simp) ?_
             simp
             refine j0e hcb rfl rfl (fun _ => by simp) ?_
             simp
             refine j0e hlk2 rfl rfl (fun _ => rfl) ?_
             simp
           · have e1 : csR f2 s2 k2 = none := if_neg hcs
             rw [e1] at hca hcb
             simp only [solT] at hca hcb
             refine j0e hca rfl rfl (fun _ => by simp) ?_
             simp
             refine j0e hcb rfl rfl (fun _ => by simp) ?_
             simp
             refine j0e h218z rfl rfl (fun _ => rfl) ?_
             simp
     · have e0 : slR f s k = [] := by simp only [slR, j1a h, if_neg hr]
       have c0 : slC f s k = 4 := by simp only [slC, j1a h, if_neg hr]
       rw [e0] at e1 e2
       rw [c0] at hc1 hc2
       have hlk := h141.o o1 o2 (by rw [e1]; simp)
       have hrk : ¬ (0 ≤ k ∧ k < ((rsL f s).length : Int)) := by rw [hrl]; omega
       simp only [e1, e2] at hlk
       rcases (by cases o1 with
        | none => exact Or.inl rfl
        | some l => simp only [j7s] at e1; exact Or.inr (by rw [e1]) : o1 = none ∨ o1 = some []) with rfl | rfl <;>
       rcases (by cases o2 with
        | none => exact Or.inl rfl
        | some l => simp only [j7s] at e2; exact Or.inr (by rw [e2]) : o2 = none ∨ o2 = some []) with rfl | rfl
       all_goals
        simp only [ownI, Rw.ofO, rawI] at hc1 hc2 hlk
        refine j0e hc1 rfl rfl (fun _ => by simp) ?_
        simp
        refine j0e hc2 rfl rfl (fun _ => by simp) ?_
        simp
        refine j0e hlk rfl rfl (fun _ => rfl) ?_
        simp
        refine j0e hc3 rfl rfl (fun _ => by simp) ?_
        by_cases hk0 : 0 ≤ k
        · have hkl : ¬ k < ((serL f.length f s).length : Int) := by omega
          simp [hk0, hkl]
        · simp [hk0, j0x]
   · have e0 : slR f s k = [] := by simp only [slR, j2i h]
     have c0 : slC f s k = 1 := by simp only [slC, j2i h]
     rw [e0] at e1 e2
     rw [c0] at hc1 hc2
     have hlk := h141.o o1 o2 (by rw [e1]; simp)
     simp only [e1, e2] at hlk
     rcases (by cases o1 with
      | none => exact Or.inl rfl
      | some l => simp only [j7s] at e1; exact Or.inr (by rw [e1]) : o1 = none ∨ o1 = some []) with rfl | rfl <;>
     rcases (by cases o2 with
      | none => exact Or.inl rfl
      | some l => simp only [j7s] at e2; exact Or.inr (by rw [e2]) : o2 = none ∨ o2 = some []) with rfl | rfl
     all_goals
      simp only [ownI, Rw.ofO, rawI] at hc1 hc2 hlk
      refine j0e hc1 rfl rfl (fun _ => by simp) ?_
      simp
      refine j0e hc2 rfl rfl (fun _ => by simp) ?_
      simp
      refine j0e hlk rfl rfl (fun _ => rfl) ?_
      simp
end Go.Mch
