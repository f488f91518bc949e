/- Our texts YlB YjA YlC YlD YlE YlF YlG YlH YlI YlO YlR YgR YgS YgT YgU YlS YgX YlK YlN YlT YlU, end to end. -/
import Derived.Test.YtpaklggigidikaaGreatP1
namespace Go.Mch

def j4b (n : Nat) (r : List Int) : Prop := r.length = n ∧ ∀ v ∈ r, 0 ≤ v ∧ v < n
def TabN (n : Nat) (t : List (List Int)) : Prop := t.length = n ∧ ∀ r ∈ t, j4b n r
abbrev ownL (p : List Int) : T := .mem .own (some 1) (p.map I)
abbrev j1a (t : List (List Int)) : T := .mem .own (some 1) (rows t)
theorem j4b.set {n i : Nat} {r : List Int} {v : Int} (h : j4b n r) (hv : 0 ≤ v ∧ v < n) : j4b n (r.set i v) := by
 refine ⟨by simpa using h.1, fun x hx => ?_⟩
 rcases List.mem_or_eq_of_mem_set hx with h1 | h1
 · exact h.2 x h1
 · rw [h1]; exact hv
theorem j4b.swap {n i j : Nat} {r : List Int} (h : j4b n r) (hd : r.Nodup) (hi : i < r.length) (hj : j < r.length) : j4b n ((r.set i r[j]).set j r[i]) ∧ ((r.set i r[j]).set j r[i]).Nodup :=
 ⟨(h.set (h.2 _ (List.getElem_mem hj))).set (h.2 _ (List.getElem_mem hi)), (List.set_set_perm hi hj).nodup_iff.2 hd⟩
theorem j6x (n : Nat) : j4b n (idL n) ∧ (idL n).Nodup := by
 refine ⟨⟨by simp [idL], fun v hv => ?_⟩, ?_⟩
 · simp only [idL, List.mem_map, List.mem_range] at hv
   obtain ⟨i, hi, rfl⟩ := hv
   omega
 · unfold idL
   exact List.Pairwise.map _ (fun a b h => by omega) List.nodup_range
theorem j9c.at {pg : Pg} (h : j9c pg) {c : Rw Int} {s : Int × Int} (hs : Sr c s) {n : Nat} (hn : 0 < n) : ∃ (s' : Int × Int) (r : Nat), (Sr c s' ∧ r < n) ∧ Call pg 336 [src c s, I n] [src c s', I n] (I r) := by
 obtain ⟨s', r, ⟨g1, g2, g3, _⟩, hc⟩ := h c s n hs
 have g3 := g3 (by omega)
 obtain ⟨i, rfl⟩ : ∃ i : Nat, r = i := ⟨r.toNat, by omega⟩
 exact ⟨s', i, ⟨g1, by omega⟩, hc⟩
def S_drw (pg : Pg) : Prop := ∀ (c : Rw Int) (s : Int × Int) (n : Nat), Sr c s → n ≤ 64 → ∃ (s' : Int × Int) (p : List Int), (Sr c s' ∧ j4b n p ∧ p.Nodup) ∧ Call pg 368 [src c s, I n] [src c s', I n] (ownL p)
set_option maxRecDepth 10000 in
theorem t_drw {pg : Pg} (hp : pg.fn 368 = some j4e) (h336 : j9c pg) (h334 : q5a pg) : S_drw pg := by
 intro c s n hs hn
 have hfind := Call.q18 (α := (Int × Int) × List Int) (Q := fun Y => Sr c Y.1 ∧ j4b n Y.2 ∧ Y.2.Nodup) (args := [src c s, I n]) (args' := fun Y => [src c Y.1, I n]) (r := fun Y => ownL Y.2) hp rfl (by simp [F.lets, j4e, List.range, List.range.loop]) (by simp [kindOf]) ?_
 · obtain ⟨Y, h1, h2⟩ := hfind
   exact ⟨_, _, h1, h2⟩
 show wp _ _ j4e.body (j5n _ [.t 4] _ _ _) _
 generalize hR : j5n (fun Y : (Int × Int) × List Int => Sr c Y.1 ∧ j4b n Y.2 ∧ Y.2.Nodup) [.t 4] [src c s, I n] (fun Y => [src c Y.1, I n]) (fun Y => ownL Y.2) = R
 simp [j4e]
 refine j0f (h334 n (by omega)) rfl rfl (fun _ => by simp) ?_
 simp
 refine ⟨by omega, ?_⟩
 refine j3z (α := ((Int × Int) × List Int) × Nat) (fun z => z.2) (fun z e => (Sr c z.1.1 ∧ j4b n z.1.2 ∧ z.1.2.Nodup) ∧ z.2 ≤ n ∧ e = fr [(0, some (.val (src c z.1.1))), (1, some (.val (I n))), (5, some (.val (ownL z.1.2))), (6, some (.val (I ((z.2 : Int) - 1))))]) ?_ ((s, idL n), n) _ ⟨⟨hs, (j6x n).1, (j6x n).2⟩, Nat.le_refl _, rfl⟩
 rintro ⟨⟨s1, p⟩, j⟩ e ⟨⟨g1, g2, g3⟩, g4, rfl⟩
 simp only at g1 g2 g3 g4
 by_cases hj : 2 ≤ j
 · obtain ⟨i, rfl⟩ : ∃ i, j = i + 1 := ⟨j - 1, by omega⟩
   obtain ⟨s2, r, ⟨k1, k2⟩, hc⟩ := h336.at g1 (n := i + 1) (by omega)
   have hi : 0 < i := by omega
   have hil : i < p.length := by rw [g2.1]; omega
   have hrl : r < p.length := by rw [g2.1]; omega
   have hsw := g2.swap g3 hil hrl
   simp [hi]
   refine ⟨by omega, ?_⟩
   refine j1b (ts' := [rawB c, I s2.1, H64 s2.2]) (r := I r) (by simpa using hc) ?_
   simp [hil, hrl]
   exact ⟨by omega, by omega, by omega, s2.1, s2.2, (p.set i p[r]).set r p[i], i, by omega, ⟨k1, hsw.1, hsw.2⟩, by omega, by simp only [ownL, List.map_set]⟩
 · have hj' : ¬ (1 : Int) < (j : Int) := by omega
   simp [hj']
   subst hR
   exact ⟨(s1, p), ⟨g1, g2, g3⟩, by simp [post]⟩
theorem j7e (t : List (List Int)) (q : List Int) : rows (t ++ [q]) = rows t ++ [ownL q] := by simp [rows]
theorem TabN.snoc {n k : Nat} {t : List (List Int)} {r : List Int} (h : t.length = k ∧ ∀ r ∈ t, j4b n r) (hr : j4b n r) : (t ++ [r]).length = k + 1 ∧ ∀ x ∈ t ++ [r], j4b n x :=
 ⟨by simp [h.1], fun x hx => by
  rcases List.mem_append.1 hx with h1 | h1
  · exact h.2 x h1
  · rw [List.mem_singleton.1 h1]; exact hr⟩
def S_tbs (pg : Pg) : Prop := ∀ (c : Rw Int) (s : Int × Int) (n : Nat), Sr c s → 0 < n → n ≤ 64 → ∃ (s' : Int × Int) (t : List (List Int)), (Sr c s' ∧ TabN n t) ∧ Call pg 428 [src c s, I n] [src c s', I n] (j1a t)
set_option maxRecDepth 10000 in
theorem t_tbs {pg : Pg} (hp : pg.fn 428 = some j29) (h336 : j9c pg) (h368 : S_drw pg) : S_tbs pg := by
 intro c s n hs h0 hn
 have hfind := Call.q18 (α := (Int × Int) × List (List Int)) (Q := fun Y => Sr c Y.1 ∧ TabN n Y.2) (args := [src c s, I n]) (args' := fun Y => [src c Y.1, I n]) (r := fun Y => j1a Y.2) hp rfl (by simp [F.lets, j29, List.range, List.range.loop]) (by simp [kindOf]) ?_
 · obtain ⟨Y, h1, h2⟩ := hfind
   exact ⟨_, _, h1, h2⟩
 show wp _ _ j29.body (j5n _ [.t 4] _ _ _) _
 generalize hR : j5n (fun Y : (Int × Int) × List (List Int) => Sr c Y.1 ∧ TabN n Y.2) [.t 4] [src c s, I n] (fun Y => [src c Y.1, I n]) (fun Y => j1a Y.2) = R
 obtain ⟨s1, kd, ⟨k1, _⟩, hc1⟩ := h336.at hs (n := 3) (by omega)
 obtain ⟨s2, p, ⟨k2, k3, _⟩, hc2⟩ := h368 c s1 n k1 hn
 simp [j29]
 refine j1b (ts' := [rawB c, I s1.1, H64 s1.2]) (r := I kd) (by simpa using hc1) ?_
 simp
 refine j1b (ts' := [rawB c, I s2.1, H64 s2.2]) (r := ownL p) (by simpa using hc2) ?_
 simp
 refine j0a (fun k e => ∃ (s3 : Int × Int) (t : List (List Int)), (Sr c s3 ∧ t.length = k ∧ ∀ r ∈ t, j4b n r) ∧ e = fr [(0, some (.val (src c s3))), (1, some (.val (I n))), (5, some (.val (j1a t))), (6, some (.val (I kd))), (7, some (.val (ownL p))), (8, some (.val (I k)))]) n ?_ ?_ 0 _ (by omega) ⟨s2, [], ⟨k2, rfl, by simp⟩, rfl⟩
 · rintro k e hk ⟨s3, t, ⟨g1, g2, g3⟩, rfl⟩
   obtain ⟨s4, q, ⟨j1, j2, _⟩, hc3⟩ := h368 c s3 n g1 hn
   simp [hk]
   refine j1b (ts' := [rawB c, I s4.1, H64 s4.2]) (r := ownL q) (by simpa using hc3) ?_
   simp
   by_cases hk0 : kd = 0
   · simp [hk0]
     refine j0a (fun j e => ∃ (s5 : Int × Int) (q : List Int), (Sr c s5 ∧ j4b n q) ∧ e = fr [(0, some (.val (src c s5))), (1, some (.val (I n))), (5, some (.val (j1a t))), (6, some (.val (I 0))), (7, some (.val (ownL p))), (8, some (.val (I k))), (9, some (.val (ownL q))), (10, some (.val (I j)))]) n ?_ ?_ 0 _ (by omega) ⟨s4, q, ⟨j1, j2⟩, by simp⟩
     · rintro j e hj ⟨s5, q, ⟨i1, i2⟩, rfl⟩
       obtain ⟨s6, r, ⟨m1, m2⟩, hc4⟩ := h336.at i1 (n := n) h0
       have hl : j < q.length := by rw [i2.1]; exact hj
       simp [hj]
       refine j1b (ts' := [rawB c, I s6.1, H64 s6.2]) (r := I r) (by simpa using hc4) ?_
       simp [hl]
       exact ⟨by omega, by omega, s6.1, s6.2, q.set j r, ⟨m1, i2.set ⟨by omega, by omega⟩⟩, by simp only [ownL, List.map_set]⟩
     · rintro e ⟨s5, q, ⟨i1, i2⟩, rfl⟩
       simp
       exact ⟨by unfold roomy; omega, by omega, s5.1, s5.2, t ++ [q], ⟨i1, (TabN.snoc ⟨g2, g3⟩ i2).1, (TabN.snoc ⟨g2, g3⟩ i2).2⟩, by simp only [j1a, j7e]⟩
   · by_cases hk1 : kd = 1
     · simp [hk1]
       refine j0a (fun j e => ∃ (q : List Int), j4b n q ∧ e = fr [(0, some (.val (src c s4))), (1, some (.val (I n))), (5, some (.val (j1a t))), (6, some (.val (I 1))), (7, some (.val (ownL p))), (8, some (.val (I k))), (9, some (.val (ownL q))), (11, some (.val (I j)))]) n ?_ ?_ 0 _ (by omega) ⟨q, j2, by simp⟩
       · rintro j e hj ⟨q, i2, rfl⟩
         have hl : j < q.length := by rw [i2.1]; exact hj
         obtain ⟨m, hm, hm2⟩ : ∃ m : Nat, ((k : Int) + j).tmod n = m ∧ m < p.length := ⟨(k + j) % n, by rw [Int.tmod_eq_emod_of_nonneg (by omega), Int.natCast_emod, Int.natCast_add], by rw [k3.1]; exact Nat.mod_lt _ h0⟩
         have hn0 : ¬ n = 0 := by omega
         have hv := k3.2 _ (List.getElem_mem hm2)
         simp [hj, hl, hm, hm2, hn0]
         exact ⟨by omega, by omega, by omega, q.set j p[m], i2.set hv, by simp only [ownL, List.map_set]⟩
       · rintro e ⟨q, i2, rfl⟩
         simp
         exact ⟨by unfold roomy; omega, by omega, s4.1, s4.2, t ++ [q], ⟨j1, (TabN.snoc ⟨g2, g3⟩ i2).1, (TabN.snoc ⟨g2, g3⟩ i2).2⟩, by simp only [j1a, j7e]⟩
     · have hk1' : ¬ (kd : Int) = 1 := by omega
       simp [hk0, hk1']
       exact ⟨by unfold roomy; omega, by omega, s4.1, s4.2, t ++ [q], ⟨j1, (TabN.snoc ⟨g2, g3⟩ j2).1, (TabN.snoc ⟨g2, g3⟩ j2).2⟩, by simp only [j1a, j7e]⟩
 · rintro e ⟨s3, t, ⟨g1, g2, g3⟩, rfl⟩
   simp
   subst hR
   exact ⟨(s3, t), ⟨g1, g2, g3⟩, by simp [post]⟩
end Go.Mch
namespace Go.Mch

theorem Pm.inL {p : List Int} (h : Pm p) : inN p.length p := h.pm.1
theorem q7d {p : List Int} {x : Nat} (h : x < (invL p).length) : (invL p)[x] = (invQ p x : Int) := by simp [invL]

end Go.Mch
namespace Go.Mch
def imZ (t : List (List Int)) (p : List Int) (a b : Nat) : List (List Int) := tabL t.length fun x y => if invQ p x < a ∨ (invQ p x = a ∧ invQ p y < b) then imG t p x y else 0
@[simp] theorem q14 (t : List (List Int)) (p : List Int) (a b : Nat) : (imZ t p a b).length = t.length := by simp [imZ]
theorem q7e (t : List (List Int)) (p : List Int) (a b : Nat) {i : Nat} (h : i < (imZ t p a b).length) : (imZ t p a b)[i].length = t.length := j9f (by rw [← imZ]; exact List.getElem_mem h)
theorem imZ_next {t : List (List Int)} {p : List Int} (h : Pm p) (hl : p.length = t.length) (a : Nat) : imZ t p a t.length = imZ t p (a + 1) 0 := by
 apply q5r
 intro x y hx hy
 have := h.lt (x := y) (by omega)
 have e : (invQ p x < a ∨ (invQ p x = a ∧ invQ p y < t.length)) ↔ (invQ p x < a + 1 ∨ (invQ p x = a + 1 ∧ invQ p y < 0)) := by omega
 simp only [e]
theorem imZ_last {t : List (List Int)} {p : List Int} (h : Pm p) (hl : p.length = t.length) : imZ t p t.length 0 = imT t p := by
 apply q5r
 intro x y hx hy
 have := h.lt (x := x) (by omega)
 rw [if_pos (by omega)]
theorem imZ_set {t : List (List Int)} {p : List Int} (h : Pm p) (hl : p.length = t.length) {a b : Nat} (ha : a < p.length) (hb : b < p.length) {P Q : Nat} (hP : (p[a]).toNat = P) (hQ : (p[b]).toNat = Q) (hPl : P < (imZ t p a b).length) :
 (imZ t p a b).set P ((imZ t p a b)[P].set Q (p.getD (v2 t a b).toNat 0)) = imZ t p a (b + 1) := by
 have qP : invQ p P = a := hP ▸ h.back ha
 have qQ : invQ p Q = b := hQ ▸ h.back hb
 have hinj : ∀ x, x < p.length → invQ p x = a → x = P := fun x hx he => by
  have := h.at hx
  rw [he] at this
  simp [ha] at this
  omega
 have hinj2 : ∀ x, x < p.length → invQ p x = b → x = Q := fun x hx he => by
  have := h.at hx
  rw [he] at this
  simp [hb] at this
  omega
 apply List.ext_getElem
 · simp
 · intro i h1 h2
   have hi : i < t.length := by simpa using h2
   rw [List.getElem_set]
   by_cases hiP : P = i
   · subst hiP
     rw [if_pos rfl]
     apply List.ext_getElem
     · simp [q7e]
     · intro j h3 h4
       have hj : j < t.length := by simpa [q7e] using h4
       rw [List.getElem_set]
       simp only [imZ, tabL, List.getElem_map, List.getElem_range]
       by_cases hjQ : Q = j
       · subst hjQ
         rw [if_pos rfl, if_pos (by omega), imG, qP, qQ]
       · rw [if_neg hjQ]
         have : invQ p j ≠ b := fun he => hjQ (hinj2 j (by omega) he).symm
         have e : (invQ p P < a ∨ (invQ p P = a ∧ invQ p j < b)) ↔ (invQ p P < a ∨ (invQ p P = a ∧ invQ p j < b + 1)) := by omega
         simp only [e]
   · rw [if_neg hiP]
     have hne : invQ p i ≠ a := fun he => hiP (hinj i (by omega) he).symm
     simp only [imZ, tabL, List.getElem_map, List.getElem_range]
     refine List.map_congr_left fun j _ => ?_
     have e : (invQ p i < a ∨ (invQ p i = a ∧ invQ p j < b)) ↔ (invQ p i < a ∨ (invQ p i = a ∧ invQ p j < b + 1)) := by omega
     simp only [e]
def zTab (n k : Nat) : List (List Int) := (List.range k).map fun _ => List.replicate n 0
theorem imZ_zero (t : List (List Int)) (p : List Int) : imZ t p 0 0 = zTab t.length t.length := by
 unfold imZ zTab tabL
 refine List.map_congr_left fun x _ => ?_
 apply List.ext_getElem
 · simp
 · intro i h1 h2; simp
theorem imZ_setD {t : List (List Int)} {p : List Int} (h : Pm p) (hl : p.length = t.length) {a b : Nat} (ha : a < p.length) (hb : b < p.length) {P Q : Nat} (hP : (p[a]).toNat = P) (hQ : (p[b]).toNat = Q) :
 (imZ t p a b).set P (((imZ t p a b).getD P []).set Q (p.getD (v2 t a b).toNat 0)) = imZ t p a (b + 1) := by
 have ra := h.inL _ (List.getElem_mem ha)
 have hPl : P < (imZ t p a b).length := by rw [q14]; omega
 have := imZ_set h hl ha hb hP hQ hPl
 rw [← this, List.getD_eq_getElem?_getD, List.getElem?_eq_getElem hPl]
 rfl
set_option maxRecDepth 10000 in
theorem t_rename {pg : Pg} (hp : pg.fn 367 = some j35) : q7u pg 367 := by
 intro t p ht h hl
 have h12 := h.sm
 have h0 := h.pos
 refine Call.intro hp rfl (by simp) ?_
 show wp _ _ j35.body (post [.t 4] _ _ _) _
 simp [j35]
 refine j0a (fun k e => e = fr [(0, some (.val (tb t))), (1, some (.val (ix p))), (5, some (.val (j1a (zTab t.length k)))), (6, some (.val (I k)))]) t.length ?_ ?_ 0 _ (by omega) ?_
 · rintro k e hk rfl
   have hz : (zTab t.length (k + 1)) = zTab t.length k ++ [List.replicate t.length 0] := by simp [zTab, List.range_succ]
   have hzl : (zTab t.length k).length = k := by simp [zTab]
   rw [hz]
   generalize zTab t.length k = Z at *
   simp [hk]
   exact ⟨by unfold roomy; omega, by unfold roomy; omega, by omega, by simp only [j1a, ownL, j7e, List.map_replicate]⟩
 · rintro e rfl
   rw [← imZ_zero t p]
   simp
   refine j0a (fun a e => e = fr [(0, some (.val (tb t))), (1, some (.val (ix p))), (5, some (.val (j1a (imZ t p a 0)))), (7, some (.val (I a)))]) t.length ?_ ?_ 0 _ (by omega) ?_
   · rintro a e ha rfl
     rw [← imZ_next h hl a]
     have hap : a < p.length := by omega
     have ra := h.inL _ (List.getElem_mem hap)
     have hXl := q14 t p a 0
     have hXr := fun {i : Nat} hi => q7e t p a 0 (i := i) hi
     obtain ⟨P, hP⟩ : ∃ P, p[a] = P := ⟨_, rfl⟩
     rw [hP] at ra
     obtain ⟨P, rfl⟩ : ∃ P' : Nat, P = P' := ⟨P.toNat, by omega⟩
     have hPX : P < (imZ t p a 0).length := by omega
     have hr := hXr hPX
     have hPt : P < t.length := by omega
     have hgr : (rows (imZ t p a 0))[P]? = some (ownL (imZ t p a 0)[P]) := by rw [j55, List.getElem?_eq_getElem hPX]; rfl
     simp [ha, hap, hP, hPt, hr]
     refine j0a (fun b e => e = fr [(0, some (.val (tb t))), (1, some (.val (ix p))), (5, some (.val (j1a (imZ t p a b)))), (7, some (.val (I a))), (8, some (.sref 5 [P] 1 0 t.length)), (9, some (.val (I b)))]) t.length ?_ ?_ 0 _ (by omega) rfl
     · rintro b e hb rfl
       have hbp : b < p.length := by omega
       have rb := h.inL _ (List.getElem_mem hbp)
       have hXl := q14 t p a b
       have hXr := fun {i : Nat} hi => q7e t p a b (i := i) hi
       obtain ⟨Q, hQ⟩ : ∃ Q, p[b] = Q := ⟨_, rfl⟩
       rw [hQ] at rb
       obtain ⟨Q, rfl⟩ : ∃ Q' : Nat, Q = Q' := ⟨Q.toNat, by omega⟩
       have hset := imZ_setD h hl hap hbp (P := P) (Q := Q) (by rw [hP]; simp) (by rw [hQ]; simp)
       have hrow := ht.row ha
       have hbr : b < (t[a]).length := by rw [hrow]; exact hb
       have hv := j27 ha hbr
       have hv1 := ht.nonneg a b
       have hv2 := ht.lt (by omega) a b
       rw [← hset]
       clear hset
       generalize v2 t a b = v at *
       have hvl : v.toNat < p.length := by omega
       have hvl2 : v < p.length := by omega
       have hg : p[v.toNat] = p.getD v.toNat 0 := by simp [hvl]
       generalize p.getD v.toNat 0 = w at *
       clear hgr hr
       generalize imZ t p a b = X at *
       have hPX' : P < X.length := by omega
       have hr := hXr hPX'
       have hXg : X.getD P [] = X[P] := by simp [hPX']
       rw [hXg]
       have hQX : Q < (X[P]).length := by omega
       have hQt : (Q : Int) < t.length := by omega
       have hQt2 : Q < t.length := by omega
       have hgr : (rows X)[P]? = some (ownL X[P]) := by rw [j55, List.getElem?_eq_getElem hPX']; rfl
       simp [ha, hb, hbp, hQ, hrow, hv, hvl, hvl2, hv1, hg, hPX', hQX, hQt]
       exact ⟨by omega, by omega, by simp only [j1a, ← j8t hPX']⟩
     · rintro e rfl
       simp
       omega
   · rintro e rfl
     rw [imZ_last h hl]
     simp
   · simp
 · simp only [zTab, j1a, rows, List.range_zero, List.map_nil]; rfl
def S_renS (pg : Pg) : Prop := ∀ (f s : List (List Int)) (p : List Int), Tab f → Tab s → Pm p → p.length = f.length → p.length = s.length → Call pg 422 [sol f s, ix p] [sol f s, ix p] (.agg [j1a (imT f p), j1a (imT s p)])
set_option maxRecDepth 10000 in
theorem t_renS {pg : Pg} (hp : pg.fn 422 = some j34) (h367 : q7u pg 367) : S_renS pg := by
 intro f s p hf hs h hl hl2
 refine Call.intro hp rfl (by simp) ?_
 show wp _ _ j34.body (post [.cell 4 (some 2)] _ _ _) _
 simp [j34]
 refine j0f (h367 f p hf h hl) rfl rfl (fun _ => by simp) ?_
 simp
 refine j0f (h367 s p hs h hl2) rfl rfl (fun _ => by simp) ?_
 simp
theorem q0s {n : Nat} {t : List (List Int)} {p : List Int} (ht : TabN n t) (hp : Pm p) (hl : p.length = n) : TabN n (imT t p) := by
 have h1 : Tab t := fun r hr => ⟨by rw [(ht.2 r hr).1, ht.1], fun v hv => by rw [ht.1]; exact (ht.2 r hr).2 v hv⟩
 refine ⟨by rw [imT, tabL_length]; exact ht.1, fun r hr => ⟨by rw [j9f hr]; exact ht.1, fun v hv => ?_⟩⟩
 obtain ⟨x, hx, rfl⟩ := List.mem_map.1 hr
 obtain ⟨y, hy, rfl⟩ := List.mem_map.1 hv
 simp only [List.mem_range] at hx hy
 have hpos := hp.pos
 have a1 := h1.nonneg (invQ p x) (invQ p y)
 have a2 := h1.lt (by rw [ht.1]; omega) (invQ p x) (invQ p y)
 have a3 : (v2 t (invQ p x) (invQ p y)).toNat < p.length := by rw [ht.1] at a2; omega
 have a4 := hp.inL _ (List.getElem_mem a3)
 simp only [imG, List.getD_eq_getElem?_getD, List.getElem?_eq_getElem a3, Option.getD_some]
 omega

def PMN (n : Nat) (f s : List (List Int)) : Prop := TabN n f ∧ TabN n s
abbrev ownS (X : List (List Int) × List (List Int)) : T := .agg [j1a X.1, j1a X.2]
def j5z (X : List (List Int)) : T := if X = [] then nil else j1a X
@[simp] theorem ownN2_nil : j5z [] = nil := rfl
theorem j7a {n : Nat} {a : List Int} (h : j4b n a) : ∀ x ∈ [a], j4b n x := fun x hx => by rw [List.mem_singleton.1 hx]; exact h
theorem j2x {n : Nat} {a : List Int} {x : Int} (h : ∀ v ∈ a, 0 ≤ v ∧ v < n) (hx : 0 ≤ x ∧ x < n) : ∀ v ∈ a ++ [x], 0 ≤ v ∧ v < n := fun v hv => by
 rcases List.mem_append.1 hv with h1 | h1
 · exact h v h1
 · rw [List.mem_singleton.1 h1]; exact hx
theorem j2j {X : List (List Int)} {k : Nat} (h : X.length = k) (hk : 0 < k) : j5z X = j1a X := if_neg fun h0 => by rw [h0] at h; simp at h; omega
theorem j5y (X : List (List Int)) (r : List Int) : j5z (X ++ [r]) = .mem .own (some 1) (rows X ++ [ownL r]) := by
 rw [j5z, if_neg (by simp), j1a, j7e]
def S_poly (pg : Pg) : Prop := ∀ n : Nat, 0 < n → n ≤ 64 → ∃ X : List (List Int) × List (List Int), PMN n X.1 X.2 ∧ Call pg 423 [I n] [I n] (ownS X)
set_option maxRecDepth 10000 in
theorem t_poly {pg : Pg} (hp : pg.fn 423 = some j16) : S_poly pg := by
 intro n h0 hn
 refine Call.find hp rfl (by simp) ?_
 show wp _ _ j16.body _ _
 generalize hR : (fun (x : X) (e : Env) => ∃ l : List (List Int) × List (List Int), PMN n l.1 l.2 ∧ post j16.rs [I n] [I n] (ownS l) x e) = R
 simp [j16]
 refine j0a (fun k e => ∃ f s : List (List Int), ((f.length = k ∧ ∀ r ∈ f, j4b n r) ∧ s.length = k ∧ ∀ r ∈ s, j4b n r) ∧ e = fr [(0, some (.val (I n))), (2, some (.val (.mem .own none [nil, nil]))), (3, some (.val (.mem .own none [j5z f, j5z s]))), (4, some (.val (I k)))]) n ?_ ?_ 0 _ (by omega) ⟨[], [], ⟨⟨rfl, by simp⟩, rfl, by simp⟩, rfl⟩
 · rintro k e hk ⟨f, s, ⟨⟨g1, g2⟩, g3, g4⟩, rfl⟩
   simp [hk]
   refine j0a (fun j e => ∃ a b : List Int, ((a.length = j ∧ ∀ v ∈ a, 0 ≤ v ∧ v < n) ∧ b.length = j ∧ ∀ v ∈ b, 0 ≤ v ∧ v < n) ∧ e = fr [(0, some (.val (I n))), (2, some (.val (.mem .own none [nil, nil]))), (3, some (.val (.mem .own none [j5z f, j5z s]))), (4, some (.val (I k))), (5, some (.val (ownL a))), (6, some (.val (ownL b))), (7, some (.val (I j)))]) n ?_ ?_ 0 _ (by omega) ⟨[], [], ⟨⟨rfl, by simp⟩, rfl, by simp⟩, rfl⟩
   · rintro j e hj ⟨a, b, ⟨⟨i1, i2⟩, i3, i4⟩, rfl⟩
     obtain ⟨m, hm, hm2⟩ : ∃ m : Nat, ((2 : Int) * k - j + n).tmod n = m ∧ m < n := by
      have h1 : 0 ≤ (2 : Int) * k - j + n := by omega
      refine ⟨((2 : Int) * k - j + n).toNat % n, ?_, Nat.mod_lt _ h0⟩
      rw [Int.tmod_eq_emod_of_nonneg h1, Int.natCast_emod, Int.toNat_of_nonneg h1]
     have hn0 : ¬ n = 0 := by omega
     simp [hj, hm, hn0]
     exact ⟨by omega, by omega, by omega, by unfold roomy; omega, by unfold roomy; omega, by omega, a ++ [(m : Int)], b ++ [(k : Int)], ⟨⟨by simp [i1], j2x i2 (by omega)⟩, by simp [i3], j2x i4 (by omega)⟩, by simp only [ownL, List.map_append, List.map_cons, List.map_nil]⟩
   · rintro e ⟨a, b, ⟨⟨i1, i2⟩, i3, i4⟩, rfl⟩
     by_cases hk0 : k = 0
     · subst hk0
       obtain rfl : f = [] := List.length_eq_zero_iff.1 g1
       obtain rfl : s = [] := List.length_eq_zero_iff.1 g3
       simp
       exact ⟨by unfold roomy; omega, [a], [b], ⟨⟨rfl, j7a ⟨i1, i2⟩⟩, rfl, j7a ⟨i3, i4⟩⟩, rfl⟩
     · rw [j2j g1 (by omega), j2j g3 (by omega)]
       simp
       exact ⟨by unfold roomy; omega, by unfold roomy; omega, by omega, f ++ [a], s ++ [b], ⟨TabN.snoc ⟨g1, g2⟩ ⟨i1, i2⟩, TabN.snoc ⟨g3, g4⟩ ⟨i3, i4⟩⟩, by simp only [j5y]⟩
 · rintro e ⟨f, s, ⟨⟨g1, g2⟩, g3, g4⟩, rfl⟩
   have hf : j5z f = j1a f := if_neg fun h => by rw [h] at g1; simp at g1; omega
   have hs : j5z s = j1a s := if_neg fun h => by rw [h] at g3; simp at g3; omega
   rw [hf, hs]
   simp
   subst hR
   exact ⟨(f, s), ⟨⟨g1, g2⟩, g3, g4⟩, by simp [post, j16]⟩
end Go.Mch
namespace Go.Mch
def S_twst (pg : Pg) : Prop := ∀ (n : Nat) (p q : List Int), 0 < n → n ≤ 64 → j4b n p → j4b n q → ∃ X : List (List Int) × List (List Int), (PMN n X.1 X.2 ∧ ∀ r ∈ X.1, r = p) ∧ Call pg 425 [ix p, ix q] [ix p, ix q] (ownS X)
set_option maxRecDepth 10000 in
theorem t_twst {pg : Pg} (hp : pg.fn 425 = some j24) (h31 : S_own pg) : S_twst pg := by
 intro n p q h0 hn hP hQ
 have hpl := hP.1
 have hql := hQ.1
 refine Call.find hp rfl (by simp) ?_
 show wp _ _ j24.body _ _
 generalize hR : (fun (x : X) (e : Env) => ∃ l : List (List Int) × List (List Int), (PMN n l.1 l.2 ∧ ∀ r ∈ l.1, r = p) ∧ post j24.rs [ix p, ix q] [ix p, ix q] (ownS l) x e) = R
 simp [j24]
 refine j0a (fun k e => ∃ f s : List (List Int), ((f.length = k ∧ ∀ r ∈ f, r = p) ∧ s.length = k ∧ ∀ r ∈ s, j4b n r) ∧ e = fr [(0, some (.val (ix p))), (1, some (.val (ix q))), (4, some (.val (.mem .own none [nil, nil]))), (5, some (.val (.mem .own none [j5z f, j5z s]))), (6, some (.val (I k)))]) n ?_ ?_ 0 _ (by omega) ⟨[], [], ⟨⟨rfl, by simp⟩, rfl, by simp⟩, rfl⟩
 · rintro k e hk ⟨f, s, ⟨⟨g1, g2⟩, g3, g4⟩, rfl⟩
   have hkq : k < q.length := by omega
   have hv := hQ.2 _ (List.getElem_mem hkq)
   simp [hk, hpl]
   refine j0a (fun j e => ∃ b : List Int, (b.length = j ∧ ∀ v ∈ b, 0 ≤ v ∧ v < n) ∧ e = fr [(0, some (.val (ix p))), (1, some (.val (ix q))), (4, some (.val (.mem .own none [nil, nil]))), (5, some (.val (.mem .own none [j5z f, j5z s]))), (6, some (.val (I k))), (7, some (.val (ownL b))), (8, some (.val (I j)))]) n ?_ ?_ 0 _ (by omega) ⟨[], ⟨rfl, by simp⟩, rfl⟩
   · rintro j e hj ⟨b, ⟨i3, i4⟩, rfl⟩
     simp [hj, hpl, hql, hk]
     exact ⟨by unfold roomy; omega, by omega, b ++ [q[k]], ⟨by simp [i3], j2x i4 hv⟩, by simp only [ownL, List.map_append, List.map_cons, List.map_nil]⟩
   · rintro e ⟨b, ⟨i3, i4⟩, rfl⟩
     by_cases hk0 : k = 0
     · subst hk0
       obtain rfl : f = [] := List.length_eq_zero_iff.1 g1
       obtain rfl : s = [] := List.length_eq_zero_iff.1 g3
       simp [hpl]
       refine j0f (h31 p (by omega)) rfl rfl (fun _ => by simp) ?_
       simp
       exact ⟨by unfold roomy; omega, [p], [b], ⟨⟨rfl, by simp⟩, rfl, j7a ⟨i3, i4⟩⟩, rfl⟩
     · rw [j2j g1 (by omega), j2j g3 (by omega)]
       simp [hpl]
       refine j0f (h31 p (by omega)) rfl rfl (fun _ => by simp) ?_
       simp
       exact ⟨by unfold roomy; omega, by unfold roomy; omega, by omega, f ++ [p], s ++ [b], ⟨⟨by simp [g1], fun r hr => by
        rcases List.mem_append.1 hr with h1 | h1
        · exact g2 r h1
        · exact List.mem_singleton.1 h1⟩, TabN.snoc ⟨g3, g4⟩ ⟨i3, i4⟩⟩, by simp only [j5y]⟩
 · rintro e ⟨f, s, ⟨⟨g1, g2⟩, g3, g4⟩, rfl⟩
   rw [j2j g1 h0, j2j g3 h0]
   simp [hpl]
   subst hR
   exact ⟨(f, s), ⟨⟨⟨g1, fun r hr => by rw [g2 r hr]; exact hP⟩, g3, g4⟩, g2⟩, by simp [post, j24]⟩
def S_flp (pg : Pg) : Prop := ∀ n : Nat, 0 < n → n ≤ 64 → ∃ X : List (List Int) × List (List Int), (PMN n X.1 X.2 ∧ ∀ r ∈ X.1, r = idL n) ∧ Call pg 449 [I n] [I n] (ownS X)
theorem t_flp {pg : Pg} (hp : pg.fn 449 = some j44) (h334 : q5a pg) (h425 : S_twst pg) : S_flp pg := by
 intro n h0 hn
 obtain ⟨X, hX, hc⟩ := h425 n (idL n) (idL n) h0 hn (j6x n).1 (j6x n).1
 refine ⟨X, hX, Call.intro hp rfl (by simp) ?_⟩
 show wp _ _ j44.body (post [.cell 2 (some 2)] _ _ _) _
 simp [j44]
 refine j0f (h334 n (by omega)) rfl rfl (fun _ => by simp) ?_
 simp
 refine j0f hc rfl rfl (fun _ => by simp) ?_
 simp
theorem tdivN (a m : Nat) : ((a : Int)).tdiv m = ((a / m : Nat) : Int) := by rw [Int.tdiv_eq_ediv_of_nonneg (by omega), Int.natCast_ediv]
theorem tmodN (a m : Nat) : ((a : Int)).tmod m = ((a % m : Nat) : Int) := by rw [Int.tmod_eq_emod_of_nonneg (by omega), Int.natCast_emod]
theorem TabN.at {n : Nat} {t : List (List Int)} (h : TabN n t) {i j : Nat} (hi : i < n) (hj : j < n) : ∃ (h1 : i < t.length) (h2 : j < (t[i]).length), (t[i]).length = n ∧ 0 ≤ (t[i])[j] ∧ (t[i])[j] < n := by
 have h1 : i < t.length := by rw [h.1]; exact hi
 have h2 := h.2 _ (List.getElem_mem h1)
 have h3 : j < (t[i]).length := by rw [h2.1]; exact hj
 exact ⟨h1, h3, h2.1, h2.2 _ (List.getElem_mem h3)⟩
theorem mul_lt {n m : Nat} {x y : Int} (h0 : 0 ≤ x) (h1 : x < n) (h2 : 0 ≤ y) (h3 : y < m) (hn : n * m ≤ 64) : 0 ≤ x * m + y ∧ x * m + y < (n * m : Nat) ∧ 0 ≤ x * m ∧ x * m ≤ 64 := by
 obtain ⟨x, rfl⟩ : ∃ x' : Nat, x = x' := ⟨x.toNat, by omega⟩
 obtain ⟨y, rfl⟩ : ∃ y' : Nat, y = y' := ⟨y.toNat, by omega⟩
 have h4 : (x + 1) * m ≤ n * m := Nat.mul_le_mul_right m (by omega)
 have h5 : (x + 1) * m = x * m + m := Nat.succ_mul x m
 have h6 : ((x * m : Nat) : Int) = (x : Int) * m := by simp
 omega
def S_prd (pg : Pg) : Prop := ∀ (n m : Nat) (f s f' s' : List (List Int)), 0 < n → 0 < m → n * m ≤ 64 → PMN n f s → PMN m f' s' → ∃ X : List (List Int) × List (List Int), PMN (n * m) X.1 X.2 ∧ Call pg 458 [sol f s, sol f' s'] [sol f s, sol f' s'] (ownS X)
set_option maxRecDepth 10000 in
theorem t_prd {pg : Pg} (hp : pg.fn 458 = some j15) : S_prd pg := by
 intro n m f s f' s' hn0 hm0 hnm hA hB
 have hfl := hA.1.1
 have hsl := hA.2.1
 have hfl' := hB.1.1
 have hsl' := hB.2.1
 have hN : 0 < n * m := Nat.mul_pos hn0 hm0
 obtain ⟨N, hNe⟩ : ∃ N, N = n * m := ⟨_, rfl⟩
 have hNi : (n : Int) * m = N := by rw [hNe]; simp
 have hnl : n ≤ N := by rw [hNe]; exact Nat.le_mul_of_pos_right n hm0
 have hml : m ≤ N := by rw [hNe]; exact Nat.le_mul_of_pos_left m hn0
 rw [← hNe] at hN hnm ⊢
 have hdv : ∀ a, a < N → a / m < n := fun a ha => by rw [hNe, Nat.mul_comm] at ha; exact Nat.div_lt_of_lt_mul ha
 have hmd : ∀ a, a % m < m := fun a => Nat.mod_lt _ hm0
 have hm0' : ¬ (m : Int) = 0 := by omega
 have hm0'' : ¬ m = 0 := by omega
 refine Call.find hp rfl (by simp) ?_
 show wp _ _ j15.body _ _
 generalize hR : (fun (x : X) (e : Env) => ∃ l : List (List Int) × List (List Int), PMN N l.1 l.2 ∧ post j15.rs [sol f s, sol f' s'] [sol f s, sol f' s'] (ownS l) x e) = R
 simp [j15]
 refine j0a (fun k e => ∃ F S : List (List Int), ((F.length = k ∧ ∀ r ∈ F, j4b N r) ∧ S.length = k ∧ ∀ r ∈ S, j4b N r) ∧ e = fr [(2, some (.val (.mem .own none [tb f, tb s]))), (3, some (.val (.mem .own none [tb f', tb s']))), (4, some (.val (.mem .own none [nil, nil]))), (5, some (.val (I n))), (6, some (.val (I m))), (7, some (.val (.mem .own none [j5z F, j5z S]))), (8, some (.val (I k)))]) N ?_ ?_ 0 _ (by omega) ⟨[], [], ⟨⟨rfl, by simp⟩, rfl, by simp⟩, by simp [hfl, hfl']⟩
 · rintro k e hk ⟨F, S, ⟨⟨g1, g2⟩, g3, g4⟩, rfl⟩
   simp [hk, hNi]
   refine ⟨by omega, ?_⟩
   refine j0a (fun j e => ∃ a b : List Int, ((a.length = j ∧ ∀ v ∈ a, 0 ≤ v ∧ v < N) ∧ b.length = j ∧ ∀ v ∈ b, 0 ≤ v ∧ v < N) ∧ e = fr [(2, some (.val (.mem .own none [tb f, tb s]))), (3, some (.val (.mem .own none [tb f', tb s']))), (4, some (.val (.mem .own none [nil, nil]))), (5, some (.val (I n))), (6, some (.val (I m))), (7, some (.val (.mem .own none [j5z F, j5z S]))), (8, some (.val (I k))), (9, some (.val (ownL a))), (10, some (.val (ownL b))), (11, some (.val (I j)))]) N ?_ ?_ 0 _ (by omega) ⟨[], [], ⟨⟨rfl, by simp⟩, rfl, by simp⟩, rfl⟩
   · rintro j e hj ⟨a, b, ⟨⟨i1, i2⟩, i3, i4⟩, rfl⟩
     have q1 := hdv k hk
     have q2 := hdv j hj
     have r1 := hmd k
     have r2 := hmd j
     have d1 := tdivN k m
     have d2 := tdivN j m
     have d3 := tmodN k m
     have d4 := tmodN j m
     generalize k / m = A at *
     generalize j / m = B at *
     generalize k % m = C at *
     generalize j % m = D at *
     obtain ⟨u1, u2, u3, u4, u5⟩ := hA.1.at q1 q2
     obtain ⟨v1, v2, v3, v4, v5⟩ := hA.2.at q1 q2
     obtain ⟨x1, x2, x3, x4, x5⟩ := hB.1.at r1 r2
     obtain ⟨y1, y2, y3, y4, y5⟩ := hB.2.at r1 r2
     have m1 := mul_lt u4 u5 x4 x5 (by omega)
     have m2 := mul_lt v4 v5 y4 y5 (by omega)
     rw [← hNe] at m1 m2
     simp [hj, hNi, d1, d2, d3, d4, hm0'', q1, q2, r1, r2, hfl, hsl, hfl', hsl', u3, v3, x3, y3]
     exact ⟨by omega, by omega, by omega, by omega, by omega, by unfold roomy; omega, by omega, by omega, by omega, by omega, by unfold roomy; omega, by omega, a ++ [f[A][B] * m + f'[C][D]], b ++ [s[A][B] * m + s'[C][D]], ⟨⟨by simp [i1], j2x i2 (by omega)⟩, by simp [i3], j2x i4 (by omega)⟩, by simp only [ownL, List.map_append, List.map_cons, List.map_nil]⟩
   · rintro e ⟨a, b, ⟨⟨i1, i2⟩, i3, i4⟩, rfl⟩
     by_cases hk0 : k = 0
     · subst hk0
       obtain rfl : F = [] := List.length_eq_zero_iff.1 g1
       obtain rfl : S = [] := List.length_eq_zero_iff.1 g3
       simp [hNi]
       exact ⟨by omega, by unfold roomy; omega, [a], [b], ⟨⟨rfl, j7a ⟨i1, i2⟩⟩, rfl, j7a ⟨i3, i4⟩⟩, rfl⟩
     · rw [j2j g1 (by omega), j2j g3 (by omega)]
       simp [hNi]
       exact ⟨by omega, by unfold roomy; omega, by unfold roomy; omega, by omega, F ++ [a], S ++ [b], ⟨TabN.snoc ⟨g1, g2⟩ ⟨i1, i2⟩, TabN.snoc ⟨g3, g4⟩ ⟨i3, i4⟩⟩, by simp only [j5y]⟩
 · rintro e ⟨F, S, ⟨⟨g1, g2⟩, g3, g4⟩, rfl⟩
   rw [j2j g1 hN, j2j g3 hN]
   simp [hNi]
   refine ⟨by omega, ?_⟩
   subst hR
   exact ⟨(F, S), ⟨⟨g1, g2⟩, g3, g4⟩, by simp [post, j15]⟩
def S_uni (pg : Pg) : Prop := ∀ (n m : Nat) (f s f' s' : List (List Int)), 0 < n → 0 < m → n + m ≤ 64 → PMN n f s → PMN m f' s' → ∃ X : List (List Int) × List (List Int), PMN (n + m) X.1 X.2 ∧ Call pg 460 [sol f s, sol f' s'] [sol f s, sol f' s'] (ownS X)
set_option maxRecDepth 10000 in
theorem t_uni {pg : Pg} (hp : pg.fn 460 = some j23) : S_uni pg := by
 intro n m f s f' s' hn0 hm0 hnm hA hB
 have hfl := hA.1.1
 have hsl := hA.2.1
 have hfl' := hB.1.1
 have hsl' := hB.2.1
 obtain ⟨N, hNe⟩ : ∃ N, N = n + m := ⟨_, rfl⟩
 have hNi : (n : Int) + m = N := by rw [hNe]; simp
 rw [← hNe] at hnm ⊢
 have hN : 0 < N := by omega
 refine Call.find hp rfl (by simp) ?_
 show wp _ _ j23.body _ _
 generalize hR : (fun (x : X) (e : Env) => ∃ l : List (List Int) × List (List Int), PMN N l.1 l.2 ∧ post j23.rs [sol f s, sol f' s'] [sol f s, sol f' s'] (ownS l) x e) = R
 simp [j23]
 refine j0a (fun k e => ∃ F S : List (List Int), ((F.length = k ∧ ∀ r ∈ F, j4b N r) ∧ S.length = k ∧ ∀ r ∈ S, j4b N r) ∧ e = fr [(2, some (.val (.mem .own none [tb f, tb s]))), (3, some (.val (.mem .own none [tb f', tb s']))), (4, some (.val (.mem .own none [nil, nil]))), (5, some (.val (I n))), (6, some (.val (I m))), (7, some (.val (.mem .own none [j5z F, j5z S]))), (8, some (.val (I k)))]) N ?_ ?_ 0 _ (by omega) ⟨[], [], ⟨⟨rfl, by simp⟩, rfl, by simp⟩, by simp [hfl, hfl']⟩
 · rintro k e hk ⟨F, S, ⟨⟨g1, g2⟩, g3, g4⟩, rfl⟩
   simp [hk, hNi]
   refine ⟨by omega, ?_⟩
   refine j0a (fun j e => ∃ a b : List Int, ((a.length = j ∧ ∀ v ∈ a, 0 ≤ v ∧ v < N) ∧ b.length = j ∧ ∀ v ∈ b, 0 ≤ v ∧ v < N) ∧ e = fr [(2, some (.val (.mem .own none [tb f, tb s]))), (3, some (.val (.mem .own none [tb f', tb s']))), (4, some (.val (.mem .own none [nil, nil]))), (5, some (.val (I n))), (6, some (.val (I m))), (7, some (.val (.mem .own none [j5z F, j5z S]))), (8, some (.val (I k))), (9, some (.val (ownL a))), (10, some (.val (ownL b))), (11, some (.val (I j)))]) N ?_ ?_ 0 _ (by omega) ⟨[], [], ⟨⟨rfl, by simp⟩, rfl, by simp⟩, rfl⟩
   · rintro j e hj ⟨a, b, ⟨⟨i1, i2⟩, i3, i4⟩, rfl⟩
     by_cases ck : k < n
     · by_cases cj : j < n
       · obtain ⟨u1, u2, u3, u4, u5⟩ := hA.1.at ck cj
         obtain ⟨v1, v2, v3, v4, v5⟩ := hA.2.at ck cj
         simp [hj, hNi, ck, cj, hfl, hsl, u3, v3]
         exact ⟨by omega, by unfold roomy; omega, by unfold roomy; omega, by omega, a ++ [f[k][j]], b ++ [s[k][j]], ⟨⟨by simp [i1], j2x i2 (by omega)⟩, by simp [i3], j2x i4 (by omega)⟩, by simp only [ownL, List.map_append, List.map_cons, List.map_nil]⟩
       · have ck' : ¬ n ≤ k := by omega
         simp [hj, hNi, ck, cj, ck', j00]
         exact ⟨by omega, by unfold roomy; omega, by unfold roomy; omega, by omega, a ++ [(j : Int)], b ++ [(k : Int)], ⟨⟨by simp [i1], j2x i2 (by omega)⟩, by simp [i3], j2x i4 (by omega)⟩, by simp only [ownL, List.map_append, List.map_cons, List.map_nil]⟩
     · have ck' : n ≤ k := by omega
       by_cases cj : n ≤ j
       · obtain ⟨A, hAk⟩ : ∃ A : Nat, (k : Int) - n = A := ⟨k - n, by omega⟩
         obtain ⟨B, hBj⟩ : ∃ B : Nat, (j : Int) - n = B := ⟨j - n, by omega⟩
         have cA : A < m := by omega
         have cB : B < m := by omega
         obtain ⟨u1, u2, u3, u4, u5⟩ := hB.1.at cA cB
         obtain ⟨v1, v2, v3, v4, v5⟩ := hB.2.at cA cB
         simp [hj, hNi, ck, ck', cj, cA, cB, hfl', hsl', u3, v3, hAk, hBj, j00]
         exact ⟨by omega, by omega, by omega, by omega, by unfold roomy; omega, by omega, by omega, by omega, by unfold roomy; omega, by omega, a ++ [f'[A][B] + n], b ++ [s'[A][B] + n], ⟨⟨by simp [i1], j2x i2 (by omega)⟩, by simp [i3], j2x i4 (by omega)⟩, by simp only [ownL, List.map_append, List.map_cons, List.map_nil]⟩
       · simp [hj, hNi, ck, cj, ck', j00]
         exact ⟨by omega, by unfold roomy; omega, by unfold roomy; omega, by omega, a ++ [(j : Int)], b ++ [(k : Int)], ⟨⟨by simp [i1], j2x i2 (by omega)⟩, by simp [i3], j2x i4 (by omega)⟩, by simp only [ownL, List.map_append, List.map_cons, List.map_nil]⟩
   · rintro e ⟨a, b, ⟨⟨i1, i2⟩, i3, i4⟩, rfl⟩
     by_cases hk0 : k = 0
     · subst hk0
       obtain rfl : F = [] := List.length_eq_zero_iff.1 g1
       obtain rfl : S = [] := List.length_eq_zero_iff.1 g3
       simp [hNi]
       exact ⟨by omega, by unfold roomy; omega, [a], [b], ⟨⟨rfl, j7a ⟨i1, i2⟩⟩, rfl, j7a ⟨i3, i4⟩⟩, rfl⟩
     · rw [j2j g1 (by omega), j2j g3 (by omega)]
       simp [hNi]
       exact ⟨by omega, by unfold roomy; omega, by unfold roomy; omega, by omega, F ++ [a], S ++ [b], ⟨TabN.snoc ⟨g1, g2⟩ ⟨i1, i2⟩, TabN.snoc ⟨g3, g4⟩ ⟨i3, i4⟩⟩, by simp only [j5y]⟩
 · rintro e ⟨F, S, ⟨⟨g1, g2⟩, g3, g4⟩, rfl⟩
   rw [j2j g1 hN, j2j g3 hN]
   simp [hNi]
   refine ⟨by omega, ?_⟩
   subst hR
   exact ⟨(F, S), ⟨⟨g1, g2⟩, g3, g4⟩, by simp [post, j23]⟩
end Go.Mch
namespace Go.Mch
theorem j9e {n : Nat} (h : 0 < n) : TabN n (j8h n n) := by
 refine ⟨by simp [j8h], fun r hr => ?_⟩
 simp only [j8h, List.mem_replicate] at hr
 rw [hr.2]
 refine ⟨by simp, fun v hv => ?_⟩
 simp only [List.mem_replicate] at hv
 omega
theorem TabN.set2 {n i j : Nat} {t : List (List Int)} {v : Int} (h : TabN n t) (hi : i < t.length) (hv : 0 ≤ v ∧ v < n) : TabN n (t.set i (t[i].set j v)) := by
 refine ⟨by simpa using h.1, fun x hx => ?_⟩
 rcases List.mem_or_eq_of_mem_set hx with h1 | h1
 · exact h.2 x h1
 · rw [h1]; exact (h.2 _ (List.getElem_mem hi)).set hv
def S_invW (pg : Pg) : Prop := ∀ (n : Nat) (f s : List (List Int)), 0 < n → n ≤ 64 → PMN n f s → ∃ X : List (List Int) × List (List Int), PMN n X.1 X.2 ∧ Call pg 406 [sol f s] [sol f s] (ownS X)
set_option maxRecDepth 10000 in
theorem t_invW {pg : Pg} (hp : pg.fn 406 = some j17) (h398 : q7v pg) : S_invW pg := by
 intro n f s h0 hn hA
 have hfl := hA.1.1
 have hsl := hA.2.1
 refine Call.find hp rfl (by simp) ?_
 show wp _ _ j17.body _ _
 generalize hR : (fun (x : X) (e : Env) => ∃ l : List (List Int) × List (List Int), PMN n l.1 l.2 ∧ post j17.rs [sol f s] [sol f s] (ownS l) x e) = R
 simp [j17]
 rw [hfl]
 refine j0f (h398 n h0 (by omega)) rfl rfl (fun _ => by simp) ?_
 simp
 refine j0a (fun a e => ∃ F S : List (List Int), PMN n F S ∧ e = fr [(1, some (.val (.mem .own none [tb f, tb s]))), (2, some (.val (.mem .own none [nil, nil]))), (3, some (.val (I n))), (4, some (.val (.mem .own none [j1a F, j1a S]))), (5, some (.val (I a)))]) n ?_ ?_ 0 _ (by omega) ⟨j8h n n, j8h n n, ⟨j9e h0, j9e h0⟩, rfl⟩
 · rintro a e ha ⟨F, S, hX, rfl⟩
   simp [ha]
   refine j0a (fun b e => ∃ F S : List (List Int), PMN n F S ∧ e = fr [(1, some (.val (.mem .own none [tb f, tb s]))), (2, some (.val (.mem .own none [nil, nil]))), (3, some (.val (I n))), (4, some (.val (.mem .own none [j1a F, j1a S]))), (5, some (.val (I a))), (6, some (.val (I b)))]) n ?_ ?_ 0 _ (by omega) ⟨F, S, hX, by simp⟩
   · rintro b e hb ⟨F, S, hX, rfl⟩
     obtain ⟨u1, u2, u3, u4, u5⟩ := hA.1.at ha hb
     obtain ⟨v1, v2, v3, v4, v5⟩ := hA.2.at ha hb
     obtain ⟨P, hP⟩ : ∃ P : Nat, (f[a])[b] = P := ⟨((f[a])[b]).toNat, by omega⟩
     obtain ⟨Q, hQ⟩ : ∃ Q : Nat, (s[a])[b] = Q := ⟨((s[a])[b]).toNat, by omega⟩
     rw [hP] at u4 u5
     rw [hQ] at v4 v5
     have hPn : P < n := by omega
     have hQn : Q < n := by omega
     obtain ⟨x1, x2, x3, _⟩ := hX.1.at hPn hQn
     obtain ⟨y1, y2, y3, _⟩ := hX.2.at hPn hQn
     have w1 := hX.1.1
     have w2 := hX.2.1
     have hg1 : (rows F)[P]? = some (ownL F[P]) := by rw [j55, List.getElem?_eq_getElem x1]; rfl
     have hg2 : (rows S)[P]? = some (ownL S[P]) := by rw [j55, List.getElem?_eq_getElem y1]; rfl
     simp [hb, ha, hfl, hsl, u3, v3, hP, hQ, hPn, hQn, x3, y3, w1, w2]
     exact ⟨by omega, by omega, F.set P (F[P].set Q a), S.set P (S[P].set Q b), ⟨hX.1.set2 x1 ⟨by omega, by omega⟩, hX.2.set2 y1 ⟨by omega, by omega⟩⟩, by simp only [j1a, ← j8t x1, ← j8t y1]⟩
   · rintro e ⟨F, S, hX, rfl⟩
     simp
     exact ⟨by omega, F, S, hX, rfl⟩
 · rintro e ⟨F, S, hX, rfl⟩
   simp
   subst hR
   exact ⟨(F, S), hX, by simp [post, j17]⟩
def okR2 (n : Nat) (R : List (List Int)) : Prop := TabN n R ∧ ∀ x y, x < n → y < n → 0 ≤ ixOf (R.getD (v2 R x y).toNat []) x
def S_ivl (pg : Pg) : Prop := ∀ (n : Nat) (R : List (List Int)), 0 < n → n ≤ 64 → okR2 n R → ∃ X : List (List Int) × List (List Int), PMN n X.1 X.2 ∧ Call pg 461 [tb R] [tb R] (ownS X)
set_option maxRecDepth 10000 in
theorem t_ivl {pg : Pg} (hp : pg.fn 461 = some j1j) (h280 : q0c pg 280) (h69 : q2l pg) : S_ivl pg := by
 intro n R h0 hn ⟨hA, hI⟩
 have hRl := hA.1
 have hfit : fits R := ⟨by omega, fun r hr => by have := (hA.2 r hr).1; omega⟩
 refine Call.find hp rfl (by simp) ?_
 show wp _ _ j1j.body _ _
 generalize hR : (fun (x : X) (e : Env) => ∃ l : List (List Int) × List (List Int), PMN n l.1 l.2 ∧ post j1j.rs [tb R] [tb R] (ownS l) x e) = Rr
 simp [j1j]
 refine j0f (h280 R hfit) rfl rfl (fun _ => by simp) ?_
 simp
 refine j0a (fun k e => ∃ s : List (List Int), (s.length = k ∧ ∀ r ∈ s, j4b n r) ∧ e = fr [(0, some (.val (tb R))), (2, some (.val (.mem .own none [nil, nil]))), (3, some (.val (.mem .own none [j1a R, j5z s]))), (4, some (.val (I k)))]) n ?_ ?_ 0 _ (by omega) ⟨[], ⟨rfl, by simp⟩, rfl⟩
 · rintro k e hk ⟨s, ⟨g3, g4⟩, rfl⟩
   simp [hk, hRl]
   refine j0a (fun j e => ∃ b : List Int, (b.length = j ∧ ∀ v ∈ b, 0 ≤ v ∧ v < n) ∧ e = fr [(0, some (.val (tb R))), (2, some (.val (.mem .own none [nil, nil]))), (3, some (.val (.mem .own none [j1a R, j5z s]))), (4, some (.val (I k))), (5, some (.val (ownL b))), (6, some (.val (I j)))]) n ?_ ?_ 0 _ (by omega) ⟨[], ⟨rfl, by simp⟩, rfl⟩
   · rintro j e hj ⟨b, ⟨i3, i4⟩, rfl⟩
     obtain ⟨u1, u2, u3, u4, u5⟩ := hA.at hk hj
     have hv := j27 u1 u2
     have hii := hI k j hk hj
     rw [hv] at u4 u5
     obtain ⟨P, hP⟩ : ∃ P : Nat, v2 R k j = P := ⟨(v2 R k j).toNat, by omega⟩
     rw [hP] at hv u4 u5 hii
     have hPn : P < n := by omega
     have hPl : P < R.length := by omega
     have hrow := hA.2 _ (List.getElem_mem hPl)
     have hg : R.getD P [] = R[P] := by simp [hPl]
     rw [Int.toNat_natCast, hg] at hii
     have hle := (j79 R[P] k).2
     have hc := h69 R[P] k (by have := hrow.1; omega)
     generalize ixOf R[P] k = z at *
     simp [hj, hRl, hk, u3, hv, hPn]
     refine j0f hc rfl rfl (fun _ => rfl) ?_
     have hz := hrow.1
     simp
     exact ⟨by unfold roomy; omega, by omega, b ++ [z], ⟨by simp [i3], j2x i4 (by omega)⟩, by simp only [ownL, List.map_append, List.map_cons, List.map_nil]⟩
   · rintro e ⟨b, ⟨i3, i4⟩, rfl⟩
     by_cases hk0 : k = 0
     · subst hk0
       obtain rfl : s = [] := List.length_eq_zero_iff.1 g3
       simp [hRl]
       exact ⟨by unfold roomy; omega, [b], ⟨rfl, j7a ⟨i3, i4⟩⟩, rfl⟩
     · rw [j2j g3 (by omega)]
       simp [hRl]
       exact ⟨by unfold roomy; omega, by omega, s ++ [b], TabN.snoc ⟨g3, g4⟩ ⟨i3, i4⟩, by simp only [j5y]⟩
 · rintro e ⟨s, ⟨g3, g4⟩, rfl⟩
   rw [j2j g3 h0]
   simp [hRl]
   subst hR
   exact ⟨(R, s), ⟨hA, g3, g4⟩, by simp [post, j1j]⟩
theorem thenL_rowIn {n : Nat} {p q : List Int} (hp : j4b n p) (hq : j4b n q) : j4b n (j6e p q) := by
 refine ⟨by simp [j6e, hp.1], fun v hv => ?_⟩
 obtain ⟨x, hx, rfl⟩ := List.mem_map.1 hv
 have h1 := hp.2 x hx
 have h2 : x.toNat < q.length := by rw [hq.1]; omega
 rw [List.getD_eq_getElem?_getD, List.getElem?_eq_getElem h2]
 exact hq.2 _ (List.getElem_mem h2)
def S_twd (pg : Pg) : Prop := ∀ (c : Rw Int) (s : Int × Int) (n : Nat), Sr c s → 0 < n → n ≤ 64 → ∃ (s' : Int × Int) (X : List (List Int) × List (List Int)), (Sr c s' ∧ PMN n X.1 X.2) ∧ Call pg 459 [src c s, I n] [src c s', I n] (ownS X)
set_option maxRecDepth 10000 in
theorem t_twd {pg : Pg} (hp : pg.fn 459 = some j1g) (h336 : j9c pg) (h368 : S_drw pg) (h334 : q5a pg) (h279 : S_then pg 279) (h425 : S_twst pg) : S_twd pg := by
 intro c s n hs h0 hn
 have hfind := Call.q18 (α := (Int × Int) × (List (List Int) × List (List Int))) (Q := fun Y => Sr c Y.1 ∧ PMN n Y.2.1 Y.2.2) (args := [src c s, I n]) (args' := fun Y => [src c Y.1, I n]) (r := fun Y => ownS Y.2) hp rfl (by simp [F.lets, j1g, List.range, List.range.loop]) (by simp [kindOf]) ?_
 · obtain ⟨Y, h1, h2⟩ := hfind
   exact ⟨_, _, h1, h2⟩
 show wp _ _ j1g.body (j5n _ _ _ _ _) _
 generalize hR : j5n (fun Y : (Int × Int) × (List (List Int) × List (List Int)) => Sr c Y.1 ∧ PMN n Y.2.1 Y.2.2) j1g.rs [src c s, I n] (fun Y => [src c Y.1, I n]) (fun Y => ownS Y.2) = R
 obtain ⟨s1, p, ⟨k1, k2, _⟩, hc1⟩ := h368 c s n hs hn
 obtain ⟨s2, r, ⟨k3, k3'⟩, hc2⟩ := h336.at k1 (n := 4) (by omega)
 simp [j1g]
 refine j1b (ts' := [rawB c, I s1.1, H64 s1.2]) (r := ownL p) (by simpa using hc1) ?_
 simp
 refine j0f (h334 n (by omega)) rfl rfl (fun _ => by simp) ?_
 simp
 refine j1b (ts' := [rawB c, I s2.1, H64 s2.2]) (r := I r) (by simpa using hc2) ?_
 simp
 refine j3z (α := List Int × Nat) (fun z => z.2) (fun z e => (j4b n z.1 ∧ z.2 ≤ 4) ∧ e = fr [(0, some (.val (src c s2))), (1, some (.val (I n))), (4, some (.val (.mem .own none [nil, nil]))), (5, some (.val (ownL p))), (6, some (.val (ownL z.1))), (7, some (.val (I z.2)))]) ?_ (idL n, r) _ ⟨⟨(j6x n).1, by simp only; omega⟩, rfl⟩
 rintro ⟨q, j⟩ e ⟨⟨g1, g2⟩, rfl⟩
 simp only at g1 g2
 by_cases hj : 0 < j
 · have hql := g1.1
   have hpl := k2.1
   have hc3 := h279 q p (by omega) (by unfold inN; rw [hpl]; exact g1.2)
   simp [hj]
   refine j0f hc3 rfl rfl (fun _ => by simp) ?_
   simp
   exact ⟨by omega, j6e q p, j - 1, by omega, ⟨thenL_rowIn g1 k2, by omega⟩, by
    have : (j : Int) - 1 = ((j - 1 : Nat) : Int) := by omega
    rw [this]⟩
 · obtain rfl : j = 0 := by omega
   obtain ⟨s3, b, ⟨k4, _⟩, hc4⟩ := h336.at k3 (n := 2) (by omega)
   simp
   refine j1b (ts' := [rawB c, I s3.1, H64 s3.2]) (r := I b) (by simpa using hc4) ?_
   by_cases hb : b = 0
   · obtain ⟨X, ⟨hX, _⟩, hc5⟩ := h425 n p q h0 hn k2 g1
     simp [hb]
     refine j0f hc5 rfl rfl (fun _ => by simp) ?_
     simp
     subst hR
     exact ⟨(s3, X), ⟨k4, hX⟩, by simp [post, j1g]⟩
   · obtain ⟨X, ⟨hX, _⟩, hc5⟩ := h425 n q p h0 hn g1 k2
     simp [hb]
     refine j0f hc5 rfl rfl (fun _ => by simp) ?_
     simp
     subst hR
     exact ⟨(s3, X), ⟨k4, hX⟩, by simp [post, j1g]⟩
end Go.Mch
namespace Go.Mch
abbrev S2 := List (List Int) × List (List Int)
def rw4 : List (List Int) := [[0, 1, 3, 2], [0, 1, 3, 2], [1, 0, 2, 3], [1, 0, 2, 3]]
def rw3 : List (List Int) := [[0, 1, 2], [0, 1, 2], [1, 0, 2]]
theorem rw4_ok : okR2 4 rw4 := by
 refine ⟨⟨rfl, fun r hr => ?_⟩, fun x y hx hy => ?_⟩
 · simp only [rw4, List.mem_cons, List.not_mem_nil, or_false] at hr
   rcases hr with rfl | rfl | rfl | rfl <;> exact ⟨rfl, by decide⟩
 · have : ∀ x < 4, ∀ y < 4, 0 ≤ ixOf (rw4.getD (v2 rw4 x y).toNat []) x := by decide
   exact this x hx y hy
theorem rw3_ok : okR2 3 rw3 := by
 refine ⟨⟨rfl, fun r hr => ?_⟩, fun x y hx hy => ?_⟩
 · simp only [rw3, List.mem_cons, List.not_mem_nil, or_false] at hr
   rcases hr with rfl | rfl | rfl <;> exact ⟨rfl, by decide⟩
 · have : ∀ x < 3, ∀ y < 3, 0 ≤ ixOf (rw3.getD (v2 rw3 x y).toNat []) x := by decide
   exact this x hx y hy
def S_anyM (pg : Pg) (most : Nat) : Prop := ∀ (c : Rw Int) (s : Int × Int), Sr c s → ∃ (s' : Int × Int) (n : Nat) (X : S2), (Sr c s' ∧ 0 < n ∧ n ≤ most ∧ PMN n X.1 X.2) ∧ Call pg 445 [src c s, I most] [src c s', I most] (ownS X)
def S_any (pg : Pg) : Prop := ∀ most : Nat, 0 < most → most ≤ 12 → S_anyM pg most
set_option maxRecDepth 10000 in
theorem t_any {pg : Pg} (hp : pg.fn 445 = some j3g) (h336 : j9c pg) (h449 : S_flp pg) (h423 : S_poly pg) (h458 : S_prd pg) (h459 : S_twd pg) (h460 : S_uni pg) (h461 : S_ivl pg) (h406 : S_invW pg) : S_any pg := by
 intro most
 induction most using Nat.strongRecOn with
 | _ most ih =>
 intro m0 m12 c s hs
 have hfind := Call.q18 (α := (Int × Int) × Nat × S2) (Q := fun Y => Sr c Y.1 ∧ 0 < Y.2.1 ∧ Y.2.1 ≤ most ∧ PMN Y.2.1 Y.2.2.1 Y.2.2.2) (args := [src c s, I most]) (args' := fun Y => [src c Y.1, I most]) (r := fun Y => ownS Y.2.2) hp rfl (by simp [F.lets, j3g, List.range, List.range.loop]) (by simp [kindOf]) ?_
 · obtain ⟨Y, h1, h2⟩ := hfind
   exact ⟨_, _, _, h1, h2⟩
 show wp _ _ j3g.body (j5n _ _ _ _ _) _
 generalize hR : j5n (fun Y : (Int × Int) × Nat × S2 => Sr c Y.1 ∧ 0 < Y.2.1 ∧ Y.2.1 ≤ most ∧ PMN Y.2.1 Y.2.2.1 Y.2.2.2) j3g.rs [src c s, I most] (fun Y => [src c Y.1, I most]) (fun Y => ownS Y.2.2) = R
 have hfin : ∀ (s' : Int × Int) (k : Nat) (X : S2), Sr c s' → 0 < k → k ≤ most → PMN k X.1 X.2 → R .ret (fr [(0, some (.val (src c s'))), (1, some (.val (I most))), (4, some (.val (.mem .own none [j1a X.1, j1a X.2])))]) := by
  intro s' k X a1 a2 a3 a4
  subst hR
  exact ⟨(s', k, X), ⟨a1, a2, a3, a4⟩, by simp [post, j3g]⟩
 obtain ⟨s1, r1, ⟨k1, k2⟩, hc1⟩ := h336.at hs (n := most) m0
 obtain ⟨s2, kd, ⟨k3, k4⟩, hc2⟩ := h336.at k1 (n := 8) (by omega)
 obtain ⟨n, hn⟩ : ∃ n : Nat, (1 : Int) + r1 = n := ⟨1 + r1, by omega⟩
 have hn0 : 0 < n := by omega
 have hnm : n ≤ most := by omega
 simp [j3g]
 refine j1b (ts' := [rawB c, I s1.1, H64 s1.2]) (r := I r1) (by simpa using hc1) ?_
 simp [hn]
 refine ⟨by omega, ?_⟩
 refine j1b (ts' := [rawB c, I s2.1, H64 s2.2]) (r := I kd) (by simpa using hc2) ?_
 obtain ⟨sL, XL, ⟨jL1, jL2⟩, hcL⟩ := h459 c s2 n k3 hn0 (by omega)
 simp
 rcases (by omega : kd = 0 ∨ kd = 1 ∨ kd = 2 ∨ kd = 3 ∨ kd = 4 ∨ kd = 5 ∨ kd = 6 ∨ kd = 7) with rfl | rfl | rfl | rfl | rfl | rfl | rfl | rfl
 · obtain ⟨X, ⟨hX, _⟩, hc⟩ := h449 n hn0 (by omega)
   simp
   refine j0f hc rfl rfl (fun _ => by simp) ?_
   simp
   exact hfin s2 n X k3 hn0 hnm hX
 · obtain ⟨X, hX, hc⟩ := h423 n hn0 (by omega)
   simp
   refine j0f hc rfl rfl (fun _ => by simp) ?_
   simp
   exact hfin s2 n X k3 hn0 hnm hX
 · obtain ⟨q, hq, hq2⟩ : ∃ q : Nat, (n : Int) / 2 = q ∧ q = n / 2 := ⟨n / 2, by omega, rfl⟩
   have e1 : (n : Int).tmod 2 = (n : Int) % 2 := by rw [Int.tmod_eq_emod_of_nonneg (by omega)]
   by_cases h4 : 4 ≤ n
   · have h4' : (4 : Int) ≤ n := by omega
     by_cases hev : (n : Int) % 2 = 0
     · obtain ⟨s3, X, ⟨j1, j2⟩, hc3⟩ := h459 c s2 q k3 (by omega) (by omega)
       obtain ⟨s4, Y, ⟨j3, j4⟩, hc4⟩ := h459 c s3 2 j1 (by omega) (by omega)
       obtain ⟨Z, hZ, hc5⟩ := h458 q 2 X.1 X.2 Y.1 Y.2 (by omega) (by omega) (by omega) j2 j4
       rw [show q * 2 = n by omega] at hZ
       simp [h4', hev, e1, hq]
       refine ⟨by omega, ?_⟩
       refine j1b (ts' := [rawB c, I s3.1, H64 s3.2]) (r := ownS X) (by simpa using hc3) ?_
       simp
       refine j1b (ts' := [rawB c, I s4.1, H64 s4.2]) (r := ownS Y) (by simpa using hc4) ?_
       simp
       refine j0f hc5 rfl rfl (fun _ => by simp) ?_
       simp
       exact hfin s4 n Z j3 hn0 hnm hZ
     · simp [h4', hev, e1]
       refine j1b (ts' := [rawB c, I sL.1, H64 sL.2]) (r := ownS XL) (by simpa using hcL) ?_
       simp
       exact hfin sL n XL jL1 hn0 hnm jL2
   · have h4' : ¬ (4 : Int) ≤ n := by omega
     simp [h4', j00]
     refine j1b (ts' := [rawB c, I sL.1, H64 sL.2]) (r := ownS XL) (by simpa using hcL) ?_
     simp
     exact hfin sL n XL jL1 hn0 hnm jL2
 · by_cases h2 : 2 ≤ n
   · have h2' : (2 : Int) ≤ n := by omega
     obtain ⟨n1, hn1⟩ : ∃ n1 : Nat, (n : Int) - 1 = n1 := ⟨n - 1, by omega⟩
     obtain ⟨s3, r3, ⟨j1, j2⟩, hc3⟩ := h336.at k3 (n := n1) (by omega)
     obtain ⟨m, hm⟩ : ∃ m : Nat, (1 : Int) + r3 = m := ⟨1 + r3, by omega⟩
     obtain ⟨d, hd⟩ : ∃ d : Nat, (n : Int) - m = d := ⟨n - m, by omega⟩
     obtain ⟨s4, k, X, ⟨j3, j4, j5, j6⟩, hc4⟩ := ih m (by omega) (by omega) (by omega) c s3 j1
     obtain ⟨s5, Y, ⟨j7, j8⟩, hc5⟩ := h459 c s4 d j3 (by omega) (by omega)
     obtain ⟨Z, hZ, hc6⟩ := h460 k d X.1 X.2 Y.1 Y.2 j4 (by omega) (by omega) j6 j8
     simp [h2', hn1]
     refine ⟨by omega, ?_⟩
     refine j1b (ts' := [rawB c, I s3.1, H64 s3.2]) (r := I r3) (by simpa using hc3) ?_
     simp [hm]
     refine ⟨by omega, ?_⟩
     refine j1b (ts' := [rawB c, I s4.1, H64 s4.2]) (r := ownS X) (by simpa using hc4) ?_
     simp [hd]
     refine ⟨by omega, ?_⟩
     refine j1b (ts' := [rawB c, I s5.1, H64 s5.2]) (r := ownS Y) (by simpa using hc5) ?_
     simp
     refine j0f hc6 rfl rfl (fun _ => by simp) ?_
     simp
     exact hfin s5 (k + d) Z j7 (by omega) (by omega) hZ
   · have h2' : ¬ (2 : Int) ≤ n := by omega
     simp [h2']
     refine j1b (ts' := [rawB c, I sL.1, H64 sL.2]) (r := ownS XL) (by simpa using hcL) ?_
     simp
     exact hfin sL n XL jL1 hn0 hnm jL2
 · by_cases h4 : 4 ≤ most
   · have h4' : (4 : Int) ≤ most := by omega
     obtain ⟨Z, hZ, hc6⟩ := h461 4 rw4 (by omega) (by omega) rw4_ok
     simp [h4']
     refine j0f hc6 rfl rfl (fun _ => by simp) ?_
     simp
     exact hfin s2 4 Z k3 (by omega) (by omega) hZ
   · have h4' : ¬ (4 : Int) ≤ most := by omega
     simp [h4']
     refine j1b (ts' := [rawB c, I sL.1, H64 sL.2]) (r := ownS XL) (by simpa using hcL) ?_
     simp
     exact hfin sL n XL jL1 hn0 hnm jL2
 · by_cases h2 : 2 ≤ n
   · have h2' : (2 : Int) ≤ n := by omega
     obtain ⟨X, hX, hc⟩ := h423 n hn0 (by omega)
     obtain ⟨Z, hZ, hc6⟩ := h406 n X.1 X.2 hn0 (by omega) hX
     simp [h2']
     refine j0f hc rfl rfl (fun _ => by simp) ?_
     simp
     refine j0f hc6 rfl rfl (fun _ => by simp) ?_
     simp
     exact hfin s2 n Z k3 hn0 hnm hZ
   · have h2' : ¬ (2 : Int) ≤ n := by omega
     simp [h2']
     refine j1b (ts' := [rawB c, I sL.1, H64 sL.2]) (r := ownS XL) (by simpa using hcL) ?_
     simp
     exact hfin sL n XL jL1 hn0 hnm jL2
 · by_cases h4 : 3 ≤ most
   · have h4' : (3 : Int) ≤ most := by omega
     obtain ⟨Z, hZ, hc6⟩ := h461 3 rw3 (by omega) (by omega) rw3_ok
     simp [h4']
     refine j0f hc6 rfl rfl (fun _ => by simp) ?_
     simp
     exact hfin s2 3 Z k3 (by omega) (by omega) hZ
   · have h4' : ¬ (3 : Int) ≤ most := by omega
     simp [h4']
     refine j1b (ts' := [rawB c, I sL.1, H64 sL.2]) (r := ownS XL) (by simpa using hcL) ?_
     simp
     exact hfin sL n XL jL1 hn0 hnm jL2
 · simp
   refine j1b (ts' := [rawB c, I sL.1, H64 sL.2]) (r := ownS XL) (by simpa using hcL) ?_
   simp
   exact hfin sL n XL jL1 hn0 hnm jL2
end Go.Mch
namespace Go.Mch
theorem TabN.tab {n : Nat} {t : List (List Int)} (h : TabN n t) : Tab t := fun r hr => ⟨by rw [(h.2 r hr).1, h.1], fun v hv => by rw [h.1]; exact (h.2 r hr).2 v hv⟩
theorem pm_of {n : Nat} {p : List Int} (h : j4b n p) (hd : p.Nodup) (h0 : 0 < n) (h12 : n ≤ 12) : Pm p := by
 have hl := h.1
 exact ⟨⟨fun x hx => by rw [hl]; exact h.2 x hx, hd⟩, by omega, by omega⟩
def S_dr2 (pg : Pg) : Prop := ∀ (c : Rw Int) (s : Int × Int) (most : Nat), Sr c s → 0 < most → most ≤ 12 → ∃ (s' : Int × Int) (n : Nat) (X : S2), (Sr c s' ∧ 0 < n ∧ n ≤ most ∧ PMN n X.1 X.2) ∧ Call pg 412 [src c s, I most] [src c s', I most] (ownS X)
set_option maxRecDepth 10000 in
theorem t_dr2 {pg : Pg} (hp : pg.fn 412 = some j2v) (h336 : j9c pg) (h445 : S_any pg) (h368 : S_drw pg) (h422 : S_renS pg) : S_dr2 pg := by
 intro c s most hs m0 m12
 have hfind := Call.q18 (α := (Int × Int) × Nat × S2) (Q := fun Y => Sr c Y.1 ∧ 0 < Y.2.1 ∧ Y.2.1 ≤ most ∧ PMN Y.2.1 Y.2.2.1 Y.2.2.2) (args := [src c s, I most]) (args' := fun Y => [src c Y.1, I most]) (r := fun Y => ownS Y.2.2) hp rfl (by simp [F.lets, j2v, List.range, List.range.loop]) (by simp [kindOf]) ?_
 · obtain ⟨Y, h1, h2⟩ := hfind
   exact ⟨_, _, _, h1, h2⟩
 show wp _ _ j2v.body (j5n _ _ _ _ _) _
 generalize hR : j5n (fun Y : (Int × Int) × Nat × S2 => Sr c Y.1 ∧ 0 < Y.2.1 ∧ Y.2.1 ≤ most ∧ PMN Y.2.1 Y.2.2.1 Y.2.2.2) j2v.rs [src c s, I most] (fun Y => [src c Y.1, I most]) (fun Y => ownS Y.2.2) = R
 have hfin : ∀ (s' : Int × Int) (k : Nat) (X : S2), Sr c s' → 0 < k → k ≤ most → PMN k X.1 X.2 → R .ret (fr [(0, some (.val (src c s'))), (1, some (.val (I most))), (4, some (.val (.mem .own none [j1a X.1, j1a X.2])))]) := by
  intro s' k X a1 a2 a3 a4
  subst hR
  exact ⟨(s', k, X), ⟨a1, a2, a3, a4⟩, by simp [post, j2v]⟩
 obtain ⟨s1, n, X, ⟨k1, k2, k3, k4⟩, hc1⟩ := h445 most m0 m12 c s hs
 obtain ⟨s2, r, ⟨k5, _⟩, hc2⟩ := h336.at k1 (n := 4) (by omega)
 obtain ⟨s3, p, ⟨k6, k7, k8⟩, hc3⟩ := h368 c s2 n k5 (by omega)
 have hpm := pm_of k7 k8 k2 (by omega)
 have hl1 := k4.1.1
 have hc4 := h422 X.1 X.2 p k4.1.tab k4.2.tab hpm (by rw [k7.1, k4.1.1]) (by rw [k7.1, k4.2.1])
 simp [j2v]
 refine j1b (ts' := [rawB c, I s1.1, H64 s1.2]) (r := ownS X) (by simpa using hc1) ?_
 simp
 refine j1b (ts' := [rawB c, I s2.1, H64 s2.2]) (r := I r) (by simpa using hc2) ?_
 by_cases hr : 0 < r
 · have hl2 := k4.2.1
   simp [hr, hl1, hl2]
   refine j1b (ts' := [rawB c, I s3.1, H64 s3.2]) (r := ownL p) (by simpa using hc3) ?_
   simp [hl1, hl2]
   refine j0f hc4 rfl rfl (fun _ => by simp) ?_
   simp
   exact hfin s3 n (imT X.1 p, imT X.2 p) k6 k2 k3 ⟨q0s k4.1 hpm k7.1, q0s k4.2 hpm k7.1⟩
 · simp [hr]
   exact hfin s2 n X k5 k2 k3 k4
theorem q0k (t : List (List Int)) (i : Nat) (r : List Int) : (rows t).set i (ownL r) = rows (t.set i r) := by simp [rows, List.map_set]
def Bd (t : List (List Int)) : Prop := t.length ≤ 20 ∧ ∀ r ∈ t, r.length ≤ 20
theorem TabN.bd {n : Nat} {t : List (List Int)} (h : TabN n t) (hn : n ≤ 20) : Bd t := ⟨by rw [h.1]; exact hn, fun r hr => by rw [(h.2 r hr).1]; exact hn⟩
theorem Bd.set {t : List (List Int)} (h : Bd t) {i : Nat} {r : List Int} (hr : r.length ≤ 20) : Bd (t.set i r) := ⟨by simpa using h.1, fun x hx => by
 rcases List.mem_or_eq_of_mem_set hx with h1 | h1
 · exact h.2 x h1
 · rw [h1]; exact hr⟩
def S_bad (pg : Pg) : Prop := ∀ (c : Rw Int) (s : Int × Int) (n : Nat), Sr c s → 0 < n → n ≤ 12 → ∃ (s' : Int × Int) (t : List (List Int)), (Sr c s' ∧ Bd t) ∧ Call pg 413 [src c s, I n] [src c s', I n] (j1a t)
set_option maxRecDepth 10000 in
theorem t_bad {pg : Pg} (hp : pg.fn 413 = some j3i) (h336 : j9c pg) (h428 : S_tbs pg) (h334 : q5a pg) (h292 : S_pick pg) : S_bad pg := by
 intro c s n hs n0 n12
 have hfind := Call.q18 (α := (Int × Int) × List (List Int)) (Q := fun Y => Sr c Y.1 ∧ Bd Y.2) (args := [src c s, I n]) (args' := fun Y => [src c Y.1, I n]) (r := fun Y => j1a Y.2) hp rfl (by simp [F.lets, j3i, List.range, List.range.loop]) (by simp [kindOf]) ?_
 · obtain ⟨Y, h1, h2⟩ := hfind
   exact ⟨_, _, h1, h2⟩
 show wp _ _ j3i.body (j5n _ _ _ _ _) _
 generalize hR : j5n (fun Y : (Int × Int) × List (List Int) => Sr c Y.1 ∧ Bd Y.2) j3i.rs [src c s, I n] (fun Y => [src c Y.1, I n]) (fun Y => j1a Y.2) = R
 have hfin : ∀ (s' : Int × Int) (t : List (List Int)), Sr c s' → Bd t → R .ret (fr [(0, some (.val (src c s'))), (1, some (.val (I n))), (4, some (.val (j1a t)))]) := by
  intro s' X a1 a2
  subst hR
  exact ⟨(s', X), ⟨a1, a2⟩, by simp [post, j3i]⟩
 obtain ⟨s1, t, ⟨k1, k2⟩, hc1⟩ := h428 c s n hs n0 (by omega)
 obtain ⟨s2, kd, ⟨k3, k3'⟩, hc2⟩ := h336.at k1 (n := 30) (by omega)
 have hbd := k2.bd (by omega)
 have htl := k2.1
 have ht0 : 0 < t.length := by omega
 have hrow0 := (k2.2 _ (List.getElem_mem ht0)).1
 have hg : (rows t)[0]? = some (ownL t[0]) := by rw [j55, List.getElem?_eq_getElem ht0]; rfl
 simp [j3i]
 refine j1b (ts' := [rawB c, I s1.1, H64 s1.2]) (r := j1a t) (by simpa using hc1) ?_
 simp
 refine j1b (ts' := [rawB c, I s2.1, H64 s2.2]) (r := I kd) (by simpa using hc2) ?_
 simp
 rcases (by omega : kd = 0 ∨ kd = 1 ∨ kd = 2 ∨ kd = 3 ∨ kd = 4 ∨ 5 ≤ kd) with rfl | rfl | rfl | rfl | rfl | hk
 · simp
   refine j0f (h334 n (by omega)) rfl rfl (fun _ => by simp) ?_
   simp
   have := hfin s2 (t ++ [idL n]) k3 ⟨by simp; omega, fun r hr => by
    rcases List.mem_append.1 hr with h1 | h1
    · exact hbd.2 r h1
    · rw [List.mem_singleton.1 h1]; simp [idL]; omega⟩
   exact ⟨by unfold roomy; omega, by simpa only [j1a, j7e] using this⟩
 · simp [ht0]
   have := hfin s2 (t.set 0 (t[0] ++ [0])) k3 (hbd.set (by simp; omega))
   exact ⟨by unfold roomy; omega, by omega, by simpa only [j1a, ← q0k, ownL, List.map_append, List.map_cons, List.map_nil] using this⟩
 · obtain ⟨s3, z, ⟨j1, _⟩, hc3⟩ := h292 c s2 [-1, n, 1099511627776] k3 (by simp) (by simp)
   simp [ht0]
   simp only [ix, List.map_cons, List.map_nil] at hc3
   refine j1b (ts' := [rawB c, I s3.1, H64 s3.2]) (r := I z) (by simpa using hc3) ?_
   have ht00 : 0 < t[0].length := by omega
   simp [ht0, ht00]
   have := hfin s3 (t.set 0 (t[0].set 0 z)) j1 (hbd.set (by simp; omega))
   exact ⟨by omega, by simpa only [j1a, ← q0k, ownL, List.map_set] using this⟩
 · simp
   exact hfin s2 [] k3 ⟨by simp, by simp⟩
 · obtain ⟨s3, t', ⟨j1, j2⟩, hc3⟩ := h428 c s2 13 k3 (by omega) (by omega)
   simp
   refine j1b (ts' := [rawB c, I s3.1, H64 s3.2]) (r := j1a t') (by simpa using hc3) ?_
   simp
   exact hfin s3 t' j1 (j2.bd (by omega))
 · have h1 : ¬ kd = 0 := by omega
   have h2 : ¬ (kd : Int) = 1 := by omega
   have h3 : ¬ (kd : Int) = 2 := by omega
   have h4 : ¬ (kd : Int) = 3 := by omega
   have h5 : ¬ (kd : Int) = 4 := by omega
   simp [h1, h2, h3, h4, h5]
   exact hfin s2 t k3 hbd
def S_spl (pg : Pg) (f : Nat) : Prop := ∀ (c : Rw Int) (s : Int × Int) (most : Nat), Sr c s → 0 < most → most ≤ 12 → ∃ (s' : Int × Int) (X : S2), (Sr c s' ∧ Bd X.1 ∧ Bd X.2) ∧ Call pg f [src c s, I most] [src c s', I most] (ownS X)
set_option maxRecDepth 10000 in
theorem t_spl {pg : Pg} (hp : pg.fn 379 = some j2g) (h336 : j9c pg) (h412 : S_dr2 pg) (h368 : S_drw pg) (h428 : S_tbs pg) (h413 : S_bad pg) : S_spl pg 379 := by
 intro c s most hs m0 m12
 have hfind := Call.q18 (α := (Int × Int) × S2) (Q := fun Y => Sr c Y.1 ∧ Bd Y.2.1 ∧ Bd Y.2.2) (args := [src c s, I most]) (args' := fun Y => [src c Y.1, I most]) (r := fun Y => ownS Y.2) hp rfl (by simp [F.lets, j2g, List.range, List.range.loop]) (by simp [kindOf]) ?_
 · obtain ⟨Y, h1, h2⟩ := hfind
   exact ⟨_, _, h1, h2⟩
 show wp _ _ j2g.body (j5n _ _ _ _ _) _
 generalize hR : j5n (fun Y : (Int × Int) × S2 => Sr c Y.1 ∧ Bd Y.2.1 ∧ Bd Y.2.2) j2g.rs [src c s, I most] (fun Y => [src c Y.1, I most]) (fun Y => ownS Y.2) = R
 have hfin : ∀ (s' : Int × Int) (X : S2), Sr c s' → Bd X.1 → Bd X.2 → R .ret (fr [(0, some (.val (src c s'))), (1, some (.val (I most))), (4, some (.val (.mem .own none [j1a X.1, j1a X.2])))]) := by
  intro s' X a1 a2 a3
  subst hR
  exact ⟨(s', X), ⟨a1, a2, a3⟩, by simp [post, j2g]⟩
 obtain ⟨s1, n, X, ⟨k1, n0, nm, hX⟩, hc1⟩ := h412 c s most hs m0 m12
 obtain ⟨s2, kd, ⟨k3, k3'⟩, hc2⟩ := h336.at k1 (n := 24) (by omega)
 have hb1 := hX.1.bd (by omega)
 have hb2 := hX.2.bd (by omega)
 have hl1 := hX.1.1
 have hl2 := hX.2.1
 simp [j2g]
 refine j1b (ts' := [rawB c, I s1.1, H64 s1.2]) (r := ownS X) (by simpa using hc1) ?_
 simp [hl1]
 refine j1b (ts' := [rawB c, I s2.1, H64 s2.2]) (r := I kd) (by simpa using hc2) ?_
 simp
 rcases (by omega : kd = 0 ∨ kd = 1 ∨ kd = 2 ∨ kd = 3 ∨ kd = 4 ∨ 5 ≤ kd) with rfl | rfl | rfl | rfl | rfl | hk
 · obtain ⟨s3, a, ⟨j1, j2⟩, hc3⟩ := h336.at k3 (n := n) n0
   obtain ⟨s4, p, ⟨j3, j4, _⟩, hc4⟩ := h368 c s3 n j1 (by omega)
   simp [hl1]
   refine j1b (ts' := [rawB c, I s3.1, H64 s3.2]) (r := I a) (by simpa using hc3) ?_
   simp
   refine j1b (ts' := [rawB c, I s4.1, H64 s4.2]) (r := ownL p) (by simpa using hc4) ?_
   simp [hl1, j2]
   have := hfin s4 (X.1.set a p, X.2) j3 (hb1.set (by rw [j4.1]; omega)) hb2
   exact ⟨by omega, by simpa only [j1a, ← q0k, ownL] using this⟩
 · obtain ⟨s3, a, ⟨j1, j2⟩, hc3⟩ := h336.at k3 (n := n) n0
   obtain ⟨s4, b, ⟨j3, j4⟩, hc4⟩ := h336.at j1 (n := n) n0
   obtain ⟨s5, z, ⟨j5, j6⟩, hc5⟩ := h336.at j3 (n := n) n0
   have ha : a < X.2.length := by omega
   have hrow := (hX.2.2 _ (List.getElem_mem ha)).1
   have hg : (rows X.2)[a]? = some (ownL X.2[a]) := by rw [j55, List.getElem?_eq_getElem ha]; rfl
   simp [hl2]
   refine j1b (ts' := [rawB c, I s3.1, H64 s3.2]) (r := I a) (by simpa using hc3) ?_
   simp [hl2, j2, hrow]
   refine j1b (ts' := [rawB c, I s4.1, H64 s4.2]) (r := I b) (by simpa using hc4) ?_
   simp
   refine j1b (ts' := [rawB c, I s5.1, H64 s5.2]) (r := I z) (by simpa using hc5) ?_
   simp [hl2, j2, j4, hrow]
   have := hfin s5 (X.1, X.2.set a (X.2[a].set b z)) j5 hb1 (hb2.set (by rw [List.length_set, hrow]; omega))
   exact ⟨by omega, by simpa only [j1a, ← q0k, ownL, List.map_set] using this⟩
 · obtain ⟨s3, f, ⟨j1, j2⟩, hc3⟩ := h428 c s2 n k3 n0 (by omega)
   obtain ⟨s4, g, ⟨j3, j4⟩, hc4⟩ := h428 c s3 n j1 n0 (by omega)
   simp
   refine j1b (ts' := [rawB c, I s3.1, H64 s3.2]) (r := j1a f) (by simpa using hc3) ?_
   simp
   refine j1b (ts' := [rawB c, I s4.1, H64 s4.2]) (r := j1a g) (by simpa using hc4) ?_
   simp
   exact hfin s4 (f, g) j3 (j2.bd (by omega)) (j4.bd (by omega))
 · obtain ⟨s3, t', ⟨j1, j2⟩, hc3⟩ := h413 c s2 n k3 n0 (by omega)
   simp
   refine j1b (ts' := [rawB c, I s3.1, H64 s3.2]) (r := j1a t') (by simpa using hc3) ?_
   simp
   exact hfin s3 (X.1, t') j1 hb1 j2
 · obtain ⟨s3, t', ⟨j1, j2⟩, hc3⟩ := h413 c s2 n k3 n0 (by omega)
   simp
   refine j1b (ts' := [rawB c, I s3.1, H64 s3.2]) (r := j1a t') (by simpa using hc3) ?_
   simp
   exact hfin s3 (t', X.2) j1 j2 hb2
 · have h1 : ¬ kd = 0 := by omega
   have h2 : ¬ (kd : Int) = 1 := by omega
   have h3 : ¬ (kd : Int) = 2 := by omega
   have h4 : ¬ (kd : Int) = 3 := by omega
   have h5 : ¬ (kd : Int) = 4 := by omega
   simp [h1, h2, h3, h4, h5]
   exact hfin s2 X k3 hb1 hb2
end Go.Mch
namespace Go.Mch
def CY (n : Nat) (t : List (List Int)) : Prop := TabN n t ∧ ∀ r ∈ t, r.Nodup
abbrev cyT (t : List (List Int)) : T := .agg [tb t]
abbrev ownC (t : List (List Int)) : T := .agg [j1a t]
theorem CY.has {n : Nat} {t : List (List Int)} (h : CY n t) (h0 : 0 < n) (h12 : n ≤ 12) {x y : Nat} (hx : x < n) (hy : y < n) : ∃ (h1 : x < t.length), 0 ≤ ixOf t[x] y ∧ ixOf t[x] y < n := by
 have h1 : x < t.length := by rw [h.1.1]; exact hx
 have h2 := h.1.2 _ (List.getElem_mem h1)
 have hp := pm_of h2 (h.2 _ (List.getElem_mem h1)) h0 h12
 have := hp.mem (x := y) (by rw [h2.1]; exact hy)
 have h3 := j79 t[x] y
 rw [h2.1] at h3
 exact ⟨h1, (j5p _ _).2 this, h3.2⟩
theorem invL_ok {p : List Int} (h : Pm p) : j4b p.length (invL p) ∧ (invL p).Nodup := by
 refine ⟨⟨invL_length p, fun v hv => ?_⟩, ?_⟩
 · obtain ⟨i, hi, rfl⟩ := List.getElem_of_mem hv
   have hil : i < p.length := by simpa using hi
   have := h.lt hil
   rw [q7d hi]
   omega
 · rw [List.nodup_iff_pairwise_ne, List.pairwise_iff_getElem]
   intro i j hi hj hij he
   have hil : i < p.length := by simpa using hi
   have hjl : j < p.length := by simpa using hj
   rw [q7d hi, q7d hj] at he
   have h1 := h.at hil
   have h2 := h.at hjl
   have he' : invQ p i = invQ p j := by omega
   rw [he'] at h1
   rw [h1] at h2
   omega
def S_aff (pg : Pg) : Prop := ∀ n a b c : Nat, 0 < n → n ≤ 64 → a ≤ 64 → b ≤ 64 → c ≤ 64 → ∃ t : List (List Int), TabN n t ∧ Call pg 424 [I n, I a, I b, I c] [I n, I a, I b, I c] (ownC t)
set_option maxRecDepth 10000 in
theorem t_aff {pg : Pg} (hp : pg.fn 424 = some j2m) : S_aff pg := by
 intro n a b c h0 hn ha hb hc
 refine Call.find hp rfl (by simp) ?_
 show wp _ _ j2m.body _ _
 generalize hR : (fun (x : X) (e : Env) => ∃ l : List (List Int), TabN n l ∧ post j2m.rs [I n, I a, I b, I c] [I n, I a, I b, I c] (ownC l) x e) = R
 simp [j2m]
 refine j0a (fun k e => ∃ s : List (List Int), (s.length = k ∧ ∀ r ∈ s, j4b n r) ∧ e = fr [(0, some (.val (I n))), (1, some (.val (I a))), (2, some (.val (I b))), (3, some (.val (I c))), (8, some (.val (.mem .own none [nil]))), (9, some (.val (.mem .own none [j5z s]))), (10, some (.val (I k)))]) n ?_ ?_ 0 _ (by omega) ⟨[], ⟨rfl, by simp⟩, rfl⟩
 · rintro k e hk ⟨s, ⟨g3, g4⟩, rfl⟩
   simp [hk]
   refine j0a (fun j e => ∃ q : List Int, (q.length = j ∧ ∀ v ∈ q, 0 ≤ v ∧ v < n) ∧ e = fr [(0, some (.val (I n))), (1, some (.val (I a))), (2, some (.val (I b))), (3, some (.val (I c))), (8, some (.val (.mem .own none [nil]))), (9, some (.val (.mem .own none [j5z s]))), (10, some (.val (I k))), (11, some (.val (ownL q))), (12, some (.val (I j)))]) n ?_ ?_ 0 _ (by omega) ⟨[], ⟨rfl, by simp⟩, rfl⟩
   · rintro j e hj ⟨q, ⟨i3, i4⟩, rfl⟩
     obtain ⟨u, hu, hu2⟩ : ∃ u : Nat, (a : Int) * k = u ∧ u ≤ 4096 := ⟨a * k, by simp, Nat.mul_le_mul ha (by omega : k ≤ 64)⟩
     obtain ⟨v, hv, hv2⟩ : ∃ v : Nat, (b : Int) * j = v ∧ v ≤ 4096 := ⟨b * j, by simp, Nat.mul_le_mul hb (by omega : j ≤ 64)⟩
     obtain ⟨m, hm, hm2⟩ : ∃ m : Nat, ((u : Int) + v + c).tmod n = m ∧ m < n := ⟨(u + v + c) % n, by rw [Int.tmod_eq_emod_of_nonneg (by omega), Int.natCast_emod]; simp, Nat.mod_lt _ h0⟩
     have hn0 : ¬ n = 0 := by omega
     simp [hj, hu, hv, hm, hn0]
     exact ⟨by omega, by omega, by omega, by omega, by unfold roomy; omega, by omega, q ++ [(m : Int)], ⟨by simp [i3], j2x i4 (by omega)⟩, by simp only [ownL, List.map_append, List.map_cons, List.map_nil]⟩
   · rintro e ⟨q, ⟨i3, i4⟩, rfl⟩
     by_cases hk0 : k = 0
     · subst hk0
       obtain rfl : s = [] := List.length_eq_zero_iff.1 g3
       simp
       exact ⟨by unfold roomy; omega, [q], ⟨rfl, j7a ⟨i3, i4⟩⟩, rfl⟩
     · rw [j2j g3 (by omega)]
       simp
       exact ⟨by unfold roomy; omega, by omega, s ++ [q], TabN.snoc ⟨g3, g4⟩ ⟨i3, i4⟩, by simp only [j5y]⟩
 · rintro e ⟨s, ⟨g3, g4⟩, rfl⟩
   rw [j2j g3 h0]
   simp
   subst hR
   exact ⟨s, ⟨g3, g4⟩, by simp [post, j2m]⟩
def S_sqs (pg : Pg) : Prop := ∀ (n : Nat) (t : List (List Int)), n ≤ 64 → TabN n t → ∃ q : List Int, q.length = n ∧ Call pg 417 [tb t] [tb t] (ownL q)
set_option maxRecDepth 10000 in
theorem t_sqs {pg : Pg} (hp : pg.fn 417 = some j14) : S_sqs pg := by
 intro n t hn ht
 have htl := ht.1
 refine Call.find hp rfl (by simp) ?_
 show wp _ _ j14.body _ _
 generalize hR : (fun (x : X) (e : Env) => ∃ l : List Int, l.length = n ∧ post j14.rs [tb t] [tb t] (ownL l) x e) = R
 simp [j14]
 refine j0a (fun k e => ∃ q : List Int, q.length = k ∧ e = fr [(0, some (.val (tb t))), (3, some (.val (ownL q))), (4, some (.val (I k)))]) n ?_ ?_ 0 _ (by omega) ⟨[], rfl, rfl⟩
 · rintro k e hk ⟨q, g1, rfl⟩
   obtain ⟨u1, u2, u3, u4, u5⟩ := ht.at hk hk
   simp [hk, htl, u3]
   exact ⟨by unfold roomy; omega, by omega, q ++ [t[k][k]], by simp [g1], by simp only [ownL, List.map_append, List.map_cons, List.map_nil]⟩
 · rintro e ⟨q, g1, rfl⟩
   simp [htl]
   subst hR
   exact ⟨q, g1, by simp [post, j14]⟩
def S_flt (pg : Pg) : Prop := ∀ (n : Nat) (t : List (List Int)), n ≤ 64 → TabN n t → ∃ q : List Int, q.length ≤ 3 ∧ Call pg 418 [tb t] [tb t] (ownL q)
set_option maxRecDepth 10000 in
theorem t_flt {pg : Pg} (hp : pg.fn 418 = some j2f) : S_flt pg := by
 intro n t hn ht
 have htl := ht.1
 refine Call.find hp rfl (by simp) ?_
 show wp _ _ j2f.body _ _
 generalize hR : (fun (x : X) (e : Env) => ∃ l : List Int, l.length ≤ 3 ∧ post j2f.rs [tb t] [tb t] (ownL l) x e) = R
 simp [j2f, htl]
 refine j0a (fun x e => e = fr [(0, some (.val (tb t))), (3, some (.val (I n))), (4, some (.val (I x)))]) n ?_ ?_ 0 _ (by omega) rfl
 · rintro x e hx rfl
   simp [hx]
   refine j0a (fun y e => e = fr [(0, some (.val (tb t))), (3, some (.val (I n))), (4, some (.val (I x))), (5, some (.val (I y)))]) n ?_ ?_ 0 _ (by omega) rfl
   · rintro y e hy rfl
     simp [hy]
     refine j0a (fun z e => e = fr [(0, some (.val (tb t))), (3, some (.val (I n))), (4, some (.val (I x))), (5, some (.val (I y))), (6, some (.val (I z)))]) n ?_ ?_ 0 _ (by omega) rfl
     · rintro z e hz rfl
       obtain ⟨a1, a2, a3, a4, a5⟩ := ht.at hx hy
       obtain ⟨b1, b2, b3, b4, b5⟩ := ht.at hx hz
       obtain ⟨c1, c2, c3, c4, c5⟩ := ht.at hy hx
       obtain ⟨d1, d2, d3, d4, d5⟩ := ht.at hy hz
       obtain ⟨A, hA⟩ : ∃ A : Nat, t[x][y] = A := ⟨(t[x][y]).toNat, by omega⟩
       obtain ⟨B, hB⟩ : ∃ A : Nat, t[x][z] = A := ⟨(t[x][z]).toNat, by omega⟩
       obtain ⟨C, hC⟩ : ∃ A : Nat, t[y][x] = A := ⟨(t[y][x]).toNat, by omega⟩
       obtain ⟨D, hD⟩ : ∃ A : Nat, t[y][z] = A := ⟨(t[y][z]).toNat, by omega⟩
       rw [hA] at a4 a5
       rw [hB] at b4 b5
       rw [hC] at c4 c5
       rw [hD] at d4 d5
       have hAn : A < n := by omega
       have hBn : B < n := by omega
       have hCn : C < n := by omega
       have hDn : D < n := by omega
       obtain ⟨m1, m2, m3, m4, m5⟩ := ht.at hAn hBn
       obtain ⟨n1, n2, n3, n4, n5⟩ := ht.at hCn hDn
       by_cases he : t[A][B] = t[C][D]
       · simp [hz, hx, hy, htl, a3, c3, hA, hB, hC, hD, hAn, hBn, hCn, hDn, m3, n3, he]
         omega
       · simp [hz, hx, hy, htl, a3, c3, hA, hB, hC, hD, hAn, hBn, hCn, hDn, m3, n3, he]
         subst hR
         exact ⟨[(x : Int), y, z], by simp, by simp [post, j2f]⟩
     · rintro e rfl
       simp
       omega
   · rintro e rfl
     simp
     omega
 · rintro e rfl
   simp
   subst hR
   exact ⟨[], by simp, by simp [post, j2f]⟩
end Go.Mch
namespace Go.Mch
def S_cyI (pg : Pg) : Prop := ∀ (n : Nat) (t : List (List Int)), 0 < n → n ≤ 12 → TabN n t → ∃ b : Bool, (b = true → ∀ r ∈ t, r.Nodup) ∧ Call pg 363 [cyT t] [cyT t] (B b)
set_option maxRecDepth 10000 in
theorem t_cyI {pg : Pg} (hp : pg.fn 363 = some j3e) (h46 : j98 pg 46) (h410 : q1j pg) (h417 : S_sqs pg) (h47 : S_perm pg 47) (h418 : S_flt pg) : S_cyI pg := by
 intro n t h0 hn ht
 have htl := ht.1
 have hT := ht.tab
 have hc1 := h46 t (by omega) (fun r hr => by have := (ht.2 r hr).1; omega)
 have hist : j4z t := ⟨by omega, by omega, hT⟩
 have hc2 := h410 t hT (by omega) (by omega)
 obtain ⟨q, q1, hc3⟩ := h417 n t (by omega) ht
 have hc4 := h47 q (by omega)
 obtain ⟨w, w1, hc5⟩ := h418 n t (by omega) ht
 have hw1 : w.length ≤ 1048576 := by omega
 simp only [hist, decide_true] at hc1
 by_cases hr : j4w t
 · simp only [hr, decide_true] at hc2
   by_cases hq : isPerm q
   · simp only [hq, decide_true] at hc4
     refine ⟨decide (w.length = 0), fun _ r hr' => (hr r hr').2, Call.intro hp rfl (by simp) ?_⟩
     show wp _ _ j3e.body (post _ _ _ _) _
     simp [j3e]
     refine j0f hc1 rfl rfl (fun _ => rfl) ?_
     simp
     refine j0f hc2 rfl rfl (fun _ => rfl) ?_
     simp
     refine j0f hc3 rfl rfl (fun _ => by simp) ?_
     simp
     refine j0f hc4 rfl rfl (fun _ => rfl) ?_
     simp
     refine j0f hc5 rfl rfl (fun _ => by simp) ?_
     simp
   · simp only [hq, decide_false] at hc4
     refine ⟨false, by simp, Call.intro hp rfl (by simp) ?_⟩
     show wp _ _ j3e.body (post _ _ _ _) _
     simp [j3e]
     refine j0f hc1 rfl rfl (fun _ => rfl) ?_
     simp
     refine j0f hc2 rfl rfl (fun _ => rfl) ?_
     simp
     refine j0f hc3 rfl rfl (fun _ => by simp) ?_
     simp
     refine j0f hc4 rfl rfl (fun _ => rfl) ?_
     simp [j00]
 · simp only [hr, decide_false] at hc2
   refine ⟨false, by simp, Call.intro hp rfl (by simp) ?_⟩
   show wp _ _ j3e.body (post _ _ _ _) _
   simp [j3e]
   refine j0f hc1 rfl rfl (fun _ => rfl) ?_
   simp
   refine j0f hc2 rfl rfl (fun _ => rfl) ?_
   simp [j00]
def S_cyc (pg : Pg) : Prop := ∀ (n : Nat) (f s : List (List Int)), 0 < n → n ≤ 12 → CY n f → fits s → ∃ t : List (List Int), CY n t ∧ Call pg 364 [sol f s] [sol f s] (ownC t)
set_option maxRecDepth 10000 in
theorem t_cyc {pg : Pg} (hp : pg.fn 364 = some j22) (h304 : S_inv pg 304) : S_cyc pg := by
 intro n f s h0 hn hf hs
 have hfl := hf.1.1
 refine Call.find hp rfl (by simp) ?_
 show wp _ _ j22.body _ _
 generalize hR : (fun (x : X) (e : Env) => ∃ l : List (List Int), CY n l ∧ post j22.rs [sol f s] [sol f s] (ownC l) x e) = R
 simp [j22]
 refine j0a (fun k e => ∃ t : List (List Int), ((t.length = k ∧ ∀ r ∈ t, j4b n r) ∧ ∀ r ∈ t, r.Nodup) ∧ e = fr [(1, some (.val (.mem .own none [tb f, tb s]))), (2, some (.val (.mem .own none [nil]))), (3, some (.val (.mem .own none [j5z t]))), (4, some (.val (I k)))]) n ?_ ?_ 0 _ (by omega) ⟨[], ⟨⟨rfl, by simp⟩, by simp⟩, rfl⟩
 · rintro k e hk ⟨t, ⟨⟨g1, g2⟩, g3⟩, rfl⟩
   have hkl : k < f.length := by omega
   have hr := hf.1.2 _ (List.getElem_mem hkl)
   have hpm := pm_of hr (hf.2 _ (List.getElem_mem hkl)) h0 hn
   have hc := h304 f[k] hpm
   obtain ⟨j1, j2⟩ := invL_ok hpm
   rw [hr.1] at j1
   by_cases hk0 : k = 0
   · subst hk0
     obtain rfl : t = [] := List.length_eq_zero_iff.1 g1
     simp [hk, hfl]
     refine j0f hc rfl rfl (fun _ => by simp) ?_
     simp
     exact ⟨by unfold roomy; omega, [invL f[0]], ⟨⟨rfl, j7a j1⟩, fun r hr => by rw [List.mem_singleton.1 hr]; exact j2⟩, rfl⟩
   · rw [j2j g1 (by omega)]
     simp [hk, hfl]
     refine j0f hc rfl rfl (fun _ => by simp) ?_
     simp
     refine ⟨by unfold roomy; omega, by omega, t ++ [invL f[k]], ⟨TabN.snoc ⟨g1, g2⟩ j1, fun r hr => ?_⟩, by simp only [j5y]⟩
     rcases List.mem_append.1 hr with h1 | h1
     · exact g3 r h1
     · rw [List.mem_singleton.1 h1]; exact j2
 · rintro e ⟨t, ⟨⟨g1, g2⟩, g3⟩, rfl⟩
   rw [j2j g1 h0]
   simp [hfl]
   subst hR
   exact ⟨t, ⟨⟨g1, g2⟩, g3⟩, by simp [post, j22]⟩
def S_cys (pg : Pg) : Prop := ∀ (n : Nat) (t : List (List Int)), 0 < n → n ≤ 12 → CY n t → ∃ X : S2, PMN n X.1 X.2 ∧ Call pg 366 [cyT t] [cyT t] (ownS X)
set_option maxRecDepth 10000 in
theorem t_cys {pg : Pg} (hp : pg.fn 366 = some j1r) (h398 : q7v pg) (h69 : q2l pg) : S_cys pg := by
 intro n t h0 hn ht
 have htl := ht.1.1
 refine Call.find hp rfl (by simp) ?_
 show wp _ _ j1r.body _ _
 generalize hR : (fun (x : X) (e : Env) => ∃ l : S2, PMN n l.1 l.2 ∧ post j1r.rs [cyT t] [cyT t] (ownS l) x e) = R
 simp [j1r]
 rw [htl]
 refine j0f (h398 n h0 (by omega)) rfl rfl (fun _ => by simp) ?_
 simp
 refine j0a (fun a e => ∃ F S : List (List Int), PMN n F S ∧ e = fr [(1, some (.val (.mem .own none [tb t]))), (2, some (.val (.mem .own none [nil, nil]))), (3, some (.val (I n))), (4, some (.val (.mem .own none [j1a F, j1a S]))), (5, some (.val (I a)))]) n ?_ ?_ 0 _ (by omega) ⟨j8h n n, j8h n n, ⟨j9e h0, j9e h0⟩, rfl⟩
 · rintro a e ha ⟨F, S, hX, rfl⟩
   have hal : a < t.length := by omega
   have w1 := hX.1.1
   have w2 := hX.2.1
   have xF : a < F.length := by omega
   have xS : a < S.length := by omega
   have rF := (hX.1.2 _ (List.getElem_mem xF)).1
   have rS := (hX.2.2 _ (List.getElem_mem xS)).1
   have hg1 : (rows F)[a]? = some (ownL F[a]) := by rw [j55, List.getElem?_eq_getElem xF]; rfl
   have hg2 : (rows S)[a]? = some (ownL S[a]) := by rw [j55, List.getElem?_eq_getElem xS]; rfl
   simp [ha, w1, w2, rF, rS]
   refine j0a (fun b e => ∃ F S : List (List Int), PMN n F S ∧ e = fr [(1, some (.val (.mem .own none [tb t]))), (2, some (.val (.mem .own none [nil, nil]))), (3, some (.val (I n))), (4, some (.val (.mem .own none [j1a F, j1a S]))), (5, some (.val (I a))), (6, some (.sref 4 [0, a] 1 0 n)), (7, some (.sref 4 [1, a] 1 0 n)), (8, some (.val (I b)))]) n ?_ ?_ 0 _ (by omega) ⟨F, S, hX, by simp⟩
   · clear hg1 hg2 rF rS xF xS w1 w2 hX
     rintro b e hb ⟨F, S, hX, rfl⟩
     have w1 := hX.1.1
     have w2 := hX.2.1
     have xF : a < F.length := by omega
     have xS : a < S.length := by omega
     have rF := (hX.1.2 _ (List.getElem_mem xF)).1
     have rS := (hX.2.2 _ (List.getElem_mem xS)).1
     have hg1 : (rows F)[a]? = some (ownL F[a]) := by rw [j55, List.getElem?_eq_getElem xF]; rfl
     have hg2 : (rows S)[a]? = some (ownL S[a]) := by rw [j55, List.getElem?_eq_getElem xS]; rfl
     obtain ⟨_, z1, z2⟩ := ht.has h0 hn ha hb
     have hrow := (ht.1.2 _ (List.getElem_mem hal)).1
     have hc := h69 t[a] b (by omega)
     obtain ⟨u, hu⟩ : ∃ u : Nat, ixOf t[a] b = u := ⟨(ixOf t[a] b).toNat, by omega⟩
     rw [hu] at z1 z2 hc
     have hun : u < n := by omega
     obtain ⟨m1, m2, m3, m4, m5⟩ := ht.1.at hun ha
     simp [hb, ha, htl]
     refine j0f hc rfl rfl (fun _ => rfl) ?_
     simp [hb, ha, htl, w1, w2, rF, rS, hun, m3]
     exact ⟨by omega, by omega, F.set a (F[a].set b u), S.set a (S[a].set b t[u][a]), ⟨hX.1.set2 xF ⟨by omega, by omega⟩, hX.2.set2 xS ⟨by omega, by omega⟩⟩, by simp only [j1a, ← j8t xF, ← j8t xS]⟩
   · rintro e ⟨F, S, hX, rfl⟩
     simp
     exact ⟨by omega, F, S, hX, rfl⟩
 · rintro e ⟨F, S, hX, rfl⟩
   simp
   subst hR
   exact ⟨(F, S), hX, by simp [post, j1r]⟩
theorem PMN.pm {n : Nat} {f s : List (List Int)} (h : PMN n f s) (h0 : 0 < n) (h12 : n ≤ 12) : PM f s := ⟨h.1.tab, h.2.tab, by rw [h.1.1, h.2.1], by rw [h.1.1]; exact h0, by rw [h.1.1]; exact h12⟩
theorem PMN.fits {n : Nat} {f s : List (List Int)} (h : PMN n f s) (h12 : n ≤ 12) : fits f ∧ fits s := ⟨⟨by rw [h.1.1]; omega, fun r hr => by rw [(h.1.2 r hr).1]; omega⟩, by rw [h.2.1]; omega, fun r hr => by rw [(h.2.2 r hr).1]; omega⟩
def S_cyD (pg : Pg) (f : Nat) : Prop := ∀ (c : Rw Int) (s : Int × Int) (most : Nat), Sr c s → 0 < most → most ≤ 12 → ∃ (s' : Int × Int) (n : Nat) (t : List (List Int)), (Sr c s' ∧ 0 < n ∧ n ≤ most ∧ CY n t) ∧ Call pg f [src c s, I most] [src c s', I most] (ownC t)
set_option maxRecDepth 10000 in
theorem t_cyA {pg : Pg} (hp : pg.fn 427 = some j3f) (h336 : j9c pg) (h424 : S_aff pg) (h363 : S_cyI pg) (h412 : S_dr2 pg) (h350 : j8e pg 350) (h351 : S_twice pg 351) (h364 : S_cyc pg) (h449 : S_flp pg) : S_cyD pg 427 := by
 intro c s most hs m0 m12
 have hfind := Call.q18 (α := (Int × Int) × Nat × List (List Int)) (Q := fun Y => Sr c Y.1 ∧ 0 < Y.2.1 ∧ Y.2.1 ≤ most ∧ CY Y.2.1 Y.2.2) (args := [src c s, I most]) (args' := fun Y => [src c Y.1, I most]) (r := fun Y => ownC Y.2.2) hp rfl (by simp [F.lets, j3f, List.range, List.range.loop]) (by simp [kindOf]) ?_
 · obtain ⟨Y, h1, h2⟩ := hfind
   exact ⟨_, _, _, h1, h2⟩
 show wp _ _ j3f.body (j5n _ _ _ _ _) _
 generalize hR : j5n (fun Y : (Int × Int) × Nat × List (List Int) => Sr c Y.1 ∧ 0 < Y.2.1 ∧ Y.2.1 ≤ most ∧ CY Y.2.1 Y.2.2) j3f.rs [src c s, I most] (fun Y => [src c Y.1, I most]) (fun Y => ownC Y.2.2) = R
 have hfin : ∀ (s' : Int × Int) (k : Nat) (t : List (List Int)), Sr c s' → 0 < k → k ≤ most → CY k t → R .ret (fr [(0, some (.val (src c s'))), (1, some (.val (I most))), (4, some (.val (.mem .own none [j1a t])))]) := by
  intro s' k X a1 a2 a3 a4
  subst hR
  exact ⟨(s', k, X), ⟨a1, a2, a3, a4⟩, by simp [post, j3f]⟩
 obtain ⟨s1, r1, ⟨k1, k2⟩, hc1⟩ := h336.at hs (n := most) m0
 obtain ⟨s2, kd, ⟨k3, k4⟩, hc2⟩ := h336.at k1 (n := 3) (by omega)
 obtain ⟨n, hn⟩ : ∃ n : Nat, (1 : Int) + r1 = n := ⟨1 + r1, by omega⟩
 have hn0 : 0 < n := by omega
 have hnm : n ≤ most := by omega
 simp [j3f]
 refine j1b (ts' := [rawB c, I s1.1, H64 s1.2]) (r := I r1) (by simpa using hc1) ?_
 simp [hn]
 refine ⟨by omega, ?_⟩
 refine j1b (ts' := [rawB c, I s2.1, H64 s2.2]) (r := I kd) (by simpa using hc2) ?_
 by_cases hk0 : kd = 0
 · simp [hk0]
   refine j0a (fun k e => ∃ s' : Int × Int, Sr c s' ∧ e = fr [(0, some (.val (src c s'))), (1, some (.val (I most))), (4, some (.val (.mem .own none [nil]))), (5, some (.val (I n))), (6, some (.val (I k)))]) 30 ?_ ?_ 0 _ (by omega) ⟨s2, k3, rfl⟩
   · rintro k e hk ⟨s3, g1, rfl⟩
     obtain ⟨s4, a1, ⟨j1, j2⟩, hd1⟩ := h336.at g1 (n := n) hn0
     obtain ⟨s5, a2, ⟨j3, j4⟩, hd2⟩ := h336.at j1 (n := n) hn0
     obtain ⟨s6, a3, ⟨j5, j6⟩, hd3⟩ := h336.at j3 (n := n) hn0
     obtain ⟨t, ht, hd4⟩ := h424 n a1 a2 a3 hn0 (by omega) (by omega) (by omega) (by omega)
     obtain ⟨b, hb, hd5⟩ := h363 n t hn0 (by omega) ht
     have hk' : (k : Int) < 30 := by omega
     simp [hk']
     refine j1b (ts' := [rawB c, I s4.1, H64 s4.2]) (r := I a1) (by simpa using hd1) ?_
     simp
     refine j1b (ts' := [rawB c, I s5.1, H64 s5.2]) (r := I a2) (by simpa using hd2) ?_
     simp
     refine j1b (ts' := [rawB c, I s6.1, H64 s6.2]) (r := I a3) (by simpa using hd3) ?_
     simp
     refine j0f hd4 rfl rfl (fun _ => by simp) ?_
     simp
     refine j0f hd5 rfl rfl (fun _ => rfl) ?_
     cases b with
     | true =>
      simp
      exact hfin s6 n t j5 hn0 hnm ⟨ht, hb rfl⟩
     | false =>
      simp
      exact ⟨by omega, s6.1, s6.2, j5, rfl⟩
   · rintro e ⟨s3, g1, rfl⟩
     simp
     refine j0a (fun k e => ∃ s' : Int × Int, Sr c s' ∧ e = fr [(0, some (.val (src c s'))), (1, some (.val (I most))), (4, some (.val (.mem .own none [nil]))), (5, some (.val (I n))), (8, some (.val (I k)))]) 8 ?_ ?_ 0 _ (by omega) ⟨s3, g1, rfl⟩
     · rintro k e hk ⟨s3, g1, rfl⟩
       obtain ⟨s4, m, X, ⟨j1, j2, j3, j4⟩, hd1⟩ := h412 c s3 n g1 hn0 (by omega)
       have hpm := j4.pm j2 (by omega)
       have hfit := j4.fits (by omega)
       have hk' : (k : Int) < 8 := by omega
       have hd2 := h350 X.1 X.2 hpm
       have hd3 := h351 X.1 X.2 hpm
       simp [hk']
       refine j1b (ts' := [rawB c, I s4.1, H64 s4.2]) (r := ownS X) (by simpa using hd1) ?_
       simp
       refine j0f hd2 rfl rfl (fun _ => rfl) ?_
       by_cases hg : j5w X.1 X.2
       · simp [hg]
         refine j0f hd3 rfl rfl (fun _ => rfl) ?_
         generalize dec (isInv X.1 X.2) = b at *
         cases b with
         | true =>
          obtain ⟨t, ht, hd4⟩ := h364 m X.1 X.2 j2 (by omega) ⟨j4.1, fun r hr => (hg.1 r hr).2⟩ hfit.2
          simp
          refine j0f hd4 rfl rfl (fun _ => by simp) ?_
          simp
          exact hfin s4 m t j1 j2 (by omega) ht
         | false =>
          simp
          exact ⟨by omega, s4.1, s4.2, j1, rfl⟩
       · simp [hg, j00]
         exact ⟨by omega, s4.1, s4.2, j1, rfl⟩
     · rintro e ⟨s3, g1, rfl⟩
       obtain ⟨X, ⟨j1, j2⟩, hd1⟩ := h449 n hn0 (by omega)
       have hfit := j1.fits (by omega)
       obtain ⟨t, ht, hd2⟩ := h364 n X.1 X.2 hn0 (by omega) ⟨j1.1, fun r hr => by rw [j2 r hr]; exact (j6x n).2⟩ hfit.2
       simp
       refine j0f hd1 rfl rfl (fun _ => by simp) ?_
       simp
       refine j0f hd2 rfl rfl (fun _ => by simp) ?_
       simp
       exact hfin s3 n t g1 hn0 hnm ht
 · simp [hk0]
   refine j0a (fun k e => ∃ s' : Int × Int, Sr c s' ∧ e = fr [(0, some (.val (src c s'))), (1, some (.val (I most))), (4, some (.val (.mem .own none [nil]))), (5, some (.val (I n))), (8, some (.val (I k)))]) 8 ?_ ?_ 0 _ (by omega) ⟨s2, k3, rfl⟩
   · rintro k e hk ⟨s3, g1, rfl⟩
     obtain ⟨s4, m, X, ⟨j1, j2, j3, j4⟩, hd1⟩ := h412 c s3 n g1 hn0 (by omega)
     have hpm := j4.pm j2 (by omega)
     have hfit := j4.fits (by omega)
     have hk' : (k : Int) < 8 := by omega
     have hd2 := h350 X.1 X.2 hpm
     have hd3 := h351 X.1 X.2 hpm
     simp [hk']
     refine j1b (ts' := [rawB c, I s4.1, H64 s4.2]) (r := ownS X) (by simpa using hd1) ?_
     simp
     refine j0f hd2 rfl rfl (fun _ => rfl) ?_
     by_cases hg : j5w X.1 X.2
     · simp [hg]
       refine j0f hd3 rfl rfl (fun _ => rfl) ?_
       generalize dec (isInv X.1 X.2) = b at *
       cases b with
       | true =>
        obtain ⟨t, ht, hd4⟩ := h364 m X.1 X.2 j2 (by omega) ⟨j4.1, fun r hr => (hg.1 r hr).2⟩ hfit.2
        simp
        refine j0f hd4 rfl rfl (fun _ => by simp) ?_
        simp
        exact hfin s4 m t j1 j2 (by omega) ht
       | false =>
        simp
        exact ⟨by omega, s4.1, s4.2, j1, rfl⟩
     · simp [hg, j00]
       exact ⟨by omega, s4.1, s4.2, j1, rfl⟩
   · rintro e ⟨s3, g1, rfl⟩
     obtain ⟨X, ⟨j1, j2⟩, hd1⟩ := h449 n hn0 (by omega)
     have hfit := j1.fits (by omega)
     obtain ⟨t, ht, hd2⟩ := h364 n X.1 X.2 hn0 (by omega) ⟨j1.1, fun r hr => by rw [j2 r hr]; exact (j6x n).2⟩ hfit.2
     simp
     refine j0f hd1 rfl rfl (fun _ => by simp) ?_
     simp
     refine j0f hd2 rfl rfl (fun _ => by simp) ?_
     simp
     exact hfin s3 n t g1 hn0 hnm ht
theorem nodup_inj {p : List Int} (h : p.Nodup) {i j : Nat} (hi : i < p.length) (hj : j < p.length) (he : p.getD i 0 = p.getD j 0) : i = j := by
 simp only [List.getD_eq_getElem?_getD, List.getElem?_eq_getElem hi, List.getElem?_eq_getElem hj, Option.getD_some] at he
 exact (List.getElem_inj h).1 he
theorem imT_nodup {n : Nat} {t : List (List Int)} {p : List Int} (ht : CY n t) (hp : Pm p) (hl : p.length = n) : ∀ r ∈ imT t p, r.Nodup := by
 intro r hr
 obtain ⟨a, ha, rfl⟩ := List.mem_map.1 hr
 simp only [List.mem_range] at ha
 have htl := ht.1.1
 have hA := hp.lt (x := a) (by omega)
 have hAt : invQ p a < t.length := by omega
 have hrow := ht.1.2 _ (List.getElem_mem hAt)
 have hnd := ht.2 _ (List.getElem_mem hAt)
 rw [List.nodup_iff_pairwise_ne, List.pairwise_iff_getElem]
 intro i j hi hj hij he
 have hil : i < n := by simp at hi; omega
 have hjl : j < n := by simp at hj; omega
 simp only [List.getElem_map, List.getElem_range] at he
 unfold imG at he
 have hI := hp.lt (x := i) (by omega)
 have hJ := hp.lt (x := j) (by omega)
 obtain ⟨u1, u2, u3, u4, u5⟩ := ht.1.at (i := invQ p a) (j := invQ p i) (by omega) (by omega)
 obtain ⟨v1, v2', v3, v4, v5⟩ := ht.1.at (i := invQ p a) (j := invQ p j) (by omega) (by omega)
 have e1 := j27 u1 u2
 have e2 := j27 v1 v2'
 rw [e1] at u4 u5
 rw [e2] at v4 v5
 have h1 := nodup_inj hp.pm.2 (by omega) (by omega) he
 have h2 : v2 t (invQ p a) (invQ p i) = v2 t (invQ p a) (invQ p j) := by omega
 rw [← e1, ← e2] at h2
 have h3 := (List.getElem_inj hnd).1 h2
 have h4 := hp.at (x := i) (by omega)
 have h5 := hp.at (x := j) (by omega)
 rw [h3] at h4
 omega
set_option maxRecDepth 10000 in
theorem t_cyDr {pg : Pg} (hp : pg.fn 378 = some j2u) (h336 : j9c pg) (h427 : S_cyD pg 427) (h368 : S_drw pg) (h367 : q7u pg 367) : S_cyD pg 378 := by
 intro c s most hs m0 m12
 have hfind := Call.q18 (α := (Int × Int) × Nat × List (List Int)) (Q := fun Y => Sr c Y.1 ∧ 0 < Y.2.1 ∧ Y.2.1 ≤ most ∧ CY Y.2.1 Y.2.2) (args := [src c s, I most]) (args' := fun Y => [src c Y.1, I most]) (r := fun Y => ownC Y.2.2) hp rfl (by simp [F.lets, j2u, List.range, List.range.loop]) (by simp [kindOf]) ?_
 · obtain ⟨Y, h1, h2⟩ := hfind
   exact ⟨_, _, _, h1, h2⟩
 show wp _ _ j2u.body (j5n _ _ _ _ _) _
 generalize hR : j5n (fun Y : (Int × Int) × Nat × List (List Int) => Sr c Y.1 ∧ 0 < Y.2.1 ∧ Y.2.1 ≤ most ∧ CY Y.2.1 Y.2.2) j2u.rs [src c s, I most] (fun Y => [src c Y.1, I most]) (fun Y => ownC Y.2.2) = R
 have hfin : ∀ (s' : Int × Int) (k : Nat) (t : List (List Int)), Sr c s' → 0 < k → k ≤ most → CY k t → R .ret (fr [(0, some (.val (src c s'))), (1, some (.val (I most))), (4, some (.val (.mem .own none [j1a t])))]) := by
  intro s' k X a1 a2 a3 a4
  subst hR
  exact ⟨(s', k, X), ⟨a1, a2, a3, a4⟩, by simp [post, j2u]⟩
 obtain ⟨s1, n, t, ⟨k1, k2, k3, k4⟩, hc1⟩ := h427 c s most hs m0 m12
 obtain ⟨s2, r, ⟨k5, _⟩, hc2⟩ := h336.at k1 (n := 3) (by omega)
 obtain ⟨s3, p, ⟨k6, k7, k8⟩, hc3⟩ := h368 c s2 n k5 (by omega)
 have hpm := pm_of k7 k8 k2 (by omega)
 have hl1 := k4.1.1
 have hc4 := h367 t p k4.1.tab hpm (by rw [k7.1, hl1])
 simp [j2u]
 refine j1b (ts' := [rawB c, I s1.1, H64 s1.2]) (r := ownC t) (by simpa using hc1) ?_
 simp
 refine j1b (ts' := [rawB c, I s2.1, H64 s2.2]) (r := I r) (by simpa using hc2) ?_
 by_cases hr : 0 < r
 · simp [hr, hl1]
   refine j1b (ts' := [rawB c, I s3.1, H64 s3.2]) (r := ownL p) (by simpa using hc3) ?_
   simp [hl1]
   refine j0f hc4 rfl rfl (fun _ => by simp) ?_
   simp
   refine hfin s3 n (imT t p) k6 k2 k3 ⟨q0s k4.1 hpm k7.1, ?_⟩
   exact imT_nodup k4 hpm k7.1
 · simp [hr]
   exact hfin s2 n t k5 k2 k3 k4
set_option maxRecDepth 10000 in
theorem t_spl7 {pg : Pg} (hp : pg.fn 268 = some j2e) (h336 : j9c pg) (h378 : S_cyD pg 378) (h366 : S_cys pg) (h379 : S_spl pg 379) : S_spl pg 268 := by
 intro c s most hs m0 m12
 have hfind := Call.q18 (α := (Int × Int) × S2) (Q := fun Y => Sr c Y.1 ∧ Bd Y.2.1 ∧ Bd Y.2.2) (args := [src c s, I most]) (args' := fun Y => [src c Y.1, I most]) (r := fun Y => ownS Y.2) hp rfl (by simp [F.lets, j2e, List.range, List.range.loop]) (by simp [kindOf]) ?_
 · obtain ⟨Y, h1, h2⟩ := hfind
   exact ⟨_, _, h1, h2⟩
 show wp _ _ j2e.body (j5n _ _ _ _ _) _
 generalize hR : j5n (fun Y : (Int × Int) × S2 => Sr c Y.1 ∧ Bd Y.2.1 ∧ Bd Y.2.2) j2e.rs [src c s, I most] (fun Y => [src c Y.1, I most]) (fun Y => ownS Y.2) = R
 have hfin : ∀ (s' : Int × Int) (X : S2), Sr c s' → Bd X.1 → Bd X.2 → R .ret (fr [(0, some (.val (src c s'))), (1, some (.val (I most))), (4, some (.val (.mem .own none [j1a X.1, j1a X.2])))]) := by
  intro s' X a1 a2 a3
  subst hR
  exact ⟨(s', X), ⟨a1, a2, a3⟩, by simp [post, j2e]⟩
 obtain ⟨s1, r, ⟨k1, _⟩, hc1⟩ := h336.at hs (n := 3) (by omega)
 simp [j2e]
 refine j1b (ts' := [rawB c, I s1.1, H64 s1.2]) (r := I r) (by simpa using hc1) ?_
 by_cases hr : r = 0
 · obtain ⟨s2, n, t, ⟨k2, k3, k4, k5⟩, hc2⟩ := h378 c s1 most k1 m0 m12
   obtain ⟨X, hX, hc3⟩ := h366 n t k3 (by omega) k5
   simp [hr]
   refine j1b (ts' := [rawB c, I s2.1, H64 s2.2]) (r := ownC t) (by simpa using hc2) ?_
   simp
   refine j0f hc3 rfl rfl (fun _ => by simp) ?_
   simp
   exact hfin s2 X k2 (hX.1.bd (by omega)) (hX.2.bd (by omega))
 · obtain ⟨s2, X, ⟨k2, k3, k4⟩, hc2⟩ := h379 c s1 most k1 m0 m12
   simp [hr]
   refine j1b (ts' := [rawB c, I s2.1, H64 s2.2]) (r := ownS X) (by simpa using hc2) ?_
   simp
   exact hfin s2 X k2 k3 k4
end Go.Mch
namespace Go.Mch
def Rn (k : Int) : Prop := -4611686018427387904 ≤ k ∧ k ≤ 1099511627776
def S_count (pg : Pg) : Prop := ∀ (c : Rw Int) (s : Int × Int) (n : Int), Sr c s → -1 ≤ n → n ≤ 1048576 → ∃ (s' : Int × Int) (k : Int), (Sr c s' ∧ Rn k) ∧ Call pg 293 [src c s, I n] [src c s', I n] (I k)
set_option maxRecDepth 10000 in
theorem t_count {pg : Pg} (hp : pg.fn 293 = some j2h) (h336 : j9c pg) (h292 : S_pick pg) : S_count pg := by
 intro c s n hs m0 m12
 have hfind := Call.q18 (α := (Int × Int) × Int) (Q := fun Y => Sr c Y.1 ∧ Rn Y.2) (args := [src c s, I n]) (args' := fun Y => [src c Y.1, I n]) (r := fun Y => I Y.2) hp rfl (by simp [F.lets, j2h, List.range, List.range.loop]) (by simp [kindOf]) ?_
 · obtain ⟨Y, h1, h2⟩ := hfind
   exact ⟨_, _, h1, h2⟩
 show wp _ _ j2h.body (j5n _ _ _ _ _) _
 generalize hR : j5n (fun Y : (Int × Int) × Int => Sr c Y.1 ∧ Rn Y.2) j2h.rs [src c s, I n] (fun Y => [src c Y.1, I n]) (fun Y => I Y.2) = R
 have hfin : ∀ (s' : Int × Int) (k : Int), Sr c s' → Rn k → R .ret (fr [(0, some (.val (src c s'))), (1, some (.val (I n))), (4, some (.val (I k)))]) := by
  intro s' k a1 a2
  subst hR
  exact ⟨(s', k), ⟨a1, a2⟩, by simp [post, j2h]⟩
 obtain ⟨s1, r, ⟨k1, k2⟩, hc1⟩ := h336.at hs (n := 14) (by omega)
 simp [j2h]
 refine j1b (ts' := [rawB c, I s1.1, H64 s1.2]) (r := I r) (by simpa using hc1) ?_
 by_cases hr : r = 0
 · obtain ⟨s2, z, ⟨j1, j2⟩, hc2⟩ := h292 c s1 [-1, n + 1, 1099511627776, -4611686018427387904] k1 (by simp) (by simp)
   simp [hr]
   refine ⟨by omega, ?_⟩
   refine j1b (ts' := [rawB c, I s2.1, H64 s2.2]) (r := I z) (by simpa [ix] using hc2) ?_
   simp
   refine hfin s2 z j1 ?_
   simp at j2
   rcases j2 with rfl | rfl | rfl | rfl <;> constructor <;> omega
 · obtain ⟨s2, z, ⟨j1, j2, j3, j4⟩, hc2⟩ := h336 c s1 (n + 1) k1
   have hz : 0 ≤ z ∧ z ≤ n + 1 := by
    by_cases h1 : 1 ≤ n + 1
    · have := j3 h1; omega
    · have := j4 (by omega); omega
   simp [hr]
   refine ⟨by omega, ?_⟩
   refine j1b (ts' := [rawB c, I s2.1, H64 s2.2]) (r := I z) (by simpa using hc2) ?_
   simp
   exact hfin s2 z j1 ⟨by omega, by omega⟩
end Go.Mch
namespace Go.Mch
theorem ren_bd {n : Nat} {X : S2} (h : PMN n X.1 X.2) (hn : n ≤ 12) {p : List Int} (hp : Pm p) (hl : p.length = n) : Bd (imT X.1 p) ∧ Bd (imT X.2 p) := ⟨(q0s h.1 hp hl).bd (by omega), (q0s h.2 hp hl).bd (by omega)⟩
theorem j7x {a n : Nat} (h : 0 < n) : ∃ m : Nat, ((a : Nat) : Int).tmod n = m ∧ m < n := ⟨a % n, by rw [Int.tmod_eq_emod_of_nonneg (by omega), Int.natCast_emod], Nat.mod_lt _ h⟩
def S_ring (pg : Pg) : Prop := ∀ (c : Rw Int) (s : Int × Int), Sr c s → ∃ (s' : Int × Int) (X : S2), (Sr c s' ∧ Bd X.1 ∧ Bd X.2) ∧ Call pg 371 [src c s] [src c s'] (ownS X)
set_option maxRecDepth 10000 in
theorem t_ring {pg : Pg} (hp : pg.fn 371 = some j2t) (h336 : j9c pg) (h268 : S_spl pg 268) (h422 : S_renS pg) (h423 : S_poly pg) (h368 : S_drw pg) (h424 : S_aff pg) (h363 : S_cyI pg) (h366 : S_cys pg) (h425 : S_twst pg) : S_ring pg := by
 intro c s hs
 have hfind := Call.q18 (α := (Int × Int) × S2) (Q := fun Y => Sr c Y.1 ∧ Bd Y.2.1 ∧ Bd Y.2.2) (args := [src c s]) (args' := fun Y => [src c Y.1]) (r := fun Y => ownS Y.2) hp rfl (by simp [F.lets, j2t, List.range, List.range.loop]) (by simp [kindOf]) ?_
 · obtain ⟨Y, h1, h2⟩ := hfind
   exact ⟨_, _, h1, h2⟩
 show wp _ _ j2t.body (j5n _ _ _ _ _) _
 generalize hR : j5n (fun Y : (Int × Int) × S2 => Sr c Y.1 ∧ Bd Y.2.1 ∧ Bd Y.2.2) j2t.rs [src c s] (fun Y => [src c Y.1]) (fun Y => ownS Y.2) = R
 have hfin : ∀ (s' : Int × Int) (X : S2), Sr c s' → Bd X.1 ∧ Bd X.2 → R .ret (fr [(0, some (.val (src c s'))), (2, some (.val (.mem .own none [j1a X.1, j1a X.2])))]) := by
  intro s' X a1 a2
  subst hR
  exact ⟨(s', X), ⟨a1, a2⟩, by simp [post, j2t]⟩
 obtain ⟨s1, r1, ⟨k1, k2⟩, hc1⟩ := h336.at hs (n := 12) (by omega)
 obtain ⟨s2, kd, ⟨k3, k4⟩, hc2⟩ := h336.at k1 (n := 5) (by omega)
 obtain ⟨n, hn⟩ : ∃ n : Nat, (1 : Int) + r1 = n := ⟨1 + r1, by omega⟩
 have hn0 : 0 < n := by omega
 have hnm : n ≤ 12 := by omega
 have ren : ∀ (s3 : Int × Int) (X : S2), Sr c s3 → PMN n X.1 X.2 → ∃ (s4 : Int × Int) (p : List Int), (Sr c s4 ∧ Bd (imT X.1 p) ∧ Bd (imT X.2 p)) ∧ Call pg 368 [src c s3, I n] [src c s4, I n] (ownL p) ∧ Call pg 422 [sol X.1 X.2, ix p] [sol X.1 X.2, ix p] (.agg [j1a (imT X.1 p), j1a (imT X.2 p)]) := by
  intro s3 X a1 a2
  obtain ⟨s4, p, ⟨j1, j2, j3⟩, hc⟩ := h368 c s3 n a1 (by omega)
  have hpm := pm_of j2 j3 hn0 hnm
  have hb := ren_bd a2 hnm hpm j2.1
  exact ⟨s4, p, ⟨j1, hb⟩, hc, h422 X.1 X.2 p a2.1.tab a2.2.tab hpm (by rw [j2.1, a2.1.1]) (by rw [j2.1, a2.2.1])⟩
 simp [j2t]
 refine j1b (ts' := [rawB c, I s1.1, H64 s1.2]) (r := I r1) (by simpa using hc1) ?_
 simp [hn]
 refine ⟨by omega, ?_⟩
 refine j1b (ts' := [rawB c, I s2.1, H64 s2.2]) (r := I kd) (by simpa using hc2) ?_
 by_cases hk0 : kd = 0
 · obtain ⟨s3, X, ⟨j1, j2⟩, hc3⟩ := h268 c s2 8 k3 (by omega) (by omega)
   simp [hk0]
   refine j1b (ts' := [rawB c, I s3.1, H64 s3.2]) (r := ownS X) (by simpa using hc3) ?_
   simp
   exact hfin s3 X j1 j2
 · by_cases hk1 : kd = 1
   · have e1 : (n : Int).tmod 2 = (n : Int) % 2 := by rw [Int.tmod_eq_emod_of_nonneg (by omega)]
     by_cases hc : (n : Int) % 2 = 1 ∧ (n : Int) < 12
     · obtain ⟨X, hX, hc3⟩ := h423 n hn0 (by omega)
       obtain ⟨s4, p, ⟨j1, j2⟩, hc4, hc5⟩ := ren s2 X k3 hX
       simp [hk1, e1, hc.1, hc.2]
       refine j0f hc3 rfl rfl (fun _ => by simp) ?_
       simp
       refine j1b (ts' := [rawB c, I s4.1, H64 s4.2]) (r := ownL p) (by simpa using hc4) ?_
       simp
       refine j0f hc5 rfl rfl (fun _ => by simp) ?_
       simp
       exact hfin s4 (imT X.1 p, imT X.2 p) j1 j2
     · obtain ⟨s4, d, ⟨j1, j2⟩, hcd⟩ := h336.at k3 (n := n) hn0
       by_cases hc1 : (n : Int) % 2 = 1
       · have hc2 : ¬ (n : Int) < 12 := fun hh => hc ⟨hc1, hh⟩
         simp [hk1, e1, hc1, hc2]
         refine j1b (ts' := [rawB c, I s4.1, H64 s4.2]) (r := I d) (by simpa using hcd) ?_
         simp
         refine j0a (fun k e => ∃ A B : List Int, (A.length = k ∧ B.length = k ∧ (∀ v ∈ A, 0 ≤ v ∧ v < n) ∧ ∀ v ∈ B, 0 ≤ v ∧ v < n) ∧ e = fr [(0, some (.val (src c s4))), (2, some (.val (.mem .own none [nil, nil]))), (3, some (.val (I n))), (6, some (.val (ownL A))), (7, some (.val (ownL B))), (8, some (.val (I d))), (9, some (.val (I k)))]) n ?_ ?_ 0 _ (by omega) ⟨[], [], ⟨rfl, rfl, by simp, by simp⟩, rfl⟩
         · rintro k e hk ⟨A, B, ⟨g1, g2, g3, g4⟩, rfl⟩
           have hn0' : ¬ n = 0 := by omega
           obtain ⟨u, hu, hu2⟩ := j7x (a := k + 1) hn0
           obtain ⟨v, hv, hv2⟩ := j7x (a := k + d) hn0
           rw [show ((k + 1 : Nat) : Int) = (k : Int) + 1 from by omega] at hu
           rw [show ((k + d : Nat) : Int) = (k : Int) + d from by omega] at hv
           simp [hk, hu, hv, hn0', roomy]
           exact ⟨by omega, by omega, by omega, by omega, by omega, A ++ [(u : Int)], B ++ [(v : Int)], ⟨by simp [g1], by simp [g2], j2x g3 (by omega), j2x g4 (by omega)⟩, by simp only [ownL, List.map_append, List.map_cons, List.map_nil]⟩
         · rintro e ⟨A, B, ⟨g1, g2, g3, g4⟩, rfl⟩
           obtain ⟨X, ⟨hX, _⟩, hc6⟩ := h425 n A B hn0 (by omega) ⟨g1, g3⟩ ⟨g2, g4⟩
           obtain ⟨s5, p, ⟨j3, j4⟩, hc7, hc8⟩ := ren s4 X j1 hX
           simp
           refine j0f hc6 rfl rfl (fun _ => by simp) ?_
           simp
           refine j1b (ts' := [rawB c, I s5.1, H64 s5.2]) (r := ownL p) (by simpa using hc7) ?_
           simp
           refine j0f hc8 rfl rfl (fun _ => by simp) ?_
           simp
           exact hfin s5 (imT X.1 p, imT X.2 p) j3 j4
       · simp [hk1, e1, hc1, j00]
         refine j1b (ts' := [rawB c, I s4.1, H64 s4.2]) (r := I d) (by simpa using hcd) ?_
         simp
         refine j0a (fun k e => ∃ A B : List Int, (A.length = k ∧ B.length = k ∧ (∀ v ∈ A, 0 ≤ v ∧ v < n) ∧ ∀ v ∈ B, 0 ≤ v ∧ v < n) ∧ e = fr [(0, some (.val (src c s4))), (2, some (.val (.mem .own none [nil, nil]))), (3, some (.val (I n))), (6, some (.val (ownL A))), (7, some (.val (ownL B))), (8, some (.val (I d))), (9, some (.val (I k)))]) n ?_ ?_ 0 _ (by omega) ⟨[], [], ⟨rfl, rfl, by simp, by simp⟩, rfl⟩
         · rintro k e hk ⟨A, B, ⟨g1, g2, g3, g4⟩, rfl⟩
           have hn0' : ¬ n = 0 := by omega
           obtain ⟨u, hu, hu2⟩ := j7x (a := k + 1) hn0
           obtain ⟨v, hv, hv2⟩ := j7x (a := k + d) hn0
           rw [show ((k + 1 : Nat) : Int) = (k : Int) + 1 from by omega] at hu
           rw [show ((k + d : Nat) : Int) = (k : Int) + d from by omega] at hv
           simp [hk, hu, hv, hn0', roomy]
           exact ⟨by omega, by omega, by omega, by omega, by omega, A ++ [(u : Int)], B ++ [(v : Int)], ⟨by simp [g1], by simp [g2], j2x g3 (by omega), j2x g4 (by omega)⟩, by simp only [ownL, List.map_append, List.map_cons, List.map_nil]⟩
         · rintro e ⟨A, B, ⟨g1, g2, g3, g4⟩, rfl⟩
           obtain ⟨X, ⟨hX, _⟩, hc6⟩ := h425 n A B hn0 (by omega) ⟨g1, g3⟩ ⟨g2, g4⟩
           obtain ⟨s5, p, ⟨j3, j4⟩, hc7, hc8⟩ := ren s4 X j1 hX
           simp
           refine j0f hc6 rfl rfl (fun _ => by simp) ?_
           simp
           refine j1b (ts' := [rawB c, I s5.1, H64 s5.2]) (r := ownL p) (by simpa using hc7) ?_
           simp
           refine j0f hc8 rfl rfl (fun _ => by simp) ?_
           simp
           exact hfin s5 (imT X.1 p, imT X.2 p) j3 j4
   · by_cases hk2 : kd = 2
     · simp [hk2]
       refine j0a (fun k e => ∃ s' : Int × Int, Sr c s' ∧ e = fr [(0, some (.val (src c s'))), (2, some (.val (.mem .own none [nil, nil]))), (3, some (.val (I n))), (4, some (.val (I k)))]) 20 ?_ ?_ 0 _ (by omega) ⟨s2, k3, rfl⟩
       · rintro k e hk ⟨s3, g1, rfl⟩
         have hk' : (k : Int) < 20 := by omega
         obtain ⟨s4, a1, ⟨j1, j2⟩, hd1⟩ := h336.at g1 (n := n) hn0
         obtain ⟨s5, a3, ⟨j5, j6⟩, hd3⟩ := h336.at j1 (n := n) hn0
         obtain ⟨a2, ha2, ha2'⟩ := j7x (a := 1) hn0
         obtain ⟨t, ht, hd4⟩ := h424 n a1 a2 a3 hn0 (by omega) (by omega) (by omega) (by omega)
         obtain ⟨b, hb, hd5⟩ := h363 n t hn0 (by omega) ht
         have hn0' : ¬ n = 0 := by omega
         have ha3 : (1 : Int).tmod n = a2 := ha2
         simp [hk']
         refine j1b (ts' := [rawB c, I s4.1, H64 s4.2]) (r := I a1) (by simpa using hd1) ?_
         simp [hn0', ha3]
         refine j1b (ts' := [rawB c, I s5.1, H64 s5.2]) (r := I a3) (by simpa using hd3) ?_
         simp
         refine j0f hd4 rfl rfl (fun _ => by simp) ?_
         simp
         refine j0f hd5 rfl rfl (fun _ => rfl) ?_
         cases b with
         | true =>
          obtain ⟨X, hX, hd6⟩ := h366 n t hn0 hnm ⟨ht, hb rfl⟩
          obtain ⟨s6, p, ⟨j7, j8⟩, hd7, hd8⟩ := ren s5 X j5 hX
          simp
          refine j0f hd6 rfl rfl (fun _ => by simp) ?_
          simp
          refine j1b (ts' := [rawB c, I s6.1, H64 s6.2]) (r := ownL p) (by simpa using hd7) ?_
          simp
          refine j0f hd8 rfl rfl (fun _ => by simp) ?_
          simp
          exact hfin s6 (imT X.1 p, imT X.2 p) j7 j8
         | false =>
          simp
          exact ⟨by omega, s5.1, s5.2, j5, rfl⟩
       · rintro e ⟨s3, g1, rfl⟩
         obtain ⟨s4, d, ⟨j1, j2⟩, hcd⟩ := h336.at g1 (n := n) hn0
         simp
         refine j1b (ts' := [rawB c, I s4.1, H64 s4.2]) (r := I d) (by simpa using hcd) ?_
         simp
         refine j0a (fun k e => ∃ A B : List Int, (A.length = k ∧ B.length = k ∧ (∀ v ∈ A, 0 ≤ v ∧ v < n) ∧ ∀ v ∈ B, 0 ≤ v ∧ v < n) ∧ e = fr [(0, some (.val (src c s4))), (2, some (.val (.mem .own none [nil, nil]))), (3, some (.val (I n))), (6, some (.val (ownL A))), (7, some (.val (ownL B))), (8, some (.val (I d))), (9, some (.val (I k)))]) n ?_ ?_ 0 _ (by omega) ⟨[], [], ⟨rfl, rfl, by simp, by simp⟩, rfl⟩
         · rintro k e hk ⟨A, B, ⟨g1, g2, g3, g4⟩, rfl⟩
           have hn0' : ¬ n = 0 := by omega
           obtain ⟨u, hu, hu2⟩ := j7x (a := k + 1) hn0
           obtain ⟨v, hv, hv2⟩ := j7x (a := k + d) hn0
           rw [show ((k + 1 : Nat) : Int) = (k : Int) + 1 from by omega] at hu
           rw [show ((k + d : Nat) : Int) = (k : Int) + d from by omega] at hv
           simp [hk, hu, hv, hn0', roomy]
           exact ⟨by omega, by omega, by omega, by omega, by omega, A ++ [(u : Int)], B ++ [(v : Int)], ⟨by simp [g1], by simp [g2], j2x g3 (by omega), j2x g4 (by omega)⟩, by simp only [ownL, List.map_append, List.map_cons, List.map_nil]⟩
         · rintro e ⟨A, B, ⟨g1, g2, g3, g4⟩, rfl⟩
           obtain ⟨X, ⟨hX, _⟩, hc6⟩ := h425 n A B hn0 (by omega) ⟨g1, g3⟩ ⟨g2, g4⟩
           obtain ⟨s5, p, ⟨j3, j4⟩, hc7, hc8⟩ := ren s4 X j1 hX
           simp
           refine j0f hc6 rfl rfl (fun _ => by simp) ?_
           simp
           refine j1b (ts' := [rawB c, I s5.1, H64 s5.2]) (r := ownL p) (by simpa using hc7) ?_
           simp
           refine j0f hc8 rfl rfl (fun _ => by simp) ?_
           simp
           exact hfin s5 (imT X.1 p, imT X.2 p) j3 j4
     · obtain ⟨s4, d, ⟨j1, j2⟩, hcd⟩ := h336.at k3 (n := n) hn0
       have hk1' : ¬ (kd : Int) = 1 := by omega
       have hk2' : ¬ (kd : Int) = 2 := by omega
       simp [hk0, hk1', hk2']
       refine j1b (ts' := [rawB c, I s4.1, H64 s4.2]) (r := I d) (by simpa using hcd) ?_
       simp
       refine j0a (fun k e => ∃ A B : List Int, (A.length = k ∧ B.length = k ∧ (∀ v ∈ A, 0 ≤ v ∧ v < n) ∧ ∀ v ∈ B, 0 ≤ v ∧ v < n) ∧ e = fr [(0, some (.val (src c s4))), (2, some (.val (.mem .own none [nil, nil]))), (3, some (.val (I n))), (6, some (.val (ownL A))), (7, some (.val (ownL B))), (8, some (.val (I d))), (9, some (.val (I k)))]) n ?_ ?_ 0 _ (by omega) ⟨[], [], ⟨rfl, rfl, by simp, by simp⟩, rfl⟩
       · rintro k e hk ⟨A, B, ⟨g1, g2, g3, g4⟩, rfl⟩
         have hn0' : ¬ n = 0 := by omega
         obtain ⟨u, hu, hu2⟩ := j7x (a := k + 1) hn0
         obtain ⟨v, hv, hv2⟩ := j7x (a := k + d) hn0
         rw [show ((k + 1 : Nat) : Int) = (k : Int) + 1 from by omega] at hu
         rw [show ((k + d : Nat) : Int) = (k : Int) + d from by omega] at hv
         simp [hk, hu, hv, hn0', roomy]
         exact ⟨by omega, by omega, by omega, by omega, by omega, A ++ [(u : Int)], B ++ [(v : Int)], ⟨by simp [g1], by simp [g2], j2x g3 (by omega), j2x g4 (by omega)⟩, by simp only [ownL, List.map_append, List.map_cons, List.map_nil]⟩
       · rintro e ⟨A, B, ⟨g1, g2, g3, g4⟩, rfl⟩
         obtain ⟨X, ⟨hX, _⟩, hc6⟩ := h425 n A B hn0 (by omega) ⟨g1, g3⟩ ⟨g2, g4⟩
         obtain ⟨s5, p, ⟨j3, j4⟩, hc7, hc8⟩ := ren s4 X j1 hX
         simp
         refine j0f hc6 rfl rfl (fun _ => by simp) ?_
         simp
         refine j1b (ts' := [rawB c, I s5.1, H64 s5.2]) (r := ownL p) (by simpa using hc7) ?_
         simp
         refine j0f hc8 rfl rfl (fun _ => by simp) ?_
         simp
         exact hfin s5 (imT X.1 p, imT X.2 p) j3 j4
end Go.Mch
namespace Go.Mch

def Blk (ms : List (List Int)) (n : Nat) (x y : Int) (c : Int → Int) : Prop := c x = c y ∧ ∀ a b : Int, (0 ≤ a ∧ a < n) → (0 ≤ b ∧ b < n) → c a = c b → ∀ p ∈ ms, c (act p a) = c (act p b)
def BE (ms : List (List Int)) (n : Nat) (x y a b : Int) : Prop := ∀ c, Blk ms n x y c → c a = c b
theorem BE.symm {ms : List (List Int)} {n : Nat} {x y a b : Int} (h : BE ms n x y a b) : BE ms n x y b a := fun c hc => (h c hc).symm
theorem BE.trans {ms : List (List Int)} {n : Nat} {x y a b d : Int} (h : BE ms n x y a b) (h2 : BE ms n x y b d) : BE ms n x y a d := fun c hc => (h c hc).trans (h2 c hc)
theorem BE.step {ms : List (List Int)} {n : Nat} {x y a b : Int} (h : BE ms n x y a b) (ha : 0 ≤ a ∧ a < n) (hb : 0 ≤ b ∧ b < n) {p : List Int} (hp : p ∈ ms) : BE ms n x y (act p a) (act p b) := fun c hc => hc.2 a b ha hb (h c hc) p hp

def mg (L : List Int) (u v : Int) : List Int := L.map fun l => if l = u then v else l
@[simp] theorem mg_length (L : List Int) (u v : Int) : (mg L u v).length = L.length := by simp [mg]
theorem q59 {L : List Int} {u v a : Int} (h : a.toNat < L.length) : act (mg L u v) a = if act L a = u then v else act L a := by
 simp [act, mg, h]
theorem q49 {L : List Int} {a : Int} (h : a.toNat < L.length) : act L a ∈ L := by
 simp [act, h]
def dis (n : Nat) (L : List Int) : List Int := (nums n).filter fun v => decide (v ∈ L)
theorem dis_lt {n : Nat} {L : List Int} {u v : Int} (hu : u ∈ L) (hv : v ∈ L) (hne : u ≠ v) (hr : 0 ≤ u ∧ u < n) : (dis n (mg L u v)).length < (dis n L).length := by
 have hnot : u ∉ dis n (mg L u v) := by
  intro hm
  have := (List.mem_filter.1 hm).2
  simp only [mg, List.mem_map, decide_eq_true_eq] at this
  obtain ⟨l, _, h2⟩ := this
  split at h2
  · exact hne h2.symm
  · rename_i h3; exact h3 h2
 have hnd : (dis n (mg L u v)).Nodup := (q12 n).sublist List.filter_sublist
 have := j3c (u :: dis n (mg L u v)) (dis n L) (List.nodup_cons.2 ⟨hnot, hnd⟩) fun w hw => by
  rcases List.mem_cons.1 hw with rfl | hw
  · exact List.mem_filter.2 ⟨q7b.2 hr, by simpa using hu⟩
  · obtain ⟨h1, h2⟩ := List.mem_filter.1 hw
    refine List.mem_filter.2 ⟨h1, ?_⟩
    simp only [mg, List.mem_map, decide_eq_true_eq] at h2 ⊢
    obtain ⟨l, h3, h4⟩ := h2
    split at h4
    · rw [← h4]; exact hv
    · rw [← h4]; exact h3
 simp only [List.length_cons] at this
 omega
theorem dis_le (n : Nat) (L : List Int) : (dis n L).length ≤ n := by
 refine Nat.le_trans (List.length_filter_le _ _) ?_
 simp [nums]
theorem mg_ker {L : List Int} {u v c d : Int} (hc : c.toNat < L.length) (hd : d.toNat < L.length) (h : act (mg L u v) c = act (mg L u v) d) :
 act L c = act L d ∨ (act L c = u ∧ act L d = v) ∨ (act L c = v ∧ act L d = u) := by
 rw [q59 hc, q59 hd] at h
 split at h <;> split at h
 · rename_i h1 h2; exact .inl (h1.trans h2.symm)
 · rename_i h1 h2; exact .inr (.inl ⟨h1, h.symm⟩)
 · rename_i h1 h2; exact .inr (.inr ⟨h, h2⟩)
 · exact .inl h
theorem mg_eq {L : List Int} {u v c d : Int} (hc : c.toNat < L.length) (hd : d.toNat < L.length) (h : act L c = act L d) : act (mg L u v) c = act (mg L u v) d := by
 rw [q59 hc, q59 hd, h]
theorem mg_both {L : List Int} {u v c d : Int} (hc : c.toNat < L.length) (hd : d.toNat < L.length) (h1 : act L c = u) (h2 : act L d = v) : act (mg L u v) c = act (mg L u v) d := by
 rw [q59 hc, q59 hd, if_pos h1]
 split
 · rfl
 · exact h2.symm

structure Bk (ms : List (List Int)) (n : Nat) (x y : Int) (L : List Int) : Prop where
 len : L.length = n
 rng : ∀ v ∈ L, 0 ≤ v ∧ v < n
 snd : ∀ a b : Int, (0 ≤ a ∧ a < n) → (0 ≤ b ∧ b < n) → act L a = act L b → BE ms n x y a b
theorem Bk.merge {ms : List (List Int)} {n : Nat} {x y : Int} {L : List Int} (h : Bk ms n x y L) {a b : Int} (ha : 0 ≤ a ∧ a < n) (hb : 0 ≤ b ∧ b < n) (hbe : BE ms n x y a b) {u v : Int} (hu : act L a = u) (hv : act L b = v) : Bk ms n x y (mg L u v) := by
 have hl := h.len
 refine ⟨by simp [hl], fun w hw => ?_, fun c d hc hd he => ?_⟩
 · simp only [mg, List.mem_map] at hw
   obtain ⟨l, h1, h2⟩ := hw
   split at h2
   · rw [← h2, ← hv]; exact h.rng _ (q49 (by omega))
   · rw [← h2]; exact h.rng _ h1
 · rcases mg_ker (by omega) (by omega) he with h1 | ⟨h1, h2⟩ | ⟨h1, h2⟩
   · exact h.snd c d hc hd h1
   · exact ((h.snd c a hc ha (h1.trans hu.symm)).trans hbe).trans (h.snd b d hb hd (hv.trans h2.symm))
   · exact ((h.snd c b hc hb (h1.trans hv.symm)).trans hbe.symm).trans (h.snd a d ha hd (hu.trans h2.symm))
theorem Bk.ker {ms : List (List Int)} {n : Nat} {x y : Int} {L : List Int} (h : Bk ms n x y L) (hb : Blk ms n x y (act L)) {a b : Int} (ha : 0 ≤ a ∧ a < n) (hb' : 0 ≤ b ∧ b < n) : act L a = act L b ↔ BE ms n x y a b :=
 ⟨h.snd a b ha hb', fun he => he _ hb⟩

theorem ixOf_map {φ : Int → Int} : ∀ (s : List Int) (v : Int), (∀ a ∈ s, φ a = φ v → a = v) → ixOf (s.map φ) (φ v) = ixOf s v
 | [], _, _ => rfl
 | x :: s, v, h => by
  have ih := ixOf_map s v fun a ha => h a (by simp [ha])
  simp only [List.map_cons, ixOf]
  by_cases hx : x = v
  · simp [hx]
  · have : φ x ≠ φ v := fun he => hx (h x (by simp) he)
    simp [hx, this, ih]
theorem uniqs_map {φ : Int → Int} (l : List Int) : ∀ s : List Int, (∀ a ∈ s ++ l, ∀ b ∈ s ++ l, φ a = φ b → a = b) →
 (l.map φ).foldl (fun s x => if x ∈ s then s else s ++ [x]) (s.map φ) = (l.foldl (fun s x => if x ∈ s then s else s ++ [x]) s).map φ := by
 induction l with
 | nil => intro s _; rfl
 | cons x l ih =>
  intro s h
  simp only [List.map_cons, List.foldl_cons]
  have hmem : φ x ∈ s.map φ ↔ x ∈ s := by
   constructor
   · intro hm
     obtain ⟨z, hz, he⟩ := List.mem_map.1 hm
     have := h z (by simp [hz]) x (by simp) he
     exact this ▸ hz
   · exact fun hm => List.mem_map.2 ⟨x, hm, rfl⟩
  by_cases hx : x ∈ s
  · rw [if_pos hx, if_pos (hmem.2 hx)]
    refine ih s fun a ha b hb => h a ?_ b ?_
    · simp at ha ⊢; rcases ha with h | h <;> simp [h]
    · simp at hb ⊢; rcases hb with h | h <;> simp [h]
  · rw [if_neg hx, if_neg fun hh => hx (hmem.1 hh)]
    have := ih (s ++ [x]) fun a ha b hb => h a (by simpa using ha) b (by simpa using hb)
    simpa using this
theorem renum_map {φ : Int → Int} {L : List Int} (h : ∀ a ∈ L, ∀ b ∈ L, φ a = φ b → a = b) : j6v (L.map φ) = j6v L := by
 unfold j6v
 rw [List.length_map]
 refine List.map_congr_left fun k hk => ?_
 have hk := List.mem_range.1 hk
 have hu : j3q ((L.map φ).take (k + 1)) = (j3q (L.take (k + 1))).map φ := by
  rw [← List.map_take]
  exact uniqs_map (L.take (k + 1)) [] fun a ha b hb => h a (List.mem_of_mem_take (by simpa using ha)) b (List.mem_of_mem_take (by simpa using hb))
 have hsub : ∀ a ∈ j3q (L.take (k + 1)), a ∈ L := by
  have key : ∀ (l s : List Int), ∀ a ∈ l.foldl (fun s x => if x ∈ s then s else s ++ [x]) s, a ∈ s ∨ a ∈ l := by
   intro l
   induction l with
   | nil => intro s a ha; exact .inl ha
   | cons x l ih =>
    intro s a ha
    simp only [List.foldl_cons] at ha
    rcases ih _ a ha with h1 | h1
    · split at h1
      · exact .inl h1
      · rcases List.mem_append.1 h1 with h2 | h2
        · exact .inl h2
        · exact .inr (by simp at h2; simp [h2])
    · exact .inr (by simp [h1])
  intro a ha
  rcases key _ _ a ha with h1 | h1
  · cases h1
  · exact List.mem_of_mem_take h1
 have hg : (L.map φ).getD k 0 = φ (L.getD k 0) := by simp [hk]
 have hm : L.getD k 0 ∈ L := by simp [hk]
 rw [hu, hg]
 exact ixOf_map _ _ fun a ha he => h a (hsub a ha) _ hm he
theorem renum_ker {L L' : List Int} (hl : L'.length = L.length) (h : ∀ i j, i < L.length → j < L.length → (L.getD i 0 = L.getD j 0 ↔ L'.getD i 0 = L'.getD j 0)) : j6v L' = j6v L := by
 have hix : ∀ i, i < L.length → ∃ j, j < L.length ∧ (ixOf L (L.getD i 0)).toNat = j ∧ L.getD j 0 = L.getD i 0 := fun i hi => by
  have hm : L.getD i 0 ∈ L := by simp [hi]
  obtain ⟨j, hj, hje⟩ := List.getElem_of_mem hm
  have h1 := j79 L (L.getD i 0)
  have h2 := (j5p L (L.getD i 0)).2 hm
  refine ⟨_, by omega, rfl, ?_⟩
  have key : ∀ (xs : List Int) (v : Int), 0 ≤ ixOf xs v → xs.getD (ixOf xs v).toNat 0 = v := by
   intro xs v
   induction xs with
   | nil => intro h; simp [ixOf] at h
   | cons z xs ih =>
    intro h
    unfold ixOf at h ⊢
    by_cases hz : z = v
    · simp [hz]
    · rw [if_neg hz] at h ⊢
      by_cases hn : ixOf xs v < 0
      · rw [if_pos hn] at h; omega
      · rw [if_neg hn]
        have := ih (by omega)
        rw [show (ixOf xs v + 1).toNat = (ixOf xs v).toNat + 1 by omega]
        simpa using this
  exact key L _ h2
 have hmap : L' = L.map fun v => L'.getD (ixOf L v).toNat 0 := by
  apply List.ext_getElem
  · simp [hl]
  · intro i h1 h2
    simp only [List.length_map] at h2
    obtain ⟨j, hj, hji, he⟩ := hix i h2
    have hgi : L.getD i 0 = L[i] := by simp [h2]
    rw [List.getElem_map, ← hgi, hji]
    have := (h j i hj h2).1 he
    rw [this]
    simp [h1]
 rw [hmap]
 refine renum_map fun a ha b hb he => ?_
 obtain ⟨i, hi, rfl⟩ := List.getElem_of_mem ha
 obtain ⟨j, hj, rfl⟩ := List.getElem_of_mem hb
 obtain ⟨i', hi', hie, hi2⟩ := hix i hi
 obtain ⟨j', hj', hje, hj2⟩ := hix j hj
 have hgi : L.getD i 0 = L[i] := by simp [hi]
 have hgj : L.getD j 0 = L[j] := by simp [hj]
 rw [hgi] at hie hi2
 rw [hgj] at hje hj2
 simp only [hie, hje] at he
 have := (h i' j' hi' hj').2 he
 rw [← hi2, ← hj2, this]
open Classical in
noncomputable def blL (ms : List (List Int)) (n : Nat) (x y : Int) : List Int := if h : ∃ L, Bk ms n x y L ∧ Blk ms n x y (act L) then j6v h.choose else []
theorem blL_eq {ms : List (List Int)} {n : Nat} {x y : Int} {L : List Int} (h : Bk ms n x y L) (hb : Blk ms n x y (act L)) : j6v L = blL ms n x y := by
 have hex : ∃ L, Bk ms n x y L ∧ Blk ms n x y (act L) := ⟨L, h, hb⟩
 rw [blL, dif_pos hex]
 obtain ⟨h2, hb2⟩ := hex.choose_spec
 refine renum_ker (by rw [h.len, h2.len]) fun i j hi hj => ?_
 have l2 := h2.len
 have k1 := h2.ker hb2 (a := i) (b := j) (by omega) (by omega)
 have k2 := h.ker hb (a := i) (b := j) (by omega) (by omega)
 simp only [act, Int.toNat_natCast] at k1 k2
 exact k1.trans k2.symm
theorem Bk.start (ms : List (List Int)) (n : Nat) (x y : Int) : Bk ms n x y (idL n) := by
 have ha : ∀ a : Int, (0 ≤ a ∧ a < n) → act (idL n) a = a := fun a h => by
  have : a.toNat < n := by omega
  simp [act, idL, this]
  omega
 refine ⟨by simp, fun v hv => ?_, fun a b h1 h2 he => ?_⟩
 · simp only [idL, List.mem_map, List.mem_range] at hv
   obtain ⟨i, hi, rfl⟩ := hv
   omega
 · rw [ha a h1, ha b h2] at he
   exact he ▸ fun _ _ => rfl
end Go.Mch
namespace Go.Mch

def prL (P : List (Int × Int)) : List T := P.flatMap fun q => [I q.1, I q.2]
theorem q53 (P : List (Int × Int)) : (prL P).length = 2 * P.length := by
 induction P with
 | nil => rfl
 | cons q P ih => simp only [prL, List.flatMap_cons, List.length_append, List.length_cons, List.length_nil] at ih ⊢; omega
theorem prL_get (P : List (Int × Int)) {i : Nat} (h : i < P.length) : (prL P)[i * 2]? = some (I P[i].1) ∧ (prL P)[i * 2 + 1]? = some (I P[i].2) := by
 induction P generalizing i with
 | nil => simp at h
 | cons q P ih =>
  cases i with
  | zero => simp [prL]
  | succ i =>
   have := ih (i := i) (by simpa using h)
   rw [show (i + 1) * 2 = i * 2 + 2 from by omega]
   simpa [prL] using this
theorem prL_snoc (P : List (Int × Int)) (a b : Int) : prL (P ++ [(a, b)]) = prL P ++ [I a, I b] := by simp [prL]
structure BInv (ms : List (List Int)) (n : Nat) (x y : Int) (L : List Int) (P : List (Int × Int)) (i : Nat) : Prop where
 bk : Bk ms n x y L
 pr : ∀ q ∈ P, (0 ≤ q.1 ∧ q.1 < n) ∧ (0 ≤ q.2 ∧ q.2 < n) ∧ BE ms n x y q.1 q.2
 xy : (x, y) ∈ P
 dn : ∀ j (hj : j < P.length), j < i → act L P[j].1 = act L P[j].2
 cl : ∀ a b : Int, (0 ≤ a ∧ a < n) → (0 ≤ b ∧ b < n) → act L a = act L b → ∀ p ∈ ms, ∀ c : Int → Int, (∀ q ∈ P, c q.1 = c q.2) → c (act p a) = c (act p b)
 le : i ≤ P.length
 sz : P.length + (dis n L).length * ms.length ≤ 1 + n * ms.length
theorem BInv.start (ms : List (List Int)) (n : Nat) {x y : Int} (hx : 0 ≤ x ∧ x < n) (hy : 0 ≤ y ∧ y < n) : BInv ms n x y (idL n) [(x, y)] 0 where
 bk := Bk.start ms n x y
 pr := by
  intro q hq
  simp at hq
  subst hq
  exact ⟨hx, hy, fun c hc => hc.1⟩
 xy := by simp
 dn := by intro j _ hj; omega
 cl := by
  intro a b ha hb he p _ c _
  have hid : ∀ a : Int, (0 ≤ a ∧ a < n) → act (idL n) a = a := fun a h => by
   have : a.toNat < n := by omega
   simp [act, idL, this]
   omega
  rw [hid a ha, hid b hb] at he
  rw [he]
 le := by simp
 sz := by
  have := Nat.mul_le_mul_right ms.length (dis_le n (idL n))
  simp
  omega
theorem BInv.skip {ms : List (List Int)} {n : Nat} {x y : Int} {L : List Int} {P : List (Int × Int)} {i : Nat} (h : BInv ms n x y L P i) (hi : i < P.length) (he : act L P[i].1 = act L P[i].2) : BInv ms n x y L P (i + 1) :=
 ⟨h.bk, h.pr, h.xy, fun j hj hl => by
  by_cases hji : j = i
  · subst hji; exact he
  · exact h.dn j hj (by omega), h.cl, hi, h.sz⟩
theorem BInv.fin {ms : List (List Int)} {n : Nat} {x y : Int} {L : List Int} {P : List (Int × Int)} {i : Nat} (h : BInv ms n x y L P i) (hi : ¬ i < P.length) : Blk ms n x y (act L) := by
 have hall : ∀ q ∈ P, act L q.1 = act L q.2 := fun q hq => by
  obtain ⟨j, hj, rfl⟩ := List.getElem_of_mem hq
  exact h.dn j hj (by omega)
 exact ⟨hall _ h.xy, fun a b ha hb he p hp => h.cl a b ha hb he p hp _ hall⟩
theorem BInv.merge {ms : List (List Int)} {n : Nat} {x y : Int} {L : List Int} {P : List (Int × Int)} {i : Nat} (hm : Prms n ms) (h : BInv ms n x y L P i) (hi : i < P.length) {u v : Int} (hne : u ≠ v)
 (huv : (act L P[i].1 = u ∧ act L P[i].2 = v) ∨ (act L P[i].2 = u ∧ act L P[i].1 = v)) :
 BInv ms n x y (mg L u v) (P ++ ms.map fun p => (act p P[i].1, act p P[i].2)) (i + 1) ∧ (dis n (mg L u v)).length * ms.length + ms.length ≤ (dis n L).length * ms.length := by
 obtain ⟨ra, rb, hbe⟩ := h.pr _ (List.getElem_mem hi)
 generalize hA : P[i].1 = a at *
 generalize hB : P[i].2 = b at *
 have hl := h.bk.len
 have hdis : (dis n (mg L u v)).length < (dis n L).length := by
  have m1 : act L a ∈ L := q49 (by omega)
  have m2 : act L b ∈ L := q49 (by omega)
  rcases huv with ⟨h1, h2⟩ | ⟨h1, h2⟩
  · rw [h1] at m1; rw [h2] at m2
    exact dis_lt m1 m2 hne (h.bk.rng _ m1)
  · rw [h1] at m2; rw [h2] at m1
    exact dis_lt m2 m1 hne (h.bk.rng _ m2)
 have hmul : (dis n (mg L u v)).length * ms.length + ms.length ≤ (dis n L).length * ms.length := by
  rw [← Nat.succ_mul]
  exact Nat.mul_le_mul_right _ hdis
 have hab : act (mg L u v) a = act (mg L u v) b := by
  rcases huv with ⟨h1, h2⟩ | ⟨h1, h2⟩
  · exact mg_both (by omega) (by omega) h1 h2
  · exact (mg_both (by omega) (by omega) h1 h2).symm
 refine ⟨⟨?_, ?_, ?_, ?_, ?_, ?_, ?_⟩, hmul⟩
 · rcases huv with ⟨h1, h2⟩ | ⟨h1, h2⟩
   · exact h.bk.merge ra rb hbe h1 h2
   · exact h.bk.merge rb ra hbe.symm h1 h2
 · intro q hq
   rcases List.mem_append.1 hq with hq | hq
   · exact h.pr q hq
   · obtain ⟨p, hp, rfl⟩ := List.mem_map.1 hq
     exact ⟨j4f hm hp ra, j4f hm hp rb, hbe.step ra rb hp⟩
 · exact List.mem_append.2 (.inl h.xy)
 · intro j hj hl2
   rw [List.getElem_append_left (by omega)]
   by_cases hji : j = i
   · subst hji; rw [hA, hB]; exact hab
   · obtain ⟨r1, r2, _⟩ := h.pr _ (List.getElem_mem (show j < P.length by omega))
     exact mg_eq (by omega) (by omega) (h.dn j (by omega) (by omega))
 · intro c d hc hd he p hp k hk
   have hkP : ∀ q ∈ P, k q.1 = k q.2 := fun q hq => hk q (List.mem_append.2 (.inl hq))
   have hkn : k (act p a) = k (act p b) := hk (act p a, act p b) (List.mem_append.2 (.inr (List.mem_map.2 ⟨p, hp, rfl⟩)))
   have main : ∀ c d : Int, (0 ≤ c ∧ c < n) → (0 ≤ d ∧ d < n) → act L c = act L a → act L d = act L b → k (act p c) = k (act p d) := fun c d hc hd h1 h2 =>
    ((h.cl c a hc ra h1 p hp k hkP).trans hkn).trans (h.cl b d rb hd h2.symm p hp k hkP)
   rcases mg_ker (by omega) (by omega) he with h1 | ⟨h1, h2⟩ | ⟨h1, h2⟩
   · exact h.cl c d hc hd h1 p hp k hkP
   · rcases huv with ⟨h3, h4⟩ | ⟨h3, h4⟩
     · exact main c d hc hd (h1.trans h3.symm) (h2.trans h4.symm)
     · exact (main d c hd hc (h2.trans h4.symm) (h1.trans h3.symm)).symm
   · rcases huv with ⟨h3, h4⟩ | ⟨h3, h4⟩
     · exact (main d c hd hc (h2.trans h3.symm) (h1.trans h4.symm)).symm
     · exact main c d hc hd (h1.trans h4.symm) (h2.trans h3.symm)
 · simp; omega
 · have := h.sz
   simp
   omega
def j67 (pg : Pg) (n : Nat) : Prop := ∀ (f s : List (List Int)) (x y : Int), PM f s → j5w f s → (0 ≤ x ∧ x < f.length) → (0 ≤ y ∧ y < f.length) → Call pg n [sol f s, I x, I y] [sol f s, I x, I y] (.mem .own (some 1) ((blL (f ++ j0z s) f.length x y).map I))
set_option maxRecDepth 10000 in
theorem q6v {pg : Pg} (hp : pg.fn 330 = some j3l) (h335 : q2m pg) (h271 : q7p pg) (h386 : q2h pg 386) : j67 pg 330 := by
 intro f s x y h hnd hx hy
 have h12 := h.small
 have h0 := h.pos
 have hpr := j73 h hnd
 have hcall := h271 f s h
 have hml : (f ++ j0z s).length ≤ 24 := by
  have := h.len
  simp
  omega
 refine Call.intro hp rfl (by simp) ?_
 show wp _ _ j3l.body (post [.t 6] _ _ _) _
 simp [j3l]
 refine j0f (h335 f.length (by omega)) rfl rfl (fun _ => by simp) ?_
 simp
 generalize f ++ j0z s = ms at *
 refine j3z (α := List Int × List (Int × Int) × Nat) (fun z => (dis f.length z.1).length * ms.length + (z.2.1.length - z.2.2)) (fun z e => BInv ms f.length x y z.1 z.2.1 z.2.2 ∧
  e = fr [(3, some (.val (.mem .own none [tb f, tb s]))), (7, some (.val (.mem .own (some 1) (z.1.map I)))), (8, some (.val (.mem .own (some 2) (prL z.2.1)))), (9, some (.val (I z.2.2)))]) ?_ (idL f.length, [(x, y)], 0) _ ⟨BInv.start ms f.length hx hy, by simp [prL]⟩
 rintro ⟨L, P, i⟩ e ⟨g, rfl⟩
 simp only at g
 have hPl := q53 P
 have hb : f.length * ms.length ≤ 12 * 24 := Nat.mul_le_mul h12 hml
 have hsz := g.sz
 have hle := g.le
 have hm2 : (prL P).length / 2 = P.length := by omega
 by_cases hi : i < P.length
 · obtain ⟨q1, q2⟩ := prL_get P hi
   obtain ⟨k1, k2, k3⟩ := g.pr _ (List.getElem_mem hi)
   have hskip := g.skip hi
   have hmerge := fun {u v : Int} hne huv => g.merge hpr hi (u := u) (v := v) hne huv
   generalize hqa : P[i].1 = a at *
   generalize hqb : P[i].2 = b at *
   have hLl := g.bk.len
   have hla : a.toNat < L.length := by omega
   have hlb : b.toNat < L.length := by omega
   have hla2 : a < L.length := by omega
   have hlb2 : b < L.length := by omega
   have hga : L[a.toNat] = act L a := by simp [act, hla]
   have hgb : L[b.toNat] = act L b := by simp [act, hlb]
   simp [hm2, hi, q1, q2, k1, k2, hla, hlb, hla2, hlb2, hga, hgb]
   refine ⟨by omega, by omega, ?_⟩
   by_cases he : act L a = act L b
   · have e1 : mmI true (act L a) (act L b) = mmI false (act L a) (act L b) := by simp [mmI, he]
     rw [if_pos e1]
     exact ⟨by omega, L, P, i + 1, by omega, hskip he, by simp⟩
   · have e1 : mmI true (act L a) (act L b) ≠ mmI false (act L a) (act L b) := by
      simp only [mmI]
      split <;> split <;> simp_all <;> omega
     rw [if_neg e1]
     have e2 : (act L a = mmI true (act L a) (act L b) ∧ act L b = mmI false (act L a) (act L b)) ∨ (act L b = mmI true (act L a) (act L b) ∧ act L a = mmI false (act L a) (act L b)) := by
      by_cases hlt : act L a < act L b
      · have : ¬ act L b < act L a := by omega
        right; simp [mmI, hlt, this]
      · have : act L b < act L a := by omega
        left; simp [mmI, hlt, this]
     generalize mmI true (act L a) (act L b) = u at *
     generalize mmI false (act L a) (act L b) = v at *
     obtain ⟨n1, n2⟩ := hmerge e1 e2
     refine j0a (fun c e => e = fr [(3, some (.val (.mem .own none [tb f, tb s]))), (7, some (.val (.mem .own (some 1) ((mixL (mg L u v) L c).map I)))), (8, some (.val (.mem .own (some 2) (prL P)))), (9, some (.val (I i))), (10, some (.val (I a))), (11, some (.val (I b))), (12, some (.val (I u))), (13, some (.val (I v))), (63, some (.sref 7 [] 1 0 L.length)), (64, some (.val (I L.length))), (65, some (.val (I c)))]) L.length ?_ ?_ 0 _ (by omega) ?_
     · rintro c e hc rfl
       have g1 := q4g (mg L u v) L c (by simp)
       have g2 := mixL_get (mg L u v) L hc (by simp)
       have g3 := mixL_set (mg L u v) L hc (by simp)
       have g4 : (mg L u v)[c]'(by simpa using hc) = if L[c] = u then v else L[c] := by simp [mg]
       by_cases hcu : L[c] = u
       · rw [if_pos hcu] at g4
         rw [← g3, g4]
         clear g3
         generalize mixL (mg L u v) L c = Y at *
         have hjY : c < Y.length := by omega
         have g5 : Y[c] = L[c] := by rw [List.getElem?_eq_getElem hjY] at g2; exact Option.some.inj g2
         simp [g1, hc, g5, hcu]
         omega
       · rw [if_neg hcu] at g4
         have g6 : mixL (mg L u v) L (c + 1) = mixL (mg L u v) L c := by
          rw [← g3, g4]
          have hjY : c < (mixL (mg L u v) L c).length := by omega
          have g5 : (mixL (mg L u v) L c)[c] = L[c] := by rw [List.getElem?_eq_getElem hjY] at g2; exact Option.some.inj g2
          rw [← g5]
          simp
         rw [g6]
         clear g3 g6
         generalize mixL (mg L u v) L c = Y at *
         have hjY : c < Y.length := by omega
         have g5 : Y[c] = L[c] := by rw [List.getElem?_eq_getElem hjY] at g2; exact Option.some.inj g2
         simp [g1, hc, g5, hcu]
         omega
     · rintro e rfl
       have g1 := mixL_last (mg L u v) L (by simp)
       simp [g1]
       refine j0f hcall rfl rfl (fun hh => by simp at hh) ?_
       simp
       refine j0a (fun q e => e = fr [(3, some (.val (.mem .own none [tb f, tb s]))), (7, some (.val (.mem .own (some 1) ((mg L u v).map I)))), (8, some (.val (.mem .own (some 2) (prL (P ++ (ms.take q).map fun p => (act p a, act p b)))))), (9, some (.val (I i))), (10, some (.val (I a))), (11, some (.val (I b))), (79, some (.val (.mem .own (some 1) (tbL ms)))), (80, some (.val (I ms.length))), (81, some (.val (I q)))]) ms.length ?_ ?_ 0 _ (by omega) ?_
       · rintro q e hq rfl
         have hpm : ms[q] ∈ ms := List.getElem_mem hq
         have hpl := (hpr _ hpm).1
         have hPq := q53 (P ++ (ms.take q).map fun p => (act p a, act p b))
         have hPl2 : (P ++ (ms.take q).map fun p => (act p a, act p b)).length = P.length + q := by simp; omega
         rw [List.take_succ_eq_append_getElem hq, List.map_append, ← List.append_assoc, List.map_singleton, prL_snoc]
         generalize prL (P ++ (ms.take q).map fun p => (act p a, act p b)) = M at *
         have ha1 : a.toNat < (ms[q]).length := by omega
         have hb1 : b.toNat < (ms[q]).length := by omega
         have ha2 : a < (ms[q]).length := by omega
         have hb2 : b < (ms[q]).length := by omega
         have hga2 : (ms[q])[a.toNat] = act ms[q] a := by simp [act, ha1]
         have hgb2 : (ms[q])[b.toNat] = act ms[q] b := by simp [act, hb1]
         have hM2 : M.length / 2 * 2 = M.length := by omega
         have hw : win M 0 M.length = M := by unfold win; simp
         have hw2 : win (M ++ [I (act ms[q] a), I (act ms[q] b)]) 0 (M.length + 2) = M ++ [I (act ms[q] a), I (act ms[q] b)] := by
          unfold win; exact List.take_of_length_le (by simp)
         have hM3 : (M.length / 2 + 1) * 2 = M.length + 2 := by omega
         simp [hq, k1, k2, ha1, hb1, ha2, hb2, hga2, hgb2, hM2, hw, hM3, hw2, roomy]
         omega
       · rintro e rfl
         simp
         exact ⟨by omega, mg L u v, P ++ ms.map (fun p => (act p a, act p b)), i + 1, by simp; omega, n1, by simp⟩
       · simp
     · simp [mixL]
 · have hfin := blL_eq g.bk (g.fin hi)
   have hLl := g.bk.len
   simp [hm2, hi]
   refine j0f (h386 L (by omega)) rfl rfl (fun _ => by simp) ?_
   simp [hfin]
end Go.Mch
namespace Go.Mch

structure PS (ms : List (List Int)) (n : Nat) (x y : Int) (L0 : List Int) (Q : Prop) (L : List Int) (m : Bool) : Prop where
 bk : Bk ms n x y L
 xy : act L x = act L y
 lt : m = true → (dis n L).length < (dis n L0).length
 eq : m = false → L = L0 ∧ Q
theorem PS.weak {ms : List (List Int)} {n : Nat} {x y : Int} {L0 : List Int} {Q Q' : Prop} {L : List Int} {m : Bool} (h : PS ms n x y L0 Q L m) (hq : L = L0 → Q → Q') : PS ms n x y L0 Q' L m :=
 ⟨h.bk, h.xy, h.lt, fun hm => ⟨(h.eq hm).1, hq (h.eq hm).1 (h.eq hm).2⟩⟩
theorem PS.merge {ms : List (List Int)} {n : Nat} {x y : Int} {L0 : List Int} {Q Q' : Prop} {L : List Int} {m : Bool} (hpr : Prms n ms) (hx : 0 ≤ x ∧ x < n) (hy : 0 ≤ y ∧ y < n) (h : PS ms n x y L0 Q L m) {a b : Int} (ha : 0 ≤ a ∧ a < n) (hb : 0 ≤ b ∧ b < n) (he : act L a = act L b) {p : List Int} (hp : p ∈ ms) {u v : Int} (hu : act L (act p a) = u) (hv : act L (act p b) = v) (hne : u ≠ v) :
 PS ms n x y L0 Q' (mg L u v) true ∧ act (mg L u v) a = act (mg L u v) b ∧ u ∈ L := by
 have hl := h.bk.len
 have ra := j4f hpr hp ha
 have rb := j4f hpr hp hb
 have m1 : u ∈ L := hu ▸ q49 (by omega)
 have m2 : v ∈ L := hv ▸ q49 (by omega)
 have hd := dis_lt m1 m2 hne (h.bk.rng _ m1)
 refine ⟨⟨h.bk.merge ra rb ((h.bk.snd a b ha hb he).step ha hb hp) hu hv, mg_eq (by omega) (by omega) h.xy, fun _ => ?_, fun hh => by cases hh⟩, mg_eq (by omega) (by omega) he, m1⟩
 cases m with
 | true => exact Nat.lt_trans hd (h.lt rfl)
 | false => rw [(h.eq rfl).1] at hd ⊢; exact hd
def QA (ms : List (List Int)) (L : List Int) (a : Nat) : Prop := ∀ a', a' < a → ∀ b', b' < a' → act L (a' : Nat) = act L (b' : Nat) → ∀ p ∈ ms, act L (act p (a' : Nat)) = act L (act p (b' : Nat))
def QB (ms : List (List Int)) (L : List Int) (a b : Nat) : Prop := QA ms L a ∧ ∀ b', b' < b → act L (a : Nat) = act L (b' : Nat) → ∀ p ∈ ms, act L (act p (a : Nat)) = act L (act p (b' : Nat))
def QK (ms : List (List Int)) (L : List Int) (a b k : Nat) : Prop := QB ms L a b ∧ ∀ p ∈ ms.take k, act L (act p (a : Nat)) = act L (act p (b : Nat))
theorem QA.zero (ms : List (List Int)) (L : List Int) : QA ms L 0 := fun _ h => by omega
theorem QA.b {ms : List (List Int)} {L : List Int} {a : Nat} (h : QA ms L a) : QB ms L a 0 := ⟨h, fun _ h => by omega⟩
theorem QB.k {ms : List (List Int)} {L : List Int} {a b : Nat} (h : QB ms L a b) : QK ms L a b 0 := ⟨h, fun p hp => by simp at hp⟩
theorem QB.a {ms : List (List Int)} {L : List Int} {a : Nat} (h : QB ms L a a) : QA ms L (a + 1) := fun a' ha b' hb he p hp => by
 by_cases hh : a' = a
 · subst hh; exact h.2 b' hb he p hp
 · exact h.1 a' (by omega) b' hb he p hp
theorem QB.skip {ms : List (List Int)} {L : List Int} {a b : Nat} (h : QB ms L a b) (hne : act L (a : Nat) ≠ act L (b : Nat)) : QB ms L a (b + 1) := ⟨h.1, fun b' hb he p hp => by
 by_cases hh : b' = b
 · subst hh; exact absurd he hne
 · exact h.2 b' (by omega) he p hp⟩
theorem QK.b {ms : List (List Int)} {L : List Int} {a b : Nat} (h : QK ms L a b ms.length) : QB ms L a (b + 1) := ⟨h.1.1, fun b' hb he p hp => by
 by_cases hh : b' = b
 · subst hh; exact h.2 p (by simpa using hp)
 · exact h.1.2 b' (by omega) he p hp⟩
theorem QK.next {ms : List (List Int)} {L : List Int} {a b k : Nat} (h : QK ms L a b k) (hk : k < ms.length) (he : act L (act ms[k] (a : Nat)) = act L (act ms[k] (b : Nat))) : QK ms L a b (k + 1) := ⟨h.1, fun p hp => by
 rw [List.take_succ_eq_append_getElem hk] at hp
 rcases List.mem_append.1 hp with h1 | h1
 · exact h.2 p h1
 · simp at h1; subst h1; exact he⟩
theorem QA.blk {ms : List (List Int)} {n : Nat} {L : List Int} {x y : Int} (h : QA ms L n) (hxy : act L x = act L y) : Blk ms n x y (act L) := by
 refine ⟨hxy, fun a b ha hb he p hp => ?_⟩
 have e1 : ((a.toNat : Nat) : Int) = a := by omega
 have e2 : ((b.toNat : Nat) : Int) = b := by omega
 rcases Nat.lt_trichotomy a.toNat b.toNat with hl | hl | hl
 · have := h b.toNat (by omega) a.toNat hl (by rw [e1, e2]; exact he.symm) p hp
   rw [e1, e2] at this
   exact this.symm
 · have : a = b := by omega
   rw [this]
 · have := h a.toNat (by omega) b.toNat hl (by rw [e1, e2]; exact he) p hp
   rw [e1, e2] at this
   exact this
theorem q7f {n : Nat} {a : Int} (h : 0 ≤ a ∧ a < n) : act (idL n) a = a := by
 have : a.toNat < n := by omega
 simp [act, idL, this]
 omega
theorem idL_set {n : Nat} {x y : Int} (hy : 0 ≤ y ∧ y < n) : (idL n).set y.toNat x = mg (idL n) y x := by
 apply List.ext_getElem
 · simp
 · intro i h1 h2
   simp only [List.getElem_set, mg, List.getElem_map, idL, List.getElem_range]
   by_cases hi : y.toNat = i
   · have : (i : Int) = y := by omega
     rw [if_pos hi, if_pos this]
   · have : ¬ (i : Int) = y := by omega
     rw [if_neg hi, if_neg this]
theorem blocks_start (ms : List (List Int)) {n : Nat} {x y : Int} (hx : 0 ≤ x ∧ x < n) (hy : 0 ≤ y ∧ y < n) : Bk ms n x y (mg (idL n) y x) ∧ act (mg (idL n) y x) x = act (mg (idL n) y x) y := by
 refine ⟨(Bk.start ms n x y).merge hy hx (fun c hc => hc.1.symm) (q7f hy) (q7f hx), ?_⟩
 exact (mg_both (by simp; omega) (by simp; omega) (q7f hy) (q7f hx)).symm
def ExB (Q : Bool → Prop) : Prop := ∃ m, Q m
theorem ExB.mk {Q : Bool → Prop} (m : Bool) (h : Q m) : ExB Q := ⟨m, h⟩
def ExN (Q : List Int → Bool → Prop) : Prop := ∃ L m, Q L m
theorem ExN.mk {Q : List Int → Bool → Prop} (L : List Int) (m : Bool) (h : Q L m) : ExN Q := ⟨L, m, h⟩
set_option maxRecDepth 10000 in
theorem t_l07Blocks {pg : Pg} (hp : pg.fn 329 = some j33) (h334 : q5a pg) (h273 : S_both pg) (h385 : q2h pg 385) : j67 pg 329 := by
 intro f s x y h hnd hx hy
 have h12 := h.small
 have h0 := h.pos
 have hpr := j73 h hnd
 have hcall := h273 f s h
 have hml : (f ++ j0z s).length ≤ 24 := by
  have := h.len
  simp
  omega
 refine Call.intro hp rfl (by simp) ?_
 show wp _ _ j33.body (post [.t 6] _ _ _) _
 simp [j33]
 refine j0f hcall rfl rfl (fun _ => by simp) ?_
 simp
 refine j0f (h334 f.length (by omega)) rfl rfl (fun _ => by simp) ?_
 simp [hy]
 have hset := idL_set (x := x) hy
 obtain ⟨b1, b2⟩ := blocks_start (f ++ j0z s) hx hy
 generalize f ++ j0z s = ms at *
 refine ⟨by omega, ?_⟩
 refine j3z (α := List Int × Bool) (fun z => 2 * (dis f.length z.1).length + (if z.2 then 1 else 0)) (fun z e => (Bk ms f.length x y z.1 ∧ act z.1 x = act z.1 y ∧ (z.2 = false → Blk ms f.length x y (act z.1))) ∧
  (e = fr [(7, some (.val (.mem .own (some 1) (rows ms)))), (8, some (.val (.mem .own (some 1) (z.1.map I)))), (9, some (.val (B z.2)))] ∨
   e = fr [(7, some (.val (.mem .own (some 1) (rows ms)))), (8, some (.val (.mem .own (some 1) (z.1.map I)))), (9, some (.val (B z.2))), (10, some (.val (I f.length))), (30, some (.val (B false)))])) ?_ (mg (idL f.length) y x, true) _ ⟨⟨b1, b2, fun hh => by cases hh⟩, .inl (by rw [← hset]; simp)⟩
 rintro ⟨L0, m0⟩ e ⟨⟨c1, c2, c3⟩, he⟩
 simp only at c1 c2 c3 he
 have hL0 := c1.len
 cases m0 with
 | false =>
  have hfin := blL_eq c1 (c3 rfl)
  have hr := h385 L0 (by omega)
  rcases he with rfl | rfl
  · simp
    refine j0f hr rfl rfl (fun _ => by simp) ?_
    simp [hfin]
  · simp
    refine j0f hr rfl rfl (fun _ => by simp) ?_
    simp [hfin]
 | true =>
  clear c3
  rcases he with rfl | rfl
  all_goals
   simp
   refine j0a (fun a e => ExN fun L m => PS ms f.length x y L0 (QA ms L0 a) L m ∧ e = fr [(7, some (.val (.mem .own (some 1) (rows ms)))), (8, some (.val (.mem .own (some 1) (L.map I)))), (9, some (.val (B m))), (10, some (.val (I a)))]) f.length ?_ ?_ 0 _ (by omega) (ExN.mk L0 false ⟨⟨c1, c2, (fun hh => by cases hh), (fun _ => ⟨rfl, QA.zero _ _⟩)⟩, by simp⟩)
   · rintro a e ha ⟨L, m, g, rfl⟩
     have hL := g.bk.len
     simp [hL, ha]
     refine j0a (fun b e => ExN fun L m => PS ms f.length x y L0 (QB ms L0 a b) L m ∧ e = fr [(7, some (.val (.mem .own (some 1) (rows ms)))), (8, some (.val (.mem .own (some 1) (L.map I)))), (9, some (.val (B m))), (10, some (.val (I a))), (11, some (.val (I b)))]) a ?_ ?_ 0 _ (by omega) (ExN.mk L m ⟨g.weak fun _ => QA.b, by simp⟩)
     · rintro b e hb ⟨L, m, g, rfl⟩
       have hL := g.bk.len
       have hal : a < L.length := by omega
       have hbl : b < L.length := by omega
       have hga : L[a] = act L (a : Nat) := by simp [act, hal]
       have hgb : L[b] = act L (b : Nat) := by simp [act, hbl]
       have hbf : b < f.length := by omega
       simp [hL, ha, hb, hbf, hga, hgb]
       by_cases hab : act L (a : Nat) = act L (b : Nat)
       · rw [if_pos hab]
         refine j0a (fun k e => ExN fun L m => (PS ms f.length x y L0 (QK ms L0 a b k) L m ∧ act L (a : Nat) = act L (b : Nat)) ∧ e = fr [(7, some (.val (.mem .own (some 1) (rows ms)))), (8, some (.val (.mem .own (some 1) (L.map I)))), (9, some (.val (B m))), (10, some (.val (I a))), (11, some (.val (I b))), (12, some (.val (I k)))]) ms.length ?_ ?_ 0 _ (by omega) (ExN.mk L m ⟨⟨g.weak fun _ => QB.k, hab⟩, by simp⟩)
         · clear hga hgb hab hal hbl hL g
           rintro k e hk ⟨L, m, ⟨g, hab⟩, rfl⟩
           have hL := g.bk.len
           have hpm : ms[k] ∈ ms := List.getElem_mem hk
           have hpl := (hpr _ hpm).1
           have ra := j4f hpr hpm (x := (a : Nat)) (by omega)
           have rb := j4f hpr hpm (x := (b : Nat)) (by omega)
           have hga : (ms[k])[a]'(by omega) = act ms[k] (a : Nat) := by simp [act, hpl, ha]
           have hgb : (ms[k])[b]'(by omega) = act ms[k] (b : Nat) := by simp [act, hpl, hbf]
           have hnext := fun he => g.weak (Q' := QK ms L0 a b (k + 1)) fun hl q => q.next hk (by rw [← hl]; exact he)
           have hmerge := fun {u v : Int} hu hv hne => PS.merge (Q' := QK ms L0 a b (k + 1)) hpr hx hy g (a := (a : Nat)) (b := (b : Nat)) (by omega) (by omega) hab hpm (u := u) (v := v) hu hv hne
           generalize act ms[k] (a : Nat) = pa at *
           generalize act ms[k] (b : Nat) = pb at *
           have hla : pa.toNat < L.length := by omega
           have hlb : pb.toNat < L.length := by omega
           have hga2 : L[pa.toNat] = act L pa := by simp [act, hla]
           have hgb2 : L[pb.toNat] = act L pb := by simp [act, hlb]
           simp [hk, hpl, ha, hbf, hga, hgb, hga2, hgb2, ra, rb, hL]
           by_cases huv : act L pa = act L pb
           · have hq := hnext huv
             rw [huv]
             refine j0a (fun c e => e = fr [(7, some (.val (.mem .own (some 1) (rows ms)))), (8, some (.val (.mem .own (some 1) (L.map I)))), (9, some (.val (B m))), (10, some (.val (I a))), (11, some (.val (I b))), (12, some (.val (I k))), (13, some (.val (I (act L pb)))), (14, some (.val (I (act L pb)))), (15, some (.val (I 0)))]) 0 (fun k e hk => by omega) ?_ 0 _ (by omega) ?_
             · rintro e rfl
               have hp0 : 0 < L.length := by omega
               simp [hp0]
               exact ⟨by omega, ExN.mk L m ⟨⟨hq, hab⟩, by simp⟩⟩
             · simp
           · obtain ⟨n1, n2, n3⟩ := hmerge rfl rfl huv
             clear hmerge hnext hga hgb hga2 hgb2
             generalize act L pa = u at *
             generalize act L pb = v at *
             refine j0a (fun c e => ExB fun m' => (m' = true ∨ (m' = m ∧ ∀ j (hj : j < L.length), j < c → L[j] ≠ u)) ∧ e = fr [(7, some (.val (.mem .own (some 1) (rows ms)))), (8, some (.val (.mem .own (some 1) ((mixL (mg L u v) L c).map I)))), (9, some (.val (B m'))), (10, some (.val (I a))), (11, some (.val (I b))), (12, some (.val (I k))), (13, some (.val (I u))), (14, some (.val (I v))), (15, some (.val (I c)))]) L.length ?_ ?_ 0 _ (by omega) (ExB.mk m ⟨.inr ⟨rfl, fun j _ hj => by omega⟩, by simp [mixL]⟩)
             · rintro c e hc ⟨m', hm', rfl⟩
               have g1 := q4g (mg L u v) L c (by simp)
               have g2 := mixL_get (mg L u v) L hc (by simp)
               have g3 := mixL_set (mg L u v) L hc (by simp)
               have g4 : (mg L u v)[c]'(by simpa using hc) = if L[c] = u then v else L[c] := by simp [mg]
               by_cases hcu : L[c] = u
               · rw [if_pos hcu] at g4
                 rw [g4] at g3
                 generalize mixL (mg L u v) L c = Y at *
                 have hjY : c < Y.length := by omega
                 have g5 : Y[c] = L[c] := by rw [List.getElem?_eq_getElem hjY] at g2; exact Option.some.inj g2
                 simp [g1, hc, g5, hcu, huv]
                 exact ⟨by omega, by omega, ExB.mk true ⟨.inl rfl, by rw [← g3]; simp⟩⟩
               · rw [if_neg hcu] at g4
                 have g6 : mixL (mg L u v) L (c + 1) = mixL (mg L u v) L c := by
                  rw [← g3, g4]
                  have hjY : c < (mixL (mg L u v) L c).length := by omega
                  have g5 : (mixL (mg L u v) L c)[c] = L[c] := by rw [List.getElem?_eq_getElem hjY] at g2; exact Option.some.inj g2
                  rw [← g5]
                  simp
                 rw [g6]
                 clear g3 g6
                 generalize mixL (mg L u v) L c = Y at *
                 have hjY : c < Y.length := by omega
                 have g5 : Y[c] = L[c] := by rw [List.getElem?_eq_getElem hjY] at g2; exact Option.some.inj g2
                 simp [g1, hc, g5, hcu, huv]
                 refine ⟨by omega, ExB.mk m' ⟨?_, by simp⟩⟩
                 rcases hm' with h1 | ⟨h1, h2⟩
                 · exact .inl h1
                 · refine .inr ⟨h1, fun j hj hl => ?_⟩
                   by_cases hjc : j = c
                   · subst hjc; exact hcu
                   · exact h2 j hj (by omega)
             · rintro e ⟨m', hm', rfl⟩
               have g1 := mixL_last (mg L u v) L (by simp)
               have hmt : m' = true := by
                rcases hm' with h1 | ⟨h1, h2⟩
                · exact h1
                · obtain ⟨j, hj, hju⟩ := List.getElem_of_mem n3
                  exact absurd hju (h2 j hj hj)
               subst hmt
               simp [g1, j00]
               exact ⟨by omega, ExN.mk (mg L u v) true ⟨⟨n1, n2⟩, by simp⟩⟩
         · rintro e ⟨L, m, ⟨g, hab⟩, rfl⟩
           simp
           refine ⟨by omega, ExN.mk L m ⟨g.weak fun _ => QK.b, by simp⟩⟩
       · rw [if_neg hab]
         refine ⟨by omega, ExN.mk L m ⟨g.weak fun hl q => q.skip (by rw [← hl]; exact hab), by simp⟩⟩
     · rintro e ⟨L, m, g, rfl⟩
       simp
       refine ⟨by omega, ExN.mk L m ⟨g.weak fun _ => QB.a, by simp⟩⟩
   · rintro e ⟨L, m, g, rfl⟩
     have hL := g.bk.len
     have hlt := g.lt
     have heq := g.eq
     have hxy := g.xy
     have hbk := g.bk
     clear g
     cases m with
     | false =>
      obtain ⟨rfl, q⟩ := heq rfl
      simp [hL]
      exact ⟨L, .inl ⟨by omega, ⟨hbk, hxy, q.blk hxy⟩, .inr (by simp)⟩⟩
     | true =>
      simp [hL]
      exact ⟨L, .inr ⟨hlt rfl, ⟨hbk, hxy⟩, .inr (by simp)⟩⟩
end Go.Mch
namespace Go.Mch

def bsOk (n : Nat) (x y : Int) : Prop := (0 ≤ x ∧ x ≤ (n : Int) - 1) ∧ (0 ≤ y ∧ y ≤ (n : Int) - 1) ∧ x ≠ y
open Classical in
noncomputable def bsR (f s : List (List Int)) (x y : Int) : List Int := q0p [] (fun f s => if bsOk f.length x y ∧ maxL (solO f s) = 0 then blL (f ++ j0z s) f.length x y else []) f s
open Classical in
noncomputable def bsC (f s : List (List Int)) (x y : Int) : Int := q0p 1 (fun f s => if bsOk f.length x y then (if maxL (solO f s) = 0 then 0 else 5) else 2) f s
def S_bs (pg : Pg) (n : Nat) : Prop := ∀ (f s : List (List Int)) (x y : Int), fits f → fits s → ∃ o, lso o = bsR f s x y ∧ Call pg n [sol f s, I x, I y] [sol f s, I x, I y] (.tup [ownI o, I (bsC f s x y)])
theorem t_bs_spec {pg : Pg} (hp : pg.fn 205 = some j03) (h264 : q5m pg 264) (h30 : S_in pg 30) (h299 : q5c pg 299) (h288 : j9q pg) (h329 : j67 pg 329) : S_bs pg 205 := by
 intro f s x y hf hs
 by_cases h : j8k f s
 · have hpm := PM.of h.1.1
   have h12 := hpm.small
   have h0 := hpm.pos
   have hgr : ∀ x ∈ solO f s, 0 ≤ x ∧ x ≤ 1048576 := fun x hx => by have := q0h hx; omega
   have hcg := h288 (solO f s) (by simp; omega) hgr
   have hg := j5j (solO f s) (by simpa using h0) (fun x hx => (q0h hx).1)
   have hb1 := h30 x 0 ((f.length : Int) - 1)
   have hb2 := h30 y 0 ((f.length : Int) - 1)
   by_cases hok : bsOk f.length x y
   · obtain ⟨k1, k2, k3⟩ := id hok
     have hbl := h329 f s x y hpm h.2 (by omega) (by omega)
     refine ⟨if maxL (solO f s) = 0 then some (blL (f ++ j0z s) f.length x y) else none, by by_cases hm : maxL (solO f s) = 0 <;> simp [bsR, j1e h, hok, hm], Call.intro hp rfl (by simp) ?_⟩
     show wp _ _ j03.body (post [.t 6, .t 7] _ _ _) _
     simp [j03]
     refine j0f (h264 f s hf hs) rfl rfl (fun _ => rfl) ?_
     simp [j1f h, bsC, j1e h, hok]
     refine ⟨by omega, ?_⟩
     refine j0f hb1 rfl rfl (fun _ => rfl) ?_
     simp [k1]
     refine ⟨by omega, ?_⟩
     refine j0f hb2 rfl rfl (fun _ => rfl) ?_
     simp [k2, k3]
     refine j0f (h299 f s hpm h.2) rfl rfl (fun _ => by simp) ?_
     simp
     refine j0f hcg rfl rfl (fun _ => rfl) ?_
     by_cases hm : maxL (solO f s) = 0
     · simp [hg, hm]
       refine j0f hbl rfl rfl (fun _ => by simp) ?_
       simp [ownI]
     · have hm2 : ¬ greatest (solO f s) ≤ 1 := by
        have := greatest_nn (solO f s) fun x hx => (hgr x hx).1
        have : 0 ≤ maxL (solO f s) := by
         have := j78 (solO f s) (x := (solO f s)[0]'(by simpa using h0)) (List.getElem_mem _)
         have := (hgr _ (List.getElem_mem (show 0 < (solO f s).length by simpa using h0))).1
         omega
        omega
       have hm3 : 1 < greatest (solO f s) := by omega
       simp [hm, hm3, ownI]
   · refine ⟨none, by simp [bsR, j1e h, hok], Call.intro hp rfl (by simp) ?_⟩
     show wp _ _ j03.body (post [.t 6, .t 7] _ _ _) _
     simp [j03]
     refine j0f (h264 f s hf hs) rfl rfl (fun _ => rfl) ?_
     simp [j1f h, bsC, j1e h, hok]
     refine ⟨by omega, ?_⟩
     refine j0f hb1 rfl rfl (fun _ => rfl) ?_
     by_cases k1 : 0 ≤ x ∧ x ≤ (f.length : Int) - 1
     · simp [k1]
       refine ⟨by omega, ?_⟩
       refine j0f hb2 rfl rfl (fun _ => rfl) ?_
       by_cases k2 : 0 ≤ y ∧ y ≤ (f.length : Int) - 1
       · have k3 : x = y := Classical.byContradiction fun hne => hok ⟨k1, k2, hne⟩
         subst k3
         simp [k2, ownI]
       · simp [k2, ownI, j00]
     · simp [k1, ownI, j00]
 · refine ⟨none, by simp [bsR, j2y h], Call.intro hp rfl (by simp) ?_⟩
   show wp _ _ j03.body (post [.t 6, .t 7] _ _ _) _
   simp [j03]
   refine j0f (h264 f s hf hs) rfl rfl (fun _ => rfl) ?_
   simp [j0v h, bsC, j2y h, ownI]
theorem t_bs_impl {pg : Pg} (hp : pg.fn 206 = some j04) (h266 : q5m pg 266) (h39 : j8f pg) (h300 : q1k pg) (h330 : j67 pg 330) : S_bs pg 206 := by
 intro f s x y hf hs
 by_cases h : j8k f s
 · have hpm := PM.of h.1.1
   have h12 := hpm.small
   have h0 := hpm.pos
   have hel := h39 f.length [x, y] (by simp) (by omega) (by omega)
   have hin : inR 0 ((f.length : Int) - 1) [x, y] ↔ (0 ≤ x ∧ x ≤ (f.length : Int) - 1) ∧ (0 ≤ y ∧ y ≤ (f.length : Int) - 1) := by simp [inR]
   by_cases hok : bsOk f.length x y
   · obtain ⟨k1, k2, k3⟩ := id hok
     have hbl := h330 f s x y hpm h.2 (by omega) (by omega)
     refine ⟨if maxL (solO f s) = 0 then some (blL (f ++ j0z s) f.length x y) else none, by by_cases hm : maxL (solO f s) = 0 <;> simp [bsR, j1e h, hok, hm], Call.intro hp rfl (by simp) ?_⟩
     show wp _ _ j04.body (post [.t 6, .t 7] _ _ _) _
     simp [j04]
     refine j0f (h266 f s hf hs) rfl rfl (fun _ => rfl) ?_
     simp [j1f h, bsC, j1e h, hok]
     refine j0f hel rfl rfl (fun _ => rfl) ?_
     simp [hin, k1, k2, k3]
     refine j0f (h300 f s hpm h.2) rfl rfl (fun _ => rfl) ?_
     by_cases hm : maxL (solO f s) = 0
     · simp [hm]
       refine j0f hbl rfl rfl (fun _ => by simp) ?_
       simp [ownI]
     · simp [hm, ownI]
   · refine ⟨none, by simp [bsR, j1e h, hok], Call.intro hp rfl (by simp) ?_⟩
     show wp _ _ j04.body (post [.t 6, .t 7] _ _ _) _
     simp [j04]
     refine j0f (h266 f s hf hs) rfl rfl (fun _ => rfl) ?_
     simp [j1f h, bsC, j1e h, hok]
     refine j0f hel rfl rfl (fun _ => rfl) ?_
     by_cases k : (0 ≤ x ∧ x ≤ (f.length : Int) - 1) ∧ (0 ≤ y ∧ y ≤ (f.length : Int) - 1)
     · have k3 : x = y := Classical.byContradiction fun hne => hok ⟨k.1, k.2, hne⟩
       subst k3
       simp [hin, k.1, ownI]
     · simp [hin, k, ownI, j00]
 · refine ⟨none, by simp [bsR, j2y h], Call.intro hp rfl (by simp) ?_⟩
   show wp _ _ j04.body (post [.t 6, .t 7] _ _ _) _
   simp [j04]
   refine j0f (h266 f s hf hs) rfl rfl (fun _ => rfl) ?_
   simp [j0v h, bsC, j2y h, ownI]

theorem blL_ex {ms : List (List Int)} {n : Nat} (hm : Prms n ms) {x y : Int} (hx : 0 ≤ x ∧ x < n) (hy : 0 ≤ y ∧ y < n) : ∃ L, Bk ms n x y L ∧ Blk ms n x y (act L) := by
 have hfd : ∀ a : Nat, a < n → ∃ c, c < n ∧ ((List.range n).find? fun b => dec (BE ms n x y (a : Nat) (b : Nat))) = some c ∧ BE ms n x y (a : Nat) (c : Nat) := fun a ha => by
  cases hc : (List.range n).find? fun b => dec (BE ms n x y (a : Nat) (b : Nat)) with
  | none =>
   have := List.find?_eq_none.1 hc a (List.mem_range.2 ha)
   rw [j1f (show BE ms n x y (a : Nat) (a : Nat) from fun _ _ => rfl)] at this
   exact absurd rfl this
  | some c =>
   have h1 := List.find?_some hc
   have h2 := List.mem_range.1 (List.mem_of_find?_eq_some hc)
   refine ⟨c, h2, rfl, Classical.byContradiction fun hn => ?_⟩
   simp only [j0v hn] at h1
   cases h1
 let L : List Int := (List.range n).map fun a => ((((List.range n).find? fun b => dec (BE ms n x y (a : Nat) (b : Nat))).getD 0 : Nat) : Int)
 have hL : ∀ a : Int, (0 ≤ a ∧ a < n) → ∃ c : Nat, c < n ∧ act L a = c ∧ BE ms n x y a c ∧ ((List.range n).find? fun b => dec (BE ms n x y a (b : Nat))) = some c := fun a ha => by
  obtain ⟨c, h1, h2, h3⟩ := hfd a.toNat (by omega)
  have e1 : ((a.toNat : Nat) : Int) = a := by omega
  have hl : a.toNat < n := by omega
  rw [e1] at h2 h3
  refine ⟨c, h1, ?_, h3, h2⟩
  simp only [act, L, List.getD_eq_getElem?_getD, List.getElem?_map, List.getElem?_range hl, Option.map_some, Option.getD_some, e1, h2]
 have hker : ∀ a b : Int, (0 ≤ a ∧ a < n) → (0 ≤ b ∧ b < n) → (act L a = act L b ↔ BE ms n x y a b) := fun a b ha hb => by
  obtain ⟨c, h1, h2, h3, h4⟩ := hL a ha
  obtain ⟨d, k1, k2, k3, k4⟩ := hL b hb
  constructor
  · intro he
    have : c = d := by omega
    subst this
    exact h3.trans k3.symm
  · intro he
    have hfun : (fun z : Nat => dec (BE ms n x y a (z : Nat))) = fun z : Nat => dec (BE ms n x y b (z : Nat)) := by
     funext z
     by_cases hz : BE ms n x y a z
     · rw [j1f hz, j1f (he.symm.trans hz)]
     · rw [j0v hz, j0v fun hh => hz (he.trans hh)]
    rw [hfun, k4] at h4
    have : d = c := Option.some.inj h4
    omega
 refine ⟨L, ⟨by simp [L], fun v hv => ?_, fun a b ha hb he => (hker a b ha hb).1 he⟩, (hker x y hx hy).2 fun c hc => hc.1, fun a b ha hb he p hp => (hker _ _ (j4f hm hp ha) (j4f hm hp hb)).2 (((hker a b ha hb).1 he).step ha hb hp)⟩
 obtain ⟨i, hi, rfl⟩ := List.getElem_of_mem hv
 have hi : i < n := by simpa [L] using hi
 obtain ⟨c, h1, h2, _⟩ := hL i (by omega)
 have : act L i = L[i] := by simp [act, L, hi]
 omega
theorem q1f {ms : List (List Int)} {n : Nat} (hm : Prms n ms) {x y : Int} (hx : 0 ≤ x ∧ x < n) (hy : 0 ≤ y ∧ y < n) : (blL ms n x y).length = n := by
 obtain ⟨L, h1, h2⟩ := blL_ex hm hx hy
 rw [← blL_eq h1 h2, q2s, h1.len]
theorem q44 {ms : List (List Int)} {n : Nat} {x y v : Int} (hv : v ∈ blL ms n x y) : 0 ≤ v ∧ v < n := by
 unfold blL at hv
 split at hv
 · rename_i h
   have := renum_rng hv
   rw [h.choose_spec.1.len] at this
   exact this
 · cases hv
def prim (f s : List (List Int)) : Prop := maxL (solO f s) = 0 ∧ ∀ y : Nat, 1 ≤ y → y < f.length → maxL (blL (f ++ j0z s) f.length 0 y) = 0
def q6q (pg : Pg) (n : Nat) : Prop := S_solB pg n (q0p false fun f s => dec (prim f s)) (q0p 1 fun _ _ => 0)
theorem maxL_nn {xs : List Int} (h0 : 0 < xs.length) (h : ∀ x ∈ xs, 0 ≤ x) : 0 ≤ maxL xs := by
 have h1 := j5j xs h0 h
 have h2 := j78 xs (List.getElem_mem h0)
 have h3 := h _ (List.getElem_mem h0)
 omega
theorem t_prim_spec {pg : Pg} (hp : pg.fn 197 = some j1h) (h264 : q5m pg 264) (h299 : q5c pg 299) (h288 : j9q pg) (h329 : j67 pg 329) : q6q pg 197 := by
 intro f s hf hs
 refine Call.intro hp rfl (by simp) ?_
 show wp _ _ j1h.body (post [.t 2, .t 3] _ _ _) _
 simp [j1h]
 refine j0f (h264 f s hf hs) rfl rfl (fun _ => rfl) ?_
 by_cases h : j8k f s
 · have hpm := PM.of h.1.1
   have h12 := hpm.small
   have h0 := hpm.pos
   have hpr := j73 hpm h.2
   have hgr : ∀ x ∈ solO f s, 0 ≤ x ∧ x ≤ 1048576 := fun x hx => by have := q0h hx; omega
   have hcg := h288 (solO f s) (by simp; omega) hgr
   have hg := j5j (solO f s) (by simpa using h0) (fun x hx => (q0h hx).1)
   have hmn := maxL_nn (xs := solO f s) (by simpa using h0) (fun x hx => (q0h hx).1)
   simp [j1f h, j1e h]
   refine j0f (h299 f s hpm h.2) rfl rfl (fun _ => by simp) ?_
   simp
   refine j0f hcg rfl rfl (fun _ => rfl) ?_
   by_cases hm : maxL (solO f s) = 0
   · simp [hg, hm]
     refine j3z (α := Nat) (fun k => f.length - k) (fun k e => (1 ≤ k ∧ k ≤ f.length ∧ ∀ y : Nat, 1 ≤ y → y < k → maxL (blL (f ++ j0z s) f.length 0 y) = 0) ∧ e = fr [(1, some (.val (.mem .own none [tb f, tb s]))), (4, some (.val (I k)))]) ?_ 1 _ ⟨⟨by omega, by omega, fun y h1 h2 => by omega⟩, by simp⟩
     rintro k e ⟨⟨k1, k2, k3⟩, rfl⟩
     by_cases hk : k < f.length
     · have hb := h329 f s 0 k hpm h.2 (by omega) (by omega)
       have hlen := q1f hpr (x := 0) (y := k) (by omega) (by omega)
       have hr : ∀ v ∈ blL (f ++ j0z s) f.length 0 k, 0 ≤ v ∧ v ≤ 1048576 := fun v hv => by have := q44 hv; omega
       have hg2 := j5j _ (by omega : 0 < (blL (f ++ j0z s) f.length 0 k).length) (fun v hv => (hr v hv).1)
       have hmn2 := maxL_nn (by omega : 0 < (blL (f ++ j0z s) f.length 0 k).length) (fun v hv => (hr v hv).1)
       have hc2 := h288 (blL (f ++ j0z s) f.length 0 k) (by omega) hr
       generalize hbk : blL (f ++ j0z s) f.length 0 k = X at *
       simp [hk]
       refine j0f hb rfl rfl (fun _ => by simp) ?_
       simp
       refine j0f hc2 rfl rfl (fun _ => rfl) ?_
       by_cases hmx : maxL X = 0
       · simp [hg2, hmx]
         exact ⟨by omega, k + 1, by omega, ⟨by omega, by omega, fun y h1 h2 => by
          by_cases hy : y = k
          · subst hy; rw [hbk]; exact hmx
          · exact k3 y h1 (by omega)⟩, by simp⟩
       · have hx1 : 1 < greatest X := by omega
         have hx2 : ¬ greatest X ≤ 1 := by omega
         have hno : ¬ prim f s := fun hh => by
          have := hh.2 k k1 hk
          rw [hbk] at this
          exact hmx this
         simp [hx1, j0v hno]
     · have hyes : prim f s := ⟨hm, fun y h1 h2 => k3 y h1 (by omega)⟩
       have hk2 : f.length ≤ k := by omega
       simp [hk, hk2, j1f hyes]
   · have hx1 : 1 < greatest (solO f s) := by omega
     have hx2 : ¬ greatest (solO f s) ≤ 1 := by omega
     have hno : ¬ prim f s := fun hh => hm hh.1
     simp [hx1, j0v hno]
 · simp [j0v h, j2y h]
theorem t_prim_impl {pg : Pg} (hp : pg.fn 198 = some j1i) (h266 : q5m pg 266) (h300 : q1k pg) (h290 : S_maxL pg) (h330 : j67 pg 330) : q6q pg 198 := by
 intro f s hf hs
 refine Call.intro hp rfl (by simp) ?_
 show wp _ _ j1i.body (post [.t 2, .t 3] _ _ _) _
 simp [j1i]
 refine j0f (h266 f s hf hs) rfl rfl (fun _ => rfl) ?_
 by_cases h : j8k f s
 · have hpm := PM.of h.1.1
   have h12 := hpm.small
   have h0 := hpm.pos
   have hpr := j73 hpm h.2
   simp [j1f h, j1e h]
   refine j0f (h300 f s hpm h.2) rfl rfl (fun _ => rfl) ?_
   by_cases hm : maxL (solO f s) = 0
   · simp [hm]
     refine j3z (α := Nat) (fun k => f.length - k) (fun k e => (1 ≤ k ∧ k ≤ f.length ∧ ∀ y : Nat, 1 ≤ y → y < k → maxL (blL (f ++ j0z s) f.length 0 y) = 0) ∧ e = fr [(1, some (.val (.mem .own none [tb f, tb s]))), (4, some (.val (I k)))]) ?_ 1 _ ⟨⟨by omega, by omega, fun y h1 h2 => by omega⟩, by simp⟩
     rintro k e ⟨⟨k1, k2, k3⟩, rfl⟩
     by_cases hk : k < f.length
     · have hb := h330 f s 0 k hpm h.2 (by omega) (by omega)
       have hlen := q1f hpr (x := 0) (y := k) (by omega) (by omega)
       have hr : ∀ v ∈ blL (f ++ j0z s) f.length 0 k, 0 ≤ v ∧ v ≤ 1048576 := fun v hv => by have := q44 hv; omega
       have hmn2 := maxL_nn (by omega : 0 < (blL (f ++ j0z s) f.length 0 k).length) (fun v hv => (hr v hv).1)
       have hc2 := h290 (blL (f ++ j0z s) f.length 0 k) (by omega) (by omega)
       generalize hbk : blL (f ++ j0z s) f.length 0 k = X at *
       simp [hk]
       refine j0f hb rfl rfl (fun _ => by simp) ?_
       simp
       refine j0f hc2 rfl rfl (fun _ => rfl) ?_
       by_cases hmx : maxL X = 0
       · simp [hmx]
         exact ⟨by omega, k + 1, by omega, ⟨by omega, by omega, fun y h1 h2 => by
          by_cases hy : y = k
          · subst hy; rw [hbk]; exact hmx
          · exact k3 y h1 (by omega)⟩, by simp⟩
       · have hx1 : 0 < maxL X := by omega
         have hx2 : ¬ maxL X ≤ 0 := by omega
         have hno : ¬ prim f s := fun hh => by
          have := hh.2 k k1 hk
          rw [hbk] at this
          exact hmx this
         simp [hx1, j0v hno]
     · have hyes : prim f s := ⟨hm, fun y h1 h2 => k3 y h1 (by omega)⟩
       have hk2 : f.length ≤ k := by omega
       simp [hk, hk2, j1f hyes]
   · have hno : ¬ prim f s := fun hh => hm hh.1
     simp [hm, j0v hno]
 · simp [j0v h, j2y h]
end Go.Mch
namespace Go.Mch
theorem rch_trans {ms : List (List Int)} {a b d : Int} (h1 : Rch ms a b) (h2 : Rch ms b d) : Rch ms a d := fun S hs hc => h2 S (h1 S hs hc) hc
theorem rch_sym {n : Nat} {ms : List (List Int)} (h : Prms n ms) {a b : Int} (ha : 0 ≤ a ∧ a < n) (hr : Rch ms a b) : Rch ms b a := by
 refine Classical.byContradiction fun hn => ?_
 have hc : Cl ms (Rch ms b) := fun x hx p hp => q26 hx hp
 have := hr (fun x => (0 ≤ x ∧ x < n) ∧ ¬ Rch ms b x) ⟨ha, hn⟩ fun x hx p hp => ⟨j4f h hp hx.1, q2t h hc hx.1 hx.2 hp⟩
 exact this.2 (q27 ms b)
theorem orb_zero {ms : List (List Int)} {n : Nat} (h0 : 0 < n) (k : Nat) : 1 ≤ (orbS ms n (k + 1)).2 ∧ ∀ x, x < n → (orbS ms n (k + 1)).1.getD x 0 = 0 → Rch ms 0 x := by
 induction k with
 | zero =>
  have hz : (orbS ms n 0).1.getD 0 0 = -1 := by simp [orbS, h0]
  rw [orbS_next, hz, if_neg (by omega)]
  refine ⟨by simp [orbS], fun x hx he => ?_⟩
  rw [j7n (by simpa using hx)] at he
  by_cases hr : Rch ms 0 x
  · exact hr
  · have hr' : ¬ Rch ms ((0 : Nat) : Int) x := hr
    rw [j0v hr'] at he
    simp [orbS, hx] at he
 | succ k ih =>
  obtain ⟨i1, i2⟩ := ih
  rw [orbS_next]
  split
  · exact ⟨i1, i2⟩
  · refine ⟨by simp only; omega, fun x hx he => ?_⟩
    rw [j7n (by simpa using hx)] at he
    by_cases hr : Rch ms ((k + 1 : Nat) : Int) x
    · rw [j1f hr] at he
      simp at he
      omega
    · rw [j0v hr] at he
      exact i2 x hx he
theorem one_orbit {ms : List (List Int)} {n : Nat} (h : Prms n ms) (h0 : 0 < n) (hm : maxL (orbL ms n) = 0) {a b : Int} (ha : 0 ≤ a ∧ a < n) (hb : 0 ≤ b ∧ b < n) : Rch ms a b := by
 have hg := j5j (orbL ms n) (by simpa using h0) fun x hx => (q68 hx).1
 have hz : ∀ x : Int, (0 ≤ x ∧ x < n) → Rch ms 0 x := fun x hx => by
  have hl : x.toNat < (orbL ms n).length := by simp; omega
  have h1 := j78 (orbL ms n) (List.getElem_mem hl)
  have h2 := (q68 (List.getElem_mem hl)).1
  obtain ⟨k, hk⟩ : ∃ k, n = k + 1 := ⟨n - 1, by omega⟩
  have h3 := (orb_zero (ms := ms) h0 k).2 x.toNat (by omega)
  rw [← hk] at h3
  have e : (orbS ms n n).1.getD x.toNat 0 = (orbL ms n)[x.toNat] := by
   show (orbL ms n).getD x.toNat 0 = _
   rw [List.getD_eq_getElem?_getD, List.getElem?_eq_getElem hl]; rfl
  have := h3 (by rw [e]; omega)
  rwa [show ((x.toNat : Nat) : Int) = x by omega] at this
 exact rch_trans (rch_sym h (by omega) (hz a ha)) (hz b hb)
theorem mover {ms : List (List Int)} {n : Nat} (h : Prms n ms) (x y : Int) {a b : Int} (hr : Rch ms a b) :
 ∃ g : Int → Int, (∀ u : Int, (0 ≤ u ∧ u < n) → 0 ≤ g u ∧ g u < n) ∧ (∀ u v : Int, (0 ≤ u ∧ u < n) → (0 ≤ v ∧ v < n) → g u = g v → u = v) ∧ (∀ u v : Int, (0 ≤ u ∧ u < n) → (0 ≤ v ∧ v < n) → BE ms n x y u v → BE ms n x y (g u) (g v)) ∧ g a = b := by
 refine hr (fun z => ∃ g : Int → Int, (∀ u : Int, (0 ≤ u ∧ u < n) → 0 ≤ g u ∧ g u < n) ∧ (∀ u v : Int, (0 ≤ u ∧ u < n) → (0 ≤ v ∧ v < n) → g u = g v → u = v) ∧ (∀ u v : Int, (0 ≤ u ∧ u < n) → (0 ≤ v ∧ v < n) → BE ms n x y u v → BE ms n x y (g u) (g v)) ∧ g a = z) ⟨id, fun _ h => h, fun _ _ _ _ h => h, fun _ _ _ _ h => h, rfl⟩ ?_
 rintro z ⟨g, g1, g2, g3, rfl⟩ p hp
 exact ⟨fun u => act p (g u), fun u hu => j4f h hp (g1 u hu), fun u v hu hv he => g2 u v hu hv (act_inj h hp (g1 u hu) (g1 v hv) he), fun u v hu hv he => (g3 u v hu hv he).step (g1 u hu) (g1 v hv) hp, rfl⟩
theorem q4m {ms : List (List Int)} {n : Nat} (hm : Prms n ms) {x y : Int} (hx : 0 ≤ x ∧ x < n) (hy : 0 ≤ y ∧ y < n) {a b : Nat} (ha : a < n) (hb : b < n) : (blL ms n x y).getD a 0 = (blL ms n x y).getD b 0 ↔ BE ms n x y a b := by
 obtain ⟨L, h1, h2⟩ := blL_ex hm hx hy
 have hl := h1.len
 have hal : a < L.length := by omega
 have hbl : b < L.length := by omega
 rw [← blL_eq h1 h2, q35 hal, q35 hbl, ← h1.ker h2 (by omega) (by omega)]
 have e1 : act L a = L[a] := by simp [act, hal]
 have e2 : act L b = L[b] := by simp [act, hbl]
 rw [e1, e2]
 exact ⟨ixOf_inj (q3l hal) (q3l hbl), fun h => by rw [h]⟩
theorem lab_top {ms : List (List Int)} {n : Nat} (hm : Prms n ms) {x y : Int} (hx : 0 ≤ x ∧ x < n) (hy : 0 ≤ y ∧ y < n) : ∃ m : Nat, 0 < m ∧ m ≤ n ∧ greatest (blL ms n x y) = m ∧ ∀ w : Nat, w < m → ∃ a, a < n ∧ (blL ms n x y).getD a 0 = w := by
 obtain ⟨L, h1, h2⟩ := blL_ex hm hx hy
 have hl := h1.len
 have hg := q5l L L.length (Nat.le_refl _)
 have hll : (j6v L).length = L.length := q2s L
 rw [List.take_length, ← hll, List.take_length] at hg
 have hnd := uniqs_nodup L L.length (Nat.le_refl _)
 have hsub := uniqs_sub L L.length (Nat.le_refl _)
 rw [List.take_length] at hnd hsub
 rw [← blL_eq h1 h2]
 have hul := j8n L
 refine ⟨(j3q L).length, List.length_pos_of_mem (q3l (show 0 < L.length by omega)), by omega, hg, fun w hw => ?_⟩
 obtain ⟨a, ha, e⟩ := List.getElem_of_mem (hsub _ (List.getElem_mem hw))
 refine ⟨a, by omega, ?_⟩
 rw [q35 ha, e, ixOf_nodup hnd hw]
theorem prim_one {f s : List (List Int)} (h : PM f s) (hn : j5w f s) (hp : prim f s) {x y : Int} (hx : 0 ≤ x ∧ x < f.length) (hy : 0 ≤ y ∧ y < f.length) (hxy : x ≠ y) : greatest (blL (f ++ j0z s) f.length x y) = 1 := by
 have hm := j73 h hn
 have h0 := h.pos
 obtain ⟨m, m0, m1, hg, hs⟩ := lab_top hm hx hy
 obtain ⟨g, g1, g2, g3, g4⟩ := mover hm x y (one_orbit hm h0 hp.1 hx (b := 0) (by omega))
 have hy' := g1 y hy
 have hne : g y ≠ 0 := fun he => hxy (g2 x y hx hy (by rw [g4, he]))
 have hb : BE (f ++ j0z s) f.length x y 0 (g y) := by
  have := g3 x y hx hy (fun c hc => hc.1)
  rwa [g4] at this
 have hz := hp.2 (g y).toNat (by omega) (by omega)
 have e : (((g y).toNat : Nat) : Int) = g y := by omega
 rw [e] at hz
 have hlen := q1f hm (x := 0) (y := g y) (by omega) hy'
 have hgm := j5j (blL (f ++ j0z s) f.length 0 (g y)) (by omega) fun v hv => (q44 hv).1
 have hall : ∀ a, a < f.length → (blL (f ++ j0z s) f.length 0 (g y)).getD a 0 = 0 := fun a ha => by
  have hl : a < (blL (f ++ j0z s) f.length 0 (g y)).length := by omega
  have h1 := j78 _ (List.getElem_mem hl)
  have h2 := (q44 (List.getElem_mem hl)).1
  rw [List.getD_eq_getElem?_getD, List.getElem?_eq_getElem hl]
  simp only [Option.getD_some]
  omega
 have hbe : ∀ a b : Nat, a < f.length → b < f.length → BE (f ++ j0z s) f.length x y a b := fun a b ha hb2 c hc =>
  (q4m hm (by omega) hy' ha hb2).1 ((hall a ha).trans (hall b hb2).symm) c ⟨hb c hc, hc.2⟩
 have : m = 1 := by
  refine Classical.byContradiction fun hne1 => ?_
  obtain ⟨a, ha, ea⟩ := hs 0 m0
  obtain ⟨b, hb2, eb⟩ := hs 1 (by omega)
  have := (q4m hm hx hy ha hb2).2 (hbe a b ha hb2)
  omega
 omega
theorem plK_nodup (xs : List Int) (P : Int → Bool) (k : Nat) : (plK xs P k).Nodup := by
 unfold plK
 exact List.Pairwise.map _ (fun a b h => by omega) (List.nodup_range.sublist List.filter_sublist)
theorem pl_iff {xs : List Int} {w v : Int} : v ∈ pl xs (fun z => decide (z = w)) ↔ (0 ≤ v ∧ v < xs.length) ∧ xs.getD v.toNat 0 = w := by
 simp only [pl, plK, List.mem_map, List.mem_filter, List.mem_range, decide_eq_true_eq]
 constructor
 · rintro ⟨i, ⟨h1, h2⟩, rfl⟩
   exact ⟨by omega, by simpa using h2⟩
 · rintro ⟨h1, h2⟩
   exact ⟨v.toNat, ⟨by omega, h2⟩, by omega⟩
theorem size_le {f s : List (List Int)} (h : PM f s) (hn : j5w f s) (ho : maxL (solO f s) = 0) {x y : Int} (hx : 0 ≤ x ∧ x < f.length) (hy : 0 ≤ y ∧ y < f.length) {a b : Nat} (ha : a < f.length) (hb : b < f.length) :
 (pl (blL (f ++ j0z s) f.length x y) (fun z => decide (z = (blL (f ++ j0z s) f.length x y).getD a 0))).length ≤ (pl (blL (f ++ j0z s) f.length x y) (fun z => decide (z = (blL (f ++ j0z s) f.length x y).getD b 0))).length := by
 have hm := j73 h hn
 have hlen := q1f hm hx hy
 obtain ⟨g, g1, g2, g3, g4⟩ := mover hm x y (a := a) (b := b) (one_orbit hm h.pos ho (by omega) (by omega))
 have hr : ∀ v ∈ pl (blL (f ++ j0z s) f.length x y) (fun z => decide (z = (blL (f ++ j0z s) f.length x y).getD a 0)), 0 ≤ v ∧ v < f.length := fun v hv => by
  have := (pl_iff.1 hv).1; omega
 have hnd : ((pl (blL (f ++ j0z s) f.length x y) (fun z => decide (z = (blL (f ++ j0z s) f.length x y).getD a 0))).map g).Nodup := by
  rw [List.Nodup, List.pairwise_map]
  exact (plK_nodup _ _ _).imp_of_mem fun hu hv huv he => huv (g2 _ _ (hr _ hu) (hr _ hv) he)
 have := j3c _ (pl (blL (f ++ j0z s) f.length x y) (fun z => decide (z = (blL (f ++ j0z s) f.length x y).getD b 0))) hnd fun v hv => by
  obtain ⟨u, hu, rfl⟩ := List.mem_map.1 hv
  have hur := hr u hu
  have hue := (pl_iff.1 hu).2
  have hgr := g1 u hur
  refine pl_iff.2 ⟨by omega, ?_⟩
  have e1 : ((u.toNat : Nat) : Int) = u := by omega
  have e2 : (((g u).toNat : Nat) : Int) = g u := by omega
  have hbe := (q4m hm hx hy (by omega) ha).1 hue
  rw [e1] at hbe
  have hbe2 := g3 u a hur (by omega) hbe
  rw [g4, ← e2] at hbe2
  exact (q4m hm hx hy (by omega) hb).2 hbe2
 simpa using this
end Go.Mch
namespace Go.Mch

theorem isSetL.inN {n : Nat} {xs : List Int} (h : isSetL n xs) : inN n xs := fun v hv => by
 have := h.2.1 v hv
 omega
end Go.Mch
namespace Go.Mch
def S_big (pg : Pg) : Prop := ∀ c : Rw Int, Call pg 128 [rawB c] [rawB c] (B (decide ((4096 : Int) < (lst c).length)))
theorem t_big {pg : Pg} (hp : pg.fn 128 = some j7s) : S_big pg := by
 intro c
 refine Call.intro hp rfl (by simp) ?_
 show wp _ _ j7s.body (post [.t 2] _ _ _) _
 simp [j7s]
def q0a (pg : Pg) : Prop := ∀ a b : Rw Int, (lst a).length ≤ 1048576 → Call pg 141 [rawI a, rawI b] [rawI a, rawI b] (B (decide (lst a = lst b)))
theorem t_likeI {pg : Pg} (hp : pg.fn 141 = some j3u) : q0a pg := by
 intro a b ha
 refine Call.intro hp rfl (by simp) ?_
 show wp _ _ j3u.body (post [.t 4] _ _ _) _
 by_cases hl : (lst a).length = (lst b).length
 · simp [j3u, hl]
   refine j0a (fun k e => (∀ i, i < k → (lst a)[i]? = (lst b)[i]?) ∧ e = fr [(0, some (.val (rawI a))), (1, some (.val (rawI b))), (5, some (.val (I k)))]) (lst a).length ?_ ?_ 0 _ (by omega) ?_
   · rintro k e hk ⟨h1, rfl⟩
     have hk2 : k < (lst b).length := by omega
     by_cases hne : (lst a)[k] = (lst b)[k]
     · simp [hk, hk2, hne]
       refine ⟨by omega, fun i hi => ?_⟩
       rcases Nat.lt_or_ge i k with h2 | h2
       · exact h1 i h2
       · have : i = k := by omega
         subst this
         rw [List.getElem?_eq_getElem hk, List.getElem?_eq_getElem hk2, hne]
     · simp [hk, hk2, hne]
       intro h2
       exact hne (by simp [h2])
   · rintro e ⟨h1, rfl⟩
     simp [hl]
     apply List.ext_getElem?
     intro i
     rcases Nat.lt_or_ge i (lst a).length with h2 | h2
     · exact h1 i h2
     · rw [List.getElem?_eq_none h2, List.getElem?_eq_none (by omega)]
   · exact ⟨fun i hi => by omega, by simp⟩
 · have : lst a ≠ lst b := fun h => hl (by rw [h])
   have h2 : ((lst a).length : Int) ≠ (lst b).length := by omega
   simp [j3u, h2, this]

def S_likeT (pg : Pg) : Prop := ∀ a b : Rw (Rw Int), small a → Call pg 137 [rawT a, rawT b] [rawT a, rawT b] (B (decide ((lst a).map lst = (lst b).map lst)))
def S_same9 (pg : Pg) : Prop := ∀ a b : Rw (Rw Int), small a → Call pg 178 [rawT a, rawT b] [rawT a, rawT b] (B (decide ((lst a).map lst = (lst b).map lst)))
theorem q0a.o {pg : Pg} (h : q0a pg) (o o' : Option (List Int)) (hs : (lso o).length ≤ 1048576) : Call pg 141 [rawI (.ofO o), rawI (.ofO o')] [rawI (.ofO o), rawI (.ofO o')] (B (decide (lso o = lso o'))) := by
 have := h (.ofO o) (.ofO o') (by simpa using hs)
 simpa using this
theorem S_likeT.tb {pg : Pg} (h : S_likeT pg) (X Y : List (List Int)) (hs : j5l X) : Call pg 137 [tb X, tb Y] [tb X, tb Y] (B (decide (X = Y))) := by
 have := h (ryT (some X)) (ryT (some Y)) (j7y hs)
 simp only [q1w, q6b] at this
 exact this
theorem S_same9.tb {pg : Pg} (h : S_same9 pg) (X Y : List (List Int)) (hs : j5l X) : Call pg 178 [tb X, tb Y] [tb X, tb Y] (B (decide (X = Y))) := by
 have := h (ryT (some X)) (ryT (some Y)) (j7y hs)
 simp only [q1w, q6b] at this
 exact this
def S_top5 (pg : Pg) : Prop := ∀ xs : List Int, xs.length ≤ 1048576 → (∀ x ∈ xs, 0 ≤ x ∧ x ≤ 1048576) → Call pg 219 [ix xs] [ix xs] (I (greatest xs))
theorem t_top5 {pg : Pg} (hp : pg.fn 219 = some j6z) : S_top5 pg := by
 intro xs hl hx
 refine Call.intro hp rfl (by simp) ?_
 show wp _ _ j6z.body (post [.t 2] _ _ _) _
 simp [j6z]
 refine j0a (fun k e => e = fr [(0, some (.val (ix xs))), (3, some (.val (I (greatest (xs.take k))))), (4, some (.val (I k)))]) xs.length ?_ ?_ 0 _ (by omega) ?_
 · rintro k e hk rfl
   have h1 := hx _ (List.getElem_mem hk)
   have hs := j6n hk
   by_cases hg : greatest (xs.take k) ≤ xs[k]
   · rw [if_pos hg] at hs
     simp [hk, hg, hs]
     omega
   · rw [if_neg hg] at hs
     simp [hk, hg, hs]
     omega
 · rintro e rfl
   simp
 · simp [greatest]
end Go.Mch
namespace Go.Mch
theorem q0a.ix {pg : Pg} (h : q0a pg) (X Y : List Int) (hs : X.length ≤ 1048576) : Call pg 141 [ix X, ix Y] [ix X, ix Y] (B (decide (X = Y))) := h (.of X) (.of Y) hs
end Go.Mch
namespace Go.Mch
def S_drB (pg : Pg) (f : Nat) : Prop := ∀ c : Rw Int, okB c → ∃ (X : S2) (x y : Int), (Bd X.1 ∧ Bd X.2 ∧ Rn x ∧ Rn y) ∧ Call pg f [rawB c] [rawB c] (.tup [ownS X, I x, I y])
set_option maxRecDepth 10000 in
theorem t_dBS {pg : Pg} (hp : pg.fn 252 = some j1o) (h269 : S_from pg) (h371 : S_ring pg) (h293 : S_count pg) : S_drB pg 252 := by
 intro c hc
 obtain ⟨s, hs, hc1⟩ := h269 c hc
 obtain ⟨s1, X, ⟨k1, k2, k3⟩, hc2⟩ := h371 c s hs
 have hl := k2.1
 obtain ⟨s2, x, ⟨k4, k5⟩, hc3⟩ := h293 c s1 ((X.1.length : Int) - 1) k1 (by omega) (by omega)
 obtain ⟨s3, y, ⟨k6, k7⟩, hc4⟩ := h293 c s2 ((X.1.length : Int) - 1) k4 (by omega) (by omega)
 refine ⟨X, x, y, ⟨k2, k3, k5, k7⟩, Call.intro hp rfl (by simp) ?_⟩
 show wp _ _ j1o.body (post [.cell 2 (some 2), .t 3, .t 4] _ _ _) _
 simp [j1o]
 refine j0f hc1 rfl rfl (fun h => by simp at h) ?_
 simp
 refine j1b (ts' := [rawB c, I s1.1, H64 s1.2]) (r := ownS X) (by simpa using hc2) ?_
 simp
 refine ⟨by omega, ?_⟩
 refine j1b (ts' := [rawB c, I s2.1, H64 s2.2]) (r := I x) (by simpa using hc3) ?_
 simp
 refine ⟨by omega, ?_⟩
 refine j1b (ts' := [rawB c, I s3.1, H64 s3.2]) (r := I y) (by simpa using hc4) ?_
 simp
end Go.Mch
namespace Go.Mch
def bszL (l : List Int) (k : Nat) : List Int := (List.range l.length).map fun b : Nat => ((plK l (fun z => decide (z = (b : Int))) k).length : Int)
@[simp] theorem bszL_length (l : List Int) (k : Nat) : (bszL l k).length = l.length := by simp [bszL]
theorem bszL_zero (l : List Int) : List.replicate l.length (I 0) = (bszL l 0).map I := by
 simp only [bszL, plK, List.range_zero, List.filter_nil, List.map_nil, List.length_nil, List.map_map]
 apply List.ext_getElem
 · simp
 · intro i h1 h2; simp
theorem q1e {l : List Int} {k b : Nat} (hb : b < l.length) : (bszL l k)[b]'(by simpa using hb) = ((plK l (fun z => decide (z = (b : Int))) k).length : Int) := by simp [bszL]
theorem bszL_succ {l : List Int} {k b : Nat} (hk : k < l.length) (hb : b < l.length) (e : l[k] = (b : Int)) : (bszL l k).set b ((bszL l k)[b]'(by simpa using hb) + 1) = bszL l (k + 1) := by
 apply List.ext_getElem
 · simp
 · intro i h1 h2
   have hi : i < l.length := by simpa using h2
   have a1 := q1e (k := k + 1) hi
   have a2 := q1e (k := k) hi
   rw [plK_succ hk, e] at a1
   by_cases hbi : b = i
   · subst hbi
     rw [List.getElem_set_self, a1, a2, if_pos (by simp)]
     simp
   · rw [List.getElem_set_ne hbi, a1, a2, if_neg (by simp; omega)]
def S_law120 (pg : Pg) : Prop := ∀ c : Rw Int, okB c → ∃ args', Call pg 120 [rawB c] args' (B true)
set_option maxHeartbeats 2000000 in
set_option maxRecDepth 20000 in
theorem t_law120 {pg : Pg} (hp : pg.fn 120 = some j4r) (h128 : S_big pg) (h252 : S_drB pg 252) (h206 : S_bs pg 206) (h205 : S_bs pg 205) (h198 : q6q pg 198) (h197 : q6q pg 197) (h141 : q0a pg) (h135 : q7r pg 135) (h127 : S_rho pg 127) (h219 : S_top5 pg) : S_law120 pg := by
 intro c hc
 obtain ⟨X, x, y, ⟨hX1, hX2, hk, hk2⟩, hd⟩ := h252 c hc
 obtain ⟨f, s⟩ := X
 have hf : fits f := ⟨by have := hX1.1; simp only at this; omega, fun r hr => by have := hX1.2 r hr; omega⟩
 have hs : fits s := ⟨by have := hX2.1; simp only at this; omega, fun r hr => by have := hX2.2 r hr; omega⟩
 refine ⟨[rawB c], Call.intro hp rfl (by simp) ?_⟩
 show wp _ _ j4r.body (post [.t 2] _ _ _) _
 simp [j4r]
 refine j0f (h128 c) rfl rfl (fun _ => rfl) ?_
 by_cases hbig : (4096 : Int) < (lst c).length
 · simp [hbig]
 · simp [hbig]
   refine j0f hd rfl rfl (fun _ => by simp) ?_
   obtain ⟨o1, e1, hc1⟩ := h206 f s x y hf hs
   obtain ⟨o2, e2, hc2⟩ := h205 f s x y hf hs
   have hc3 := h198 f s hf hs
   have hc4 := h197 f s hf hs
   by_cases hgo : j8k f s ∧ bsOk f.length x y ∧ maxL (solO f s) = 0
   · obtain ⟨h, hok, ho⟩ := hgo
     obtain ⟨ox, oy, hxy⟩ := id hok
     have hpm := PM.of h.1.1
     have h12 := hpm.small
     have h0 := hpm.pos
     have hpr := j73 hpm h.2
     obtain ⟨x, rfl⟩ : ∃ k : Nat, x = k := ⟨x.toNat, by omega⟩
     obtain ⟨y, rfl⟩ : ∃ k : Nat, y = k := ⟨y.toNat, by omega⟩
     have hx : x < f.length := by omega
     have hy : y < f.length := by omega
     have e0 : bsR f s x y = blL (f ++ j0z s) f.length x y := by simp only [bsR, j1e h]; rw [if_pos ⟨hok, ho⟩]
     have c0 : bsC f s x y = 0 := by simp only [bsC, j1e h]; rw [if_pos hok, if_pos ho]
     rw [e0] at e1 e2
     rw [c0] at hc1 hc2
     have hll := q1f hpr (x := x) (y := y) (by omega) (by omega)
     have hrg : ∀ v ∈ blL (f ++ j0z s) f.length x y, 0 ≤ v ∧ v < f.length := fun v hv => q44 hv
     obtain ⟨m, m0, m1, hgt, hsj⟩ := lab_top hpr (x := x) (y := y) (by omega) (by omega)
     have hone : prim f s → m = 1 := fun hp => by
      have := prim_one hpm h.2 hp (x := x) (y := y) (by omega) (by omega) hxy
      omega
     have hxye : (blL (f ++ j0z s) f.length x y).getD x 0 = (blL (f ++ j0z s) f.length x y).getD y 0 := (q4m hpr (by omega) (by omega) hx hy).2 fun c hc => hc.1
     have hsz := fun {a b : Nat} (ha : a < f.length) (hb : b < f.length) => size_le hpm h.2 ho (x := x) (y := y) (by omega) (by omega) ha hb
     have hst : ∀ a b : Nat, a < f.length → b < f.length → (blL (f ++ j0z s) f.length x y).getD a 0 = (blL (f ++ j0z s) f.length x y).getD b 0 → ∀ p ∈ f ++ j0z s, (blL (f ++ j0z s) f.length x y).getD (act p a).toNat 0 = (blL (f ++ j0z s) f.length x y).getD (act p b).toNat 0 := fun a b ha hb he p hp => by
      have h1 := ((q4m hpr (by omega) (by omega) ha hb).1 he).step (by omega) (by omega) hp
      have ra := j4f hpr hp (x := a) (by omega)
      have rb := j4f hpr hp (x := b) (by omega)
      refine (q4m hpr (x := x) (y := y) (by omega) (by omega) (a := (act p a).toNat) (b := (act p b).toNat) (by omega) (by omega)).2 ?_
      rw [show (((act p a).toNat : Nat) : Int) = act p a by omega, show (((act p b).toNat : Nat) : Int) = act p b by omega]
      exact h1
     generalize blL (f ++ j0z s) f.length x y = l at *
     obtain rfl : o1 = some l := by
      cases o1 with
      | none => simp only [q3b] at e1; rw [← e1] at hll; simp at hll; omega
      | some l => simp only [j76] at e1; rw [e1]
     obtain rfl : o2 = some l := by
      cases o2 with
      | none => simp only [q3b] at e2; rw [← e2] at hll; simp at hll; omega
      | some l => simp only [j76] at e2; rw [e2]
     simp only [ownI] at hc1 hc2
     simp only [j1e h] at hc3 hc4
     have hlk := h141.ix l l (by omega)
     obtain ⟨oA, eA, hc5⟩ := h135 f s hf hs
     obtain ⟨oB, eB, hc6⟩ := h127 f s hf hs
     simp only [j1e h] at hc5 hc6 eA eB
     obtain rfl : oA = some f := by
      cases oA with
      | none => simp only [q3b] at eA; rw [← eA] at h0; simp at h0
      | some l => simp only [j76] at eA; rw [eA]
     have htl : (j0z s).length = f.length := by rw [q74, hpm.len]
     obtain rfl : oB = some (j0z s) := by
      cases oB with
      | none => simp only [q3b] at eB; rw [← eB] at htl; simp at htl; omega
      | some l => simp only [j76] at eB; rw [eB]
     simp only [ownT] at hc5 hc6
     have hc7 := h219 l (by omega) (fun v hv => by have := hrg v hv; omega)
     rw [hgt] at hc7
     obtain ⟨lb, hlb⟩ : ∃ lb : Nat → Nat, ∀ i, i < f.length → l.getD i 0 = (lb i : Int) ∧ lb i < f.length := ⟨fun i => (l.getD i 0).toNat, fun i hi => by
      have hil : i < l.length := by omega
      have h1 := hrg _ (List.getElem_mem hil)
      have e : l.getD i 0 = l[i] := by rw [List.getD_eq_getElem?_getD, List.getElem?_eq_getElem hil]; rfl
      simp only [e]
      omega⟩
     have hget : ∀ i (hi : i < l.length), l[i] = (lb i : Int) := fun i hi => by
      rw [← (hlb i (by omega)).1, List.getD_eq_getElem?_getD, List.getElem?_eq_getElem hi]; rfl
     have xl : x < l.length := by omega
     have yl : y < l.length := by omega
     have gX := hget x xl
     have gY := hget y yl
     have hXY : lb x = lb y := by
      rw [(hlb x hx).1, (hlb y hy).1] at hxye
      omega
     simp
     refine j0f hc1 rfl rfl (fun _ => by simp) ?_
     simp
     refine j0f hc2 rfl rfl (fun _ => by simp) ?_
     simp
     refine j0f hc3 rfl rfl (fun _ => rfl) ?_
     simp
     refine j0f hc4 rfl rfl (fun _ => rfl) ?_
     simp
     refine j0f hlk rfl rfl (fun _ => rfl) ?_
     simp
     refine j0f hc5 rfl rfl (fun _ => by simp) ?_
     simp
     refine j0f hc6 rfl rfl (fun _ => by simp) ?_
     generalize hrest : dec (prim f s) = bp
     have hbp : bp = true → m = 1 := fun hb => hone (by
      by_cases hh : prim f s
      · exact hh
      · rw [j0v hh] at hrest; subst hrest; cases hb)
     clear hrest
     rcases (by cases bp with
      | true => exact Or.inl ⟨rfl, by have := hbp rfl; omega⟩
      | false => exact Or.inr ⟨rfl, trivial⟩ : (bp = true ∧ (m : Int) = 1) ∨ (bp = false ∧ True)) with ⟨rfl, hm1⟩ | ⟨rfl, hm1⟩
     all_goals
      simp [hll, htl, hx, hy, gX, gY, hXY, j00]
      try refine j0f hc7 rfl rfl (fun _ => rfl) ?_
      try simp [hm1]
      refine ⟨by unfold roomy; omega, ?_⟩
      refine j0a (fun k e => e = fr [(6, some (.val (ownL l))), (14, some (.val (I f.length))), (15, some (.val (j1a f))), (17, some (.val (j1a (j0z s)))), (19, some (.val (ownL (bszL l k)))), (20, some (.val (I k)))]) f.length ?_ ?_ 0 _ (by omega) (by rw [← hll, bszL_zero]; rfl)
      · rintro k e hk ⟨rfl⟩
        have hkl : k < l.length := by omega
        have hlk2 := (hlb k hk).2
        have hb : lb k < l.length := by omega
        have g1 := hget k hkl
        have e1 := bszL_succ hkl hb g1
        have e2 := q1e (k := k) hb
        have hpl := plK_len l (fun z => decide (z = (lb k : Int))) k
        simp [hk, hkl, g1, hb]
        rw [← e1]
        exact ⟨by omega, by omega, by omega, by simp only [ownL, List.map_set]⟩
      · rintro e rfl
        simp
        refine j0a (fun b e => e = fr [(6, some (.val (ownL l))), (14, some (.val (I f.length))), (15, some (.val (j1a f))), (17, some (.val (j1a (j0z s)))), (19, some (.val (ownL (bszL l f.length)))), (21, some (.val (I b)))]) m ?_ ?_ 0 _ (by omega) rfl
        · rintro b e hb rfl
          obtain ⟨u, hu, eu⟩ := hsj b hb
          obtain ⟨v, hv, ev⟩ := hsj 0 m0
          have hs1 := hsz hu hv
          have hs2 := hsz hv hu
          rw [eu, ev] at hs1 hs2
          have hbl : b < l.length := by omega
          have h0l : 0 < l.length := by omega
          have e1 := q1e (k := f.length) hbl
          have e2 := q1e (k := f.length) h0l
          have e3 : (bszL l f.length)[b]'(by simpa using hbl) = (bszL l f.length)[0]'(by simpa using h0l) := by
           rw [e1, e2]
           simp only [pl, hll] at hs1 hs2
           have := Nat.le_antisymm hs1 hs2
           exact congrArg Nat.cast this
          simp
          refine j0f hc7 rfl rfl (fun _ => rfl) ?_
          simp [hb, hbl, h0l, e3]
          omega
        · rintro e rfl
          simp
          refine j0f hc7 rfl rfl (fun _ => rfl) ?_
          simp
          refine j0a (fun k e => e = fr [(6, some (.val (ownL l))), (14, some (.val (I f.length))), (15, some (.val (j1a f))), (17, some (.val (j1a (j0z s)))), (22, some (.val (I k)))]) f.length ?_ ?_ 0 _ (by omega) rfl
          · rintro k e hk rfl
            have hkT : k < (j0z s).length := by omega
            have hr1 := hpm.tf.row hk
            have hr2 : ((j0z s)[k]).length = s.length := j9f (List.getElem_mem hkT)
            have hsl := hpm.len
            simp [hk, hr1, hr2, hsl]
            refine j0a (fun a e => e = fr [(6, some (.val (ownL l))), (14, some (.val (I f.length))), (15, some (.val (j1a f))), (17, some (.val (j1a (j0z s)))), (22, some (.val (I k))), (23, some (.val (I a)))]) f.length ?_ ?_ 0 _ (by omega) rfl
            · rintro a e ha rfl
              simp [ha]
              refine j0a (fun b e => e = fr [(6, some (.val (ownL l))), (14, some (.val (I f.length))), (15, some (.val (j1a f))), (17, some (.val (j1a (j0z s)))), (22, some (.val (I k))), (23, some (.val (I a))), (24, some (.val (I b)))]) f.length ?_ ?_ 0 _ (by omega) rfl
              · rintro b e hb rfl
                have al : a < l.length := by omega
                have bl' : b < l.length := by omega
                have ga := hget a al
                have gb := hget b bl'
                obtain ⟨p1, p1'⟩ := hpm.v2f k a
                obtain ⟨p2, p2'⟩ := hpm.v2f k b
                obtain ⟨q1, q1'⟩ := hpm.v2s a k
                obtain ⟨q2, q2'⟩ := hpm.v2s b k
                have ya : a < (f[k]).length := by omega
                have yb : b < (f[k]).length := by omega
                have za : a < ((j0z s)[k]).length := by omega
                have zb : b < ((j0z s)[k]).length := by omega
                have w1 : (f[k])[a] = (σN f k a : Int) := by rw [j27 hk ya, p1]
                have w2 : (f[k])[b] = (σN f k b : Int) := by rw [j27 hk yb, p2]
                have w3 : ((j0z s)[k])[a] = (τN s k a : Int) := by rw [j27 hkT za, q1]; exact q1m (by omega) (by omega)
                have w4 : ((j0z s)[k])[b] = (τN s k b : Int) := by rw [j27 hkT zb, q2]; exact q1m (by omega) (by omega)
                have e1 := hget (σN f k a) (by omega)
                have e2 := hget (σN f k b) (by omega)
                have e3 := hget (τN s k a) (by omega)
                have e4 := hget (τN s k b) (by omega)
                by_cases hab : lb a = lb b
                · have hst' := hst a b ha hb (by rw [(hlb a ha).1, (hlb b hb).1, hab])
                  have h1 := hst' f[k] (List.mem_append_left _ (List.getElem_mem hk))
                  have h2 := hst' (j0z s)[k] (List.mem_append_right _ (List.getElem_mem hkT))
                  have d1 : (act f[k] a).toNat = σN f k a := by simp [act, ya, w1]
                  have d2 : (act f[k] b).toNat = σN f k b := by simp [act, yb, w2]
                  have d3 : (act (j0z s)[k] a).toNat = τN s k a := by simp [act, za, w3]
                  have d4 : (act (j0z s)[k] b).toNat = τN s k b := by simp [act, zb, w4]
                  rw [d1, d2, (hlb _ p1').1, (hlb _ p2').1] at h1
                  rw [d3, d4, (hlb _ (by omega)).1, (hlb _ (by omega)).1] at h2
                  have h1' : lb (σN f k a) = lb (σN f k b) := by omega
                  have h2' : lb (τN s k a) = lb (τN s k b) := by omega
                  simp [ha, hb, hk, ya, yb, za, zb, ga, gb, hab, w1, w2, w3, w4, e1, e2, e3, e4, h1', h2', hll, htl, p1', p2', q1', q2']
                  omega
                · have hab' : ¬ (lb a : Int) = lb b := by omega
                  simp [ha, hb, ga, gb, hab', hll, j00]
                  omega
              · rintro e rfl
                simp
                omega
            · rintro e rfl
              simp
              omega
          · rintro e rfl
            simp
   · have c0 : bsR f s x y = [] ∧ bsC f s x y ≠ 0 := by
      by_cases h : j8k f s
      · simp only [bsR, bsC, j1e h]
        by_cases hb : bsOk f.length x y
        · have hm : ¬ maxL (solO f s) = 0 := fun hh => hgo ⟨h, hb, hh⟩
          simp [hb, hm]
        · simp [hb]
      · simp only [bsR, bsC, j2y h]; simp
     obtain ⟨e0, c0⟩ := c0
     rw [e0] at e1 e2
     have hlk := h141.o o1 o2 (by rw [e1]; simp)
     simp only [e1, e2] at hlk
     generalize bsC f s x y = cd at *
     generalize q0p false (fun f s => dec (prim f s)) f s = bl at *
     generalize q0p (1 : Int) (fun _ _ => 0) f s = cp at *
     rcases (by cases o1 with
      | none => exact Or.inl rfl
      | some l => simp only [j76] at e1; exact Or.inr (by rw [e1]) : o1 = none ∨ o1 = some []) with rfl | rfl <;>
     rcases (by cases o2 with
      | none => exact Or.inl rfl
      | some l => simp only [j76] at e2; exact Or.inr (by rw [e2]) : o2 = none ∨ o2 = some []) with rfl | rfl
     all_goals
      simp only [ownI, Rw.ofO, rawI] at hc1 hc2 hlk
      simp
      refine j0f hc1 rfl rfl (fun _ => by simp) ?_
      simp
      refine j0f hc2 rfl rfl (fun _ => by simp) ?_
      simp
      refine j0f hc3 rfl rfl (fun _ => rfl) ?_
      simp
      refine j0f hc4 rfl rfl (fun _ => rfl) ?_
      simp
      refine j0f hlk rfl rfl (fun _ => rfl) ?_
      simp [c0]
end Go.Mch
