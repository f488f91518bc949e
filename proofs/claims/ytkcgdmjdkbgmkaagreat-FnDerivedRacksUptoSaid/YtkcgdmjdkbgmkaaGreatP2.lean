/- Our texts YlC YlD YlE YlF YlG YlH YlI YgX YlK YlM YnA YnC YnK YgD YnG YnH YlV YlW YlX YlY YlN YmB YjB YmC YnB YnL YnE YnJ YnM, end to end. -/
import Derived.Test.YtkcgdmjdkbgmkaaGreatP1
import Derived.Test.YtkcgdmjdkbgmkaaGreatYeB
import Derived.Test.YtkcgdmjdkbgmkaaGreatM1
namespace Go.Mch
def imZ (t : List (List Int)) (p : List Int) (a b : Nat) : List (List Int) := tabL t.length fun x y => if invQ p x < a ∨ (invQ p x = a ∧ invQ p y < b) then imG t p x y else 0
@[simp] theorem imZ_length (t : List (List Int)) (p : List Int) (a b : Nat) : (imZ t p a b).length = t.length := by simp [imZ]
theorem imZ_row (t : List (List Int)) (p : List Int) (a b : Nat) {i : Nat} (h : i < (imZ t p a b).length) : (imZ t p a b)[i].length = t.length := tabL_row (by rw [← imZ]; exact List.getElem_mem h)
theorem imZ_next {t : List (List Int)} {p : List Int} (h : Pm p) (hl : p.length = t.length) (a : Nat) : imZ t p a t.length = imZ t p (a + 1) 0 := by
 apply tabL_congr
 intro x y hx hy
 have := h.lt (x := y) (by omega)
 have e : (invQ p x < a ∨ (invQ p x = a ∧ invQ p y < t.length)) ↔ (invQ p x < a + 1 ∨ (invQ p x = a + 1 ∧ invQ p y < 0)) := by omega
 simp only [e]
theorem imZ_last {t : List (List Int)} {p : List Int} (h : Pm p) (hl : p.length = t.length) : imZ t p t.length 0 = imT t p := by
 apply tabL_congr
 intro x y hx hy
 have := h.lt (x := x) (by omega)
 rw [if_pos (by omega)]
theorem imZ_set {t : List (List Int)} {p : List Int} (h : Pm p) (hl : p.length = t.length) {a b : Nat} (ha : a < p.length) (hb : b < p.length) {P Q : Nat} (hP : (p[a]).toNat = P) (hQ : (p[b]).toNat = Q) (hPl : P < (imZ t p a b).length) :
 (imZ t p a b).set P ((imZ t p a b)[P].set Q (p.getD (v2 t a b).toNat 0)) = imZ t p a (b + 1) := by
 have qP : invQ p P = a := hP ▸ h.back ha
 have qQ : invQ p Q = b := hQ ▸ h.back hb
 have hinj : ∀ x, x < p.length → invQ p x = a → x = P := fun x hx he => by
  have := h.at hx
  rw [he] at this
  simp [ha] at this
  omega
 have hinj2 : ∀ x, x < p.length → invQ p x = b → x = Q := fun x hx he => by
  have := h.at hx
  rw [he] at this
  simp [hb] at this
  omega
 apply List.ext_getElem
 · simp
 · intro i h1 h2
   have hi : i < t.length := by simpa using h2
   rw [List.getElem_set]
   by_cases hiP : P = i
   · subst hiP
     rw [if_pos rfl]
     apply List.ext_getElem
     · simp [imZ_row]
     · intro j h3 h4
       have hj : j < t.length := by simpa [imZ_row] using h4
       rw [List.getElem_set]
       simp only [imZ, tabL, List.getElem_map, List.getElem_range]
       by_cases hjQ : Q = j
       · subst hjQ
         rw [if_pos rfl, if_pos (by omega), imG, qP, qQ]
       · rw [if_neg hjQ]
         have : invQ p j ≠ b := fun he => hjQ (hinj2 j (by omega) he).symm
         have e : (invQ p P < a ∨ (invQ p P = a ∧ invQ p j < b)) ↔ (invQ p P < a ∨ (invQ p P = a ∧ invQ p j < b + 1)) := by omega
         simp only [e]
   · rw [if_neg hiP]
     have hne : invQ p i ≠ a := fun he => hiP (hinj i (by omega) he).symm
     simp only [imZ, tabL, List.getElem_map, List.getElem_range]
     refine List.map_congr_left fun j _ => ?_
     have e : (invQ p i < a ∨ (invQ p i = a ∧ invQ p j < b)) ↔ (invQ p i < a ∨ (invQ p i = a ∧ invQ p j < b + 1)) := by omega
     simp only [e]
def zTab (n k : Nat) : List (List Int) := (List.range k).map fun _ => List.replicate n 0
theorem imZ_zero (t : List (List Int)) (p : List Int) : imZ t p 0 0 = zTab t.length t.length := by
 unfold imZ zTab tabL
 refine List.map_congr_left fun x _ => ?_
 apply List.ext_getElem
 · simp
 · intro i h1 h2; simp
theorem imZ_setD {t : List (List Int)} {p : List Int} (h : Pm p) (hl : p.length = t.length) {a b : Nat} (ha : a < p.length) (hb : b < p.length) {P Q : Nat} (hP : (p[a]).toNat = P) (hQ : (p[b]).toNat = Q) :
 (imZ t p a b).set P (((imZ t p a b).getD P []).set Q (p.getD (v2 t a b).toNat 0)) = imZ t p a (b + 1) := by
 have ra := h.inL _ (List.getElem_mem ha)
 have hPl : P < (imZ t p a b).length := by rw [imZ_length]; omega
 have := imZ_set h hl ha hb hP hQ hPl
 rw [← this, List.getD_eq_getElem?_getD, List.getElem?_eq_getElem hPl]
 rfl
set_option maxRecDepth 10000 in
theorem t_rename {pg : Pg} (hp : pg.fn 367 = some c_spec_l01Rename) : S_image pg 367 := by
 intro t p ht h hl
 have h12 := h.sm
 have h0 := h.pos
 refine Call.intro hp rfl (by simp) ?_
 show wp _ _ c_spec_l01Rename.body (post [.t 4] _ _ _) _
 simp [c_spec_l01Rename]
 refine j0a (fun k e => e = fr [(0, some (.val (tb t))), (1, some (.val (ix p))), (5, some (.val (j0w (zTab t.length k)))), (6, some (.val (I k)))]) t.length ?_ ?_ 0 _ (by omega) ?_
 · rintro k e hk rfl
   have hz : (zTab t.length (k + 1)) = zTab t.length k ++ [List.replicate t.length 0] := by simp [zTab, List.range_succ]
   have hzl : (zTab t.length k).length = k := by simp [zTab]
   rw [hz]
   generalize zTab t.length k = Z at *
   simp [hk]
   exact ⟨by unfold roomy; omega, by unfold roomy; omega, by omega, by simp only [j0w, ownL, rows_snoc, List.map_replicate]⟩
 · rintro e rfl
   rw [← imZ_zero t p]
   simp
   refine j0a (fun a e => e = fr [(0, some (.val (tb t))), (1, some (.val (ix p))), (5, some (.val (j0w (imZ t p a 0)))), (7, some (.val (I a)))]) t.length ?_ ?_ 0 _ (by omega) ?_
   · rintro a e ha rfl
     rw [← imZ_next h hl a]
     have hap : a < p.length := by omega
     have ra := h.inL _ (List.getElem_mem hap)
     have hXl := imZ_length t p a 0
     have hXr := fun {i : Nat} hi => imZ_row t p a 0 (i := i) hi
     obtain ⟨P, hP⟩ : ∃ P, p[a] = P := ⟨_, rfl⟩
     rw [hP] at ra
     obtain ⟨P, rfl⟩ : ∃ P' : Nat, P = P' := ⟨P.toNat, by omega⟩
     have hPX : P < (imZ t p a 0).length := by omega
     have hr := hXr hPX
     have hPt : P < t.length := by omega
     have hgr : (rows (imZ t p a 0))[P]? = some (ownL (imZ t p a 0)[P]) := by rw [rows_get, List.getElem?_eq_getElem hPX]; rfl
     simp [ha, hap, hP, hPt, hr]
     refine j0a (fun b e => e = fr [(0, some (.val (tb t))), (1, some (.val (ix p))), (5, some (.val (j0w (imZ t p a b)))), (7, some (.val (I a))), (8, some (.sref 5 [P] 1 0 t.length)), (9, some (.val (I b)))]) t.length ?_ ?_ 0 _ (by omega) rfl
     · rintro b e hb rfl
       have hbp : b < p.length := by omega
       have rb := h.inL _ (List.getElem_mem hbp)
       have hXl := imZ_length t p a b
       have hXr := fun {i : Nat} hi => imZ_row t p a b (i := i) hi
       obtain ⟨Q, hQ⟩ : ∃ Q, p[b] = Q := ⟨_, rfl⟩
       rw [hQ] at rb
       obtain ⟨Q, rfl⟩ : ∃ Q' : Nat, Q = Q' := ⟨Q.toNat, by omega⟩
       have hset := imZ_setD h hl hap hbp (P := P) (Q := Q) (by rw [hP]; simp) (by rw [hQ]; simp)
       have hrow := ht.row ha
       have hbr : b < (t[a]).length := by rw [hrow]; exact hb
       have hv := get_v2 ha hbr
       have hv1 := ht.nonneg a b
       have hv2 := ht.lt (by omega) a b
       rw [← hset]
       clear hset
       generalize v2 t a b = v at *
       have hvl : v.toNat < p.length := by omega
       have hvl2 : v < p.length := by omega
       have hg : p[v.toNat] = p.getD v.toNat 0 := by simp [hvl]
       generalize p.getD v.toNat 0 = w at *
       clear hgr hr
       generalize imZ t p a b = X at *
       have hPX' : P < X.length := by omega
       have hr := hXr hPX'
       have hXg : X.getD P [] = X[P] := by simp [hPX']
       rw [hXg]
       have hQX : Q < (X[P]).length := by omega
       have hQt : (Q : Int) < t.length := by omega
       have hQt2 : Q < t.length := by omega
       have hgr : (rows X)[P]? = some (ownL X[P]) := by rw [rows_get, List.getElem?_eq_getElem hPX']; rfl
       simp [ha, hb, hbp, hQ, hrow, hv, hvl, hvl2, hv1, hg, hPX', hQX, hQt]
       exact ⟨by omega, by omega, by simp only [j0w, ← rows_set2 hPX']⟩
     · rintro e rfl
       simp
       omega
   · rintro e rfl
     rw [imZ_last h hl]
     simp
   · simp
 · simp only [zTab, j0w, rows, List.range_zero, List.map_nil]; rfl
def S_renS (pg : Pg) : Prop := ∀ (f s : List (List Int)) (p : List Int), Tab f → Tab s → Pm p → p.length = f.length → p.length = s.length → Call pg 422 [sol f s, ix p] [sol f s, ix p] (.agg [j0w (imT f p), j0w (imT s p)])
set_option maxRecDepth 10000 in
theorem t_renS {pg : Pg} (hp : pg.fn 422 = some c_spec_l02Rename) (h367 : S_image pg 367) : S_renS pg := by
 intro f s p hf hs h hl hl2
 refine Call.intro hp rfl (by simp) ?_
 show wp _ _ c_spec_l02Rename.body (post [.cell 4 (some 2)] _ _ _) _
 simp [c_spec_l02Rename]
 refine j0i (h367 f p hf h hl) rfl rfl (fun _ => by simp) ?_
 simp
 refine j0i (h367 s p hs h hl2) rfl rfl (fun _ => by simp) ?_
 simp
theorem imT_tabN {n : Nat} {t : List (List Int)} {p : List Int} (ht : TabN n t) (hp : Pm p) (hl : p.length = n) : TabN n (imT t p) := by
 have h1 : Tab t := fun r hr => ⟨by rw [(ht.2 r hr).1, ht.1], fun v hv => by rw [ht.1]; exact (ht.2 r hr).2 v hv⟩
 refine ⟨by rw [imT, tabL_length]; exact ht.1, fun r hr => ⟨by rw [tabL_row hr]; exact ht.1, fun v hv => ?_⟩⟩
 obtain ⟨x, hx, rfl⟩ := List.mem_map.1 hr
 obtain ⟨y, hy, rfl⟩ := List.mem_map.1 hv
 simp only [List.mem_range] at hx hy
 have hpos := hp.pos
 have a1 := h1.nonneg (invQ p x) (invQ p y)
 have a2 := h1.lt (by rw [ht.1]; omega) (invQ p x) (invQ p y)
 have a3 : (v2 t (invQ p x) (invQ p y)).toNat < p.length := by rw [ht.1] at a2; omega
 have a4 := hp.inL _ (List.getElem_mem a3)
 simp only [imG, List.getD_eq_getElem?_getD, List.getElem?_eq_getElem a3, Option.getD_some]
 omega

def PMN (n : Nat) (f s : List (List Int)) : Prop := TabN n f ∧ TabN n s
abbrev ownS (X : List (List Int) × List (List Int)) : T := .agg [j0w X.1, j0w X.2]
def ownN2 (X : List (List Int)) : T := if X = [] then nil else j0w X
@[simp] theorem ownN2_nil : ownN2 [] = nil := rfl
theorem one_row {n : Nat} {a : List Int} (h : RowIn n a) : ∀ x ∈ [a], RowIn n x := fun x hx => by rw [List.mem_singleton.1 hx]; exact h
theorem snoc_in {n : Nat} {a : List Int} {x : Int} (h : ∀ v ∈ a, 0 ≤ v ∧ v < n) (hx : 0 ≤ x ∧ x < n) : ∀ v ∈ a ++ [x], 0 ≤ v ∧ v < n := fun v hv => by
 rcases List.mem_append.1 hv with h1 | h1
 · exact h v h1
 · rw [List.mem_singleton.1 h1]; exact hx
theorem ownN2_ne {X : List (List Int)} {k : Nat} (h : X.length = k) (hk : 0 < k) : ownN2 X = j0w X := if_neg fun h0 => by rw [h0] at h; simp at h; omega
theorem ownN2_snoc (X : List (List Int)) (r : List Int) : ownN2 (X ++ [r]) = .mem .own (some 1) (rows X ++ [ownL r]) := by
 rw [ownN2, if_neg (by simp), j0w, rows_snoc]
def S_poly (pg : Pg) : Prop := ∀ n : Nat, 0 < n → n ≤ 64 → ∃ X : List (List Int) × List (List Int), PMN n X.1 X.2 ∧ Call pg 423 [I n] [I n] (ownS X)
set_option maxRecDepth 10000 in
theorem t_poly {pg : Pg} (hp : pg.fn 423 = some c_spec_l02Polygon) : S_poly pg := by
 intro n h0 hn
 refine Call.find hp rfl (by simp) ?_
 show wp _ _ c_spec_l02Polygon.body _ _
 generalize hR : (fun (x : X) (e : Env) => ∃ l : List (List Int) × List (List Int), PMN n l.1 l.2 ∧ post c_spec_l02Polygon.rs [I n] [I n] (ownS l) x e) = R
 simp [c_spec_l02Polygon]
 refine j0a (fun k e => ∃ f s : List (List Int), ((f.length = k ∧ ∀ r ∈ f, RowIn n r) ∧ s.length = k ∧ ∀ r ∈ s, RowIn n r) ∧ e = fr [(0, some (.val (I n))), (2, some (.val (.mem .own none [nil, nil]))), (3, some (.val (.mem .own none [ownN2 f, ownN2 s]))), (4, some (.val (I k)))]) n ?_ ?_ 0 _ (by omega) ⟨[], [], ⟨⟨rfl, by simp⟩, rfl, by simp⟩, rfl⟩
 · rintro k e hk ⟨f, s, ⟨⟨g1, g2⟩, g3, g4⟩, rfl⟩
   simp [hk]
   refine j0a (fun j e => ∃ a b : List Int, ((a.length = j ∧ ∀ v ∈ a, 0 ≤ v ∧ v < n) ∧ b.length = j ∧ ∀ v ∈ b, 0 ≤ v ∧ v < n) ∧ e = fr [(0, some (.val (I n))), (2, some (.val (.mem .own none [nil, nil]))), (3, some (.val (.mem .own none [ownN2 f, ownN2 s]))), (4, some (.val (I k))), (5, some (.val (ownL a))), (6, some (.val (ownL b))), (7, some (.val (I j)))]) n ?_ ?_ 0 _ (by omega) ⟨[], [], ⟨⟨rfl, by simp⟩, rfl, by simp⟩, rfl⟩
   · rintro j e hj ⟨a, b, ⟨⟨i1, i2⟩, i3, i4⟩, rfl⟩
     obtain ⟨m, hm, hm2⟩ : ∃ m : Nat, ((2 : Int) * k - j + n).tmod n = m ∧ m < n := by
      have h1 : 0 ≤ (2 : Int) * k - j + n := by omega
      refine ⟨((2 : Int) * k - j + n).toNat % n, ?_, Nat.mod_lt _ h0⟩
      rw [Int.tmod_eq_emod_of_nonneg h1, Int.natCast_emod, Int.toNat_of_nonneg h1]
     have hn0 : ¬ n = 0 := by omega
     simp [hj, hm, hn0]
     exact ⟨by omega, by omega, by omega, by unfold roomy; omega, by unfold roomy; omega, by omega, a ++ [(m : Int)], b ++ [(k : Int)], ⟨⟨by simp [i1], snoc_in i2 (by omega)⟩, by simp [i3], snoc_in i4 (by omega)⟩, by simp only [ownL, List.map_append, List.map_cons, List.map_nil]⟩
   · rintro e ⟨a, b, ⟨⟨i1, i2⟩, i3, i4⟩, rfl⟩
     by_cases hk0 : k = 0
     · subst hk0
       obtain rfl : f = [] := List.length_eq_zero_iff.1 g1
       obtain rfl : s = [] := List.length_eq_zero_iff.1 g3
       simp
       exact ⟨by unfold roomy; omega, [a], [b], ⟨⟨rfl, one_row ⟨i1, i2⟩⟩, rfl, one_row ⟨i3, i4⟩⟩, rfl⟩
     · rw [ownN2_ne g1 (by omega), ownN2_ne g3 (by omega)]
       simp
       exact ⟨by unfold roomy; omega, by unfold roomy; omega, by omega, f ++ [a], s ++ [b], ⟨TabN.snoc ⟨g1, g2⟩ ⟨i1, i2⟩, TabN.snoc ⟨g3, g4⟩ ⟨i3, i4⟩⟩, by simp only [ownN2_snoc]⟩
 · rintro e ⟨f, s, ⟨⟨g1, g2⟩, g3, g4⟩, rfl⟩
   have hf : ownN2 f = j0w f := if_neg fun h => by rw [h] at g1; simp at g1; omega
   have hs : ownN2 s = j0w s := if_neg fun h => by rw [h] at g3; simp at g3; omega
   rw [hf, hs]
   simp
   subst hR
   exact ⟨(f, s), ⟨⟨g1, g2⟩, g3, g4⟩, by simp [post, c_spec_l02Polygon]⟩
end Go.Mch
namespace Go.Mch
def S_twst (pg : Pg) : Prop := ∀ (n : Nat) (p q : List Int), 0 < n → n ≤ 64 → RowIn n p → RowIn n q → ∃ X : List (List Int) × List (List Int), (PMN n X.1 X.2 ∧ ∀ r ∈ X.1, r = p) ∧ Call pg 425 [ix p, ix q] [ix p, ix q] (ownS X)
set_option maxRecDepth 10000 in
theorem t_twst {pg : Pg} (hp : pg.fn 425 = some c_spec_l02Twist) (h31 : S_own pg) : S_twst pg := by
 intro n p q h0 hn hP hQ
 have hpl := hP.1
 have hql := hQ.1
 refine Call.find hp rfl (by simp) ?_
 show wp _ _ c_spec_l02Twist.body _ _
 generalize hR : (fun (x : X) (e : Env) => ∃ l : List (List Int) × List (List Int), (PMN n l.1 l.2 ∧ ∀ r ∈ l.1, r = p) ∧ post c_spec_l02Twist.rs [ix p, ix q] [ix p, ix q] (ownS l) x e) = R
 simp [c_spec_l02Twist]
 refine j0a (fun k e => ∃ f s : List (List Int), ((f.length = k ∧ ∀ r ∈ f, r = p) ∧ s.length = k ∧ ∀ r ∈ s, RowIn n r) ∧ e = fr [(0, some (.val (ix p))), (1, some (.val (ix q))), (4, some (.val (.mem .own none [nil, nil]))), (5, some (.val (.mem .own none [ownN2 f, ownN2 s]))), (6, some (.val (I k)))]) n ?_ ?_ 0 _ (by omega) ⟨[], [], ⟨⟨rfl, by simp⟩, rfl, by simp⟩, rfl⟩
 · rintro k e hk ⟨f, s, ⟨⟨g1, g2⟩, g3, g4⟩, rfl⟩
   have hkq : k < q.length := by omega
   have hv := hQ.2 _ (List.getElem_mem hkq)
   simp [hk, hpl]
   refine j0a (fun j e => ∃ b : List Int, (b.length = j ∧ ∀ v ∈ b, 0 ≤ v ∧ v < n) ∧ e = fr [(0, some (.val (ix p))), (1, some (.val (ix q))), (4, some (.val (.mem .own none [nil, nil]))), (5, some (.val (.mem .own none [ownN2 f, ownN2 s]))), (6, some (.val (I k))), (7, some (.val (ownL b))), (8, some (.val (I j)))]) n ?_ ?_ 0 _ (by omega) ⟨[], ⟨rfl, by simp⟩, rfl⟩
   · rintro j e hj ⟨b, ⟨i3, i4⟩, rfl⟩
     simp [hj, hpl, hql, hk]
     exact ⟨by unfold roomy; omega, by omega, b ++ [q[k]], ⟨by simp [i3], snoc_in i4 hv⟩, by simp only [ownL, List.map_append, List.map_cons, List.map_nil]⟩
   · rintro e ⟨b, ⟨i3, i4⟩, rfl⟩
     by_cases hk0 : k = 0
     · subst hk0
       obtain rfl : f = [] := List.length_eq_zero_iff.1 g1
       obtain rfl : s = [] := List.length_eq_zero_iff.1 g3
       simp [hpl]
       refine j0i (h31 p (by omega)) rfl rfl (fun _ => by simp) ?_
       simp
       exact ⟨by unfold roomy; omega, [p], [b], ⟨⟨rfl, by simp⟩, rfl, one_row ⟨i3, i4⟩⟩, rfl⟩
     · rw [ownN2_ne g1 (by omega), ownN2_ne g3 (by omega)]
       simp [hpl]
       refine j0i (h31 p (by omega)) rfl rfl (fun _ => by simp) ?_
       simp
       exact ⟨by unfold roomy; omega, by unfold roomy; omega, by omega, f ++ [p], s ++ [b], ⟨⟨by simp [g1], fun r hr => by
        rcases List.mem_append.1 hr with h1 | h1
        · exact g2 r h1
        · exact List.mem_singleton.1 h1⟩, TabN.snoc ⟨g3, g4⟩ ⟨i3, i4⟩⟩, by simp only [ownN2_snoc]⟩
 · rintro e ⟨f, s, ⟨⟨g1, g2⟩, g3, g4⟩, rfl⟩
   rw [ownN2_ne g1 h0, ownN2_ne g3 h0]
   simp [hpl]
   subst hR
   exact ⟨(f, s), ⟨⟨⟨g1, fun r hr => by rw [g2 r hr]; exact hP⟩, g3, g4⟩, g2⟩, by simp [post, c_spec_l02Twist]⟩
def S_flp (pg : Pg) : Prop := ∀ n : Nat, 0 < n → n ≤ 64 → ∃ X : List (List Int) × List (List Int), (PMN n X.1 X.2 ∧ ∀ r ∈ X.1, r = idL n) ∧ Call pg 449 [I n] [I n] (ownS X)
theorem t_flp {pg : Pg} (hp : pg.fn 449 = some c_spec_l02Flip) (h334 : S_unit pg) (h425 : S_twst pg) : S_flp pg := by
 intro n h0 hn
 obtain ⟨X, hX, hc⟩ := h425 n (idL n) (idL n) h0 hn (idL_rowIn n).1 (idL_rowIn n).1
 refine ⟨X, hX, Call.intro hp rfl (by simp) ?_⟩
 show wp _ _ c_spec_l02Flip.body (post [.cell 2 (some 2)] _ _ _) _
 simp [c_spec_l02Flip]
 refine j0i (h334 n (by omega)) rfl rfl (fun _ => by simp) ?_
 simp
 refine j0i hc rfl rfl (fun _ => by simp) ?_
 simp
theorem tdivN (a m : Nat) : ((a : Int)).tdiv m = ((a / m : Nat) : Int) := by rw [Int.tdiv_eq_ediv_of_nonneg (by omega), Int.natCast_ediv]
theorem tmodN (a m : Nat) : ((a : Int)).tmod m = ((a % m : Nat) : Int) := by rw [Int.tmod_eq_emod_of_nonneg (by omega), Int.natCast_emod]
theorem TabN.at {n : Nat} {t : List (List Int)} (h : TabN n t) {i j : Nat} (hi : i < n) (hj : j < n) : ∃ (h1 : i < t.length) (h2 : j < (t[i]).length), (t[i]).length = n ∧ 0 ≤ (t[i])[j] ∧ (t[i])[j] < n := by
 have h1 : i < t.length := by rw [h.1]; exact hi
 have h2 := h.2 _ (List.getElem_mem h1)
 have h3 : j < (t[i]).length := by rw [h2.1]; exact hj
 exact ⟨h1, h3, h2.1, h2.2 _ (List.getElem_mem h3)⟩
theorem mul_lt {n m : Nat} {x y : Int} (h0 : 0 ≤ x) (h1 : x < n) (h2 : 0 ≤ y) (h3 : y < m) (hn : n * m ≤ 64) : 0 ≤ x * m + y ∧ x * m + y < (n * m : Nat) ∧ 0 ≤ x * m ∧ x * m ≤ 64 := by
 obtain ⟨x, rfl⟩ : ∃ x' : Nat, x = x' := ⟨x.toNat, by omega⟩
 obtain ⟨y, rfl⟩ : ∃ y' : Nat, y = y' := ⟨y.toNat, by omega⟩
 have h4 : (x + 1) * m ≤ n * m := Nat.mul_le_mul_right m (by omega)
 have h5 : (x + 1) * m = x * m + m := Nat.succ_mul x m
 have h6 : ((x * m : Nat) : Int) = (x : Int) * m := by simp
 omega
def S_prd (pg : Pg) : Prop := ∀ (n m : Nat) (f s f' s' : List (List Int)), 0 < n → 0 < m → n * m ≤ 64 → PMN n f s → PMN m f' s' → ∃ X : List (List Int) × List (List Int), PMN (n * m) X.1 X.2 ∧ Call pg 458 [sol f s, sol f' s'] [sol f s, sol f' s'] (ownS X)
set_option maxRecDepth 10000 in
theorem t_prd {pg : Pg} (hp : pg.fn 458 = some c_spec_l02Product) : S_prd pg := by
 intro n m f s f' s' hn0 hm0 hnm hA hB
 have hfl := hA.1.1
 have hsl := hA.2.1
 have hfl' := hB.1.1
 have hsl' := hB.2.1
 have hN : 0 < n * m := Nat.mul_pos hn0 hm0
 obtain ⟨N, hNe⟩ : ∃ N, N = n * m := ⟨_, rfl⟩
 have hNi : (n : Int) * m = N := by rw [hNe]; simp
 have hnl : n ≤ N := by rw [hNe]; exact Nat.le_mul_of_pos_right n hm0
 have hml : m ≤ N := by rw [hNe]; exact Nat.le_mul_of_pos_left m hn0
 rw [← hNe] at hN hnm ⊢
 have hdv : ∀ a, a < N → a / m < n := fun a ha => by rw [hNe, Nat.mul_comm] at ha; exact Nat.div_lt_of_lt_mul ha
 have hmd : ∀ a, a % m < m := fun a => Nat.mod_lt _ hm0
 have hm0' : ¬ (m : Int) = 0 := by omega
 have hm0'' : ¬ m = 0 := by omega
 refine Call.find hp rfl (by simp) ?_
 show wp _ _ c_spec_l02Product.body _ _
 generalize hR : (fun (x : X) (e : Env) => ∃ l : List (List Int) × List (List Int), PMN N l.1 l.2 ∧ post c_spec_l02Product.rs [sol f s, sol f' s'] [sol f s, sol f' s'] (ownS l) x e) = R
 simp [c_spec_l02Product]
 refine j0a (fun k e => ∃ F S : List (List Int), ((F.length = k ∧ ∀ r ∈ F, RowIn N r) ∧ S.length = k ∧ ∀ r ∈ S, RowIn N r) ∧ e = fr [(2, some (.val (.mem .own none [tb f, tb s]))), (3, some (.val (.mem .own none [tb f', tb s']))), (4, some (.val (.mem .own none [nil, nil]))), (5, some (.val (I n))), (6, some (.val (I m))), (7, some (.val (.mem .own none [ownN2 F, ownN2 S]))), (8, some (.val (I k)))]) N ?_ ?_ 0 _ (by omega) ⟨[], [], ⟨⟨rfl, by simp⟩, rfl, by simp⟩, by simp [hfl, hfl']⟩
 · rintro k e hk ⟨F, S, ⟨⟨g1, g2⟩, g3, g4⟩, rfl⟩
   simp [hk, hNi]
   refine ⟨by omega, ?_⟩
   refine j0a (fun j e => ∃ a b : List Int, ((a.length = j ∧ ∀ v ∈ a, 0 ≤ v ∧ v < N) ∧ b.length = j ∧ ∀ v ∈ b, 0 ≤ v ∧ v < N) ∧ e = fr [(2, some (.val (.mem .own none [tb f, tb s]))), (3, some (.val (.mem .own none [tb f', tb s']))), (4, some (.val (.mem .own none [nil, nil]))), (5, some (.val (I n))), (6, some (.val (I m))), (7, some (.val (.mem .own none [ownN2 F, ownN2 S]))), (8, some (.val (I k))), (9, some (.val (ownL a))), (10, some (.val (ownL b))), (11, some (.val (I j)))]) N ?_ ?_ 0 _ (by omega) ⟨[], [], ⟨⟨rfl, by simp⟩, rfl, by simp⟩, rfl⟩
   · rintro j e hj ⟨a, b, ⟨⟨i1, i2⟩, i3, i4⟩, rfl⟩
     have q1 := hdv k hk
     have q2 := hdv j hj
     have r1 := hmd k
     have r2 := hmd j
     have d1 := tdivN k m
     have d2 := tdivN j m
     have d3 := tmodN k m
     have d4 := tmodN j m
     generalize k / m = A at *
     generalize j / m = B at *
     generalize k % m = C at *
     generalize j % m = D at *
     obtain ⟨u1, u2, u3, u4, u5⟩ := hA.1.at q1 q2
     obtain ⟨v1, v2, v3, v4, v5⟩ := hA.2.at q1 q2
     obtain ⟨x1, x2, x3, x4, x5⟩ := hB.1.at r1 r2
     obtain ⟨y1, y2, y3, y4, y5⟩ := hB.2.at r1 r2
     have m1 := mul_lt u4 u5 x4 x5 (by omega)
     have m2 := mul_lt v4 v5 y4 y5 (by omega)
     rw [← hNe] at m1 m2
     simp [hj, hNi, d1, d2, d3, d4, hm0'', q1, q2, r1, r2, hfl, hsl, hfl', hsl', u3, v3, x3, y3]
     exact ⟨by omega, by omega, by omega, by omega, by omega, by unfold roomy; omega, by omega, by omega, by omega, by omega, by unfold roomy; omega, by omega, a ++ [f[A][B] * m + f'[C][D]], b ++ [s[A][B] * m + s'[C][D]], ⟨⟨by simp [i1], snoc_in i2 (by omega)⟩, by simp [i3], snoc_in i4 (by omega)⟩, by simp only [ownL, List.map_append, List.map_cons, List.map_nil]⟩
   · rintro e ⟨a, b, ⟨⟨i1, i2⟩, i3, i4⟩, rfl⟩
     by_cases hk0 : k = 0
     · subst hk0
       obtain rfl : F = [] := List.length_eq_zero_iff.1 g1
       obtain rfl : S = [] := List.length_eq_zero_iff.1 g3
       simp [hNi]
       exact ⟨by omega, by unfold roomy; omega, [a], [b], ⟨⟨rfl, one_row ⟨i1, i2⟩⟩, rfl, one_row ⟨i3, i4⟩⟩, rfl⟩
     · rw [ownN2_ne g1 (by omega), ownN2_ne g3 (by omega)]
       simp [hNi]
       exact ⟨by omega, by unfold roomy; omega, by unfold roomy; omega, by omega, F ++ [a], S ++ [b], ⟨TabN.snoc ⟨g1, g2⟩ ⟨i1, i2⟩, TabN.snoc ⟨g3, g4⟩ ⟨i3, i4⟩⟩, by simp only [ownN2_snoc]⟩
 · rintro e ⟨F, S, ⟨⟨g1, g2⟩, g3, g4⟩, rfl⟩
   rw [ownN2_ne g1 hN, ownN2_ne g3 hN]
   simp [hNi]
   refine ⟨by omega, ?_⟩
   subst hR
   exact ⟨(F, S), ⟨⟨g1, g2⟩, g3, g4⟩, by simp [post, c_spec_l02Product]⟩
def S_uni (pg : Pg) : Prop := ∀ (n m : Nat) (f s f' s' : List (List Int)), 0 < n → 0 < m → n + m ≤ 64 → PMN n f s → PMN m f' s' → ∃ X : List (List Int) × List (List Int), PMN (n + m) X.1 X.2 ∧ Call pg 460 [sol f s, sol f' s'] [sol f s, sol f' s'] (ownS X)
set_option maxRecDepth 10000 in
theorem t_uni {pg : Pg} (hp : pg.fn 460 = some c_spec_l02Union) : S_uni pg := by
 intro n m f s f' s' hn0 hm0 hnm hA hB
 have hfl := hA.1.1
 have hsl := hA.2.1
 have hfl' := hB.1.1
 have hsl' := hB.2.1
 obtain ⟨N, hNe⟩ : ∃ N, N = n + m := ⟨_, rfl⟩
 have hNi : (n : Int) + m = N := by rw [hNe]; simp
 rw [← hNe] at hnm ⊢
 have hN : 0 < N := by omega
 refine Call.find hp rfl (by simp) ?_
 show wp _ _ c_spec_l02Union.body _ _
 generalize hR : (fun (x : X) (e : Env) => ∃ l : List (List Int) × List (List Int), PMN N l.1 l.2 ∧ post c_spec_l02Union.rs [sol f s, sol f' s'] [sol f s, sol f' s'] (ownS l) x e) = R
 simp [c_spec_l02Union]
 refine j0a (fun k e => ∃ F S : List (List Int), ((F.length = k ∧ ∀ r ∈ F, RowIn N r) ∧ S.length = k ∧ ∀ r ∈ S, RowIn N r) ∧ e = fr [(2, some (.val (.mem .own none [tb f, tb s]))), (3, some (.val (.mem .own none [tb f', tb s']))), (4, some (.val (.mem .own none [nil, nil]))), (5, some (.val (I n))), (6, some (.val (I m))), (7, some (.val (.mem .own none [ownN2 F, ownN2 S]))), (8, some (.val (I k)))]) N ?_ ?_ 0 _ (by omega) ⟨[], [], ⟨⟨rfl, by simp⟩, rfl, by simp⟩, by simp [hfl, hfl']⟩
 · rintro k e hk ⟨F, S, ⟨⟨g1, g2⟩, g3, g4⟩, rfl⟩
   simp [hk, hNi]
   refine ⟨by omega, ?_⟩
   refine j0a (fun j e => ∃ a b : List Int, ((a.length = j ∧ ∀ v ∈ a, 0 ≤ v ∧ v < N) ∧ b.length = j ∧ ∀ v ∈ b, 0 ≤ v ∧ v < N) ∧ e = fr [(2, some (.val (.mem .own none [tb f, tb s]))), (3, some (.val (.mem .own none [tb f', tb s']))), (4, some (.val (.mem .own none [nil, nil]))), (5, some (.val (I n))), (6, some (.val (I m))), (7, some (.val (.mem .own none [ownN2 F, ownN2 S]))), (8, some (.val (I k))), (9, some (.val (ownL a))), (10, some (.val (ownL b))), (11, some (.val (I j)))]) N ?_ ?_ 0 _ (by omega) ⟨[], [], ⟨⟨rfl, by simp⟩, rfl, by simp⟩, rfl⟩
   · rintro j e hj ⟨a, b, ⟨⟨i1, i2⟩, i3, i4⟩, rfl⟩
     by_cases ck : k < n
     · by_cases cj : j < n
       · obtain ⟨u1, u2, u3, u4, u5⟩ := hA.1.at ck cj
         obtain ⟨v1, v2, v3, v4, v5⟩ := hA.2.at ck cj
         simp [hj, hNi, ck, cj, hfl, hsl, u3, v3]
         exact ⟨by omega, by unfold roomy; omega, by unfold roomy; omega, by omega, a ++ [f[k][j]], b ++ [s[k][j]], ⟨⟨by simp [i1], snoc_in i2 (by omega)⟩, by simp [i3], snoc_in i4 (by omega)⟩, by simp only [ownL, List.map_append, List.map_cons, List.map_nil]⟩
       · have ck' : ¬ n ≤ k := by omega
         simp [hj, hNi, ck, cj, ck', j0x]
         exact ⟨by omega, by unfold roomy; omega, by unfold roomy; omega, by omega, a ++ [(j : Int)], b ++ [(k : Int)], ⟨⟨by simp [i1], snoc_in i2 (by omega)⟩, by simp [i3], snoc_in i4 (by omega)⟩, by simp only [ownL, List.map_append, List.map_cons, List.map_nil]⟩
     · have ck' : n ≤ k := by omega
       by_cases cj : n ≤ j
       · obtain ⟨A, hAk⟩ : ∃ A : Nat, (k : Int) - n = A := ⟨k - n, by omega⟩
         obtain ⟨B, hBj⟩ : ∃ B : Nat, (j : Int) - n = B := ⟨j - n, by omega⟩
         have cA : A < m := by omega
         have cB : B < m := by omega
         obtain ⟨u1, u2, u3, u4, u5⟩ := hB.1.at cA cB
         obtain ⟨v1, v2, v3, v4, v5⟩ := hB.2.at cA cB
         simp [hj, hNi, ck, ck', cj, cA, cB, hfl', hsl', u3, v3, hAk, hBj, j0x]
         exact ⟨by omega, by omega, by omega, by omega, by unfold roomy; omega, by omega, by omega, by omega, by unfold roomy; omega, by omega, a ++ [f'[A][B] + n], b ++ [s'[A][B] + n], ⟨⟨by simp [i1], snoc_in i2 (by omega)⟩, by simp [i3], snoc_in i4 (by omega)⟩, by simp only [ownL, List.map_append, List.map_cons, List.map_nil]⟩
       · simp [hj, hNi, ck, cj, ck', j0x]
         exact ⟨by omega, by unfold roomy; omega, by unfold roomy; omega, by omega, a ++ [(j : Int)], b ++ [(k : Int)], ⟨⟨by simp [i1], snoc_in i2 (by omega)⟩, by simp [i3], snoc_in i4 (by omega)⟩, by simp only [ownL, List.map_append, List.map_cons, List.map_nil]⟩
   · rintro e ⟨a, b, ⟨⟨i1, i2⟩, i3, i4⟩, rfl⟩
     by_cases hk0 : k = 0
     · subst hk0
       obtain rfl : F = [] := List.length_eq_zero_iff.1 g1
       obtain rfl : S = [] := List.length_eq_zero_iff.1 g3
       simp [hNi]
       exact ⟨by omega, by unfold roomy; omega, [a], [b], ⟨⟨rfl, one_row ⟨i1, i2⟩⟩, rfl, one_row ⟨i3, i4⟩⟩, rfl⟩
     · rw [ownN2_ne g1 (by omega), ownN2_ne g3 (by omega)]
       simp [hNi]
       exact ⟨by omega, by unfold roomy; omega, by unfold roomy; omega, by omega, F ++ [a], S ++ [b], ⟨TabN.snoc ⟨g1, g2⟩ ⟨i1, i2⟩, TabN.snoc ⟨g3, g4⟩ ⟨i3, i4⟩⟩, by simp only [ownN2_snoc]⟩
 · rintro e ⟨F, S, ⟨⟨g1, g2⟩, g3, g4⟩, rfl⟩
   rw [ownN2_ne g1 hN, ownN2_ne g3 hN]
   simp [hNi]
   refine ⟨by omega, ?_⟩
   subst hR
   exact ⟨(F, S), ⟨⟨g1, g2⟩, g3, g4⟩, by simp [post, c_spec_l02Union]⟩
end Go.Mch
namespace Go.Mch
theorem zeroT_tabN {n : Nat} (h : 0 < n) : TabN n (zeroT n n) := by
 refine ⟨by simp [zeroT], fun r hr => ?_⟩
 simp only [zeroT, List.mem_replicate] at hr
 rw [hr.2]
 refine ⟨by simp, fun v hv => ?_⟩
 simp only [List.mem_replicate] at hv
 omega
theorem TabN.set2 {n i j : Nat} {t : List (List Int)} {v : Int} (h : TabN n t) (hi : i < t.length) (hv : 0 ≤ v ∧ v < n) : TabN n (t.set i (t[i].set j v)) := by
 refine ⟨by simpa using h.1, fun x hx => ?_⟩
 rcases List.mem_or_eq_of_mem_set hx with h1 | h1
 · exact h.2 x h1
 · rw [h1]; exact (h.2 _ (List.getElem_mem hi)).set hv
def S_invW (pg : Pg) : Prop := ∀ (n : Nat) (f s : List (List Int)), 0 < n → n ≤ 64 → PMN n f s → ∃ X : List (List Int) × List (List Int), PMN n X.1 X.2 ∧ Call pg 406 [sol f s] [sol f s] (ownS X)
set_option maxRecDepth 10000 in
theorem t_invW {pg : Pg} (hp : pg.fn 406 = some c_spec_l02Inverse) (h398 : S_empty pg) : S_invW pg := by
 intro n f s h0 hn hA
 have hfl := hA.1.1
 have hsl := hA.2.1
 refine Call.find hp rfl (by simp) ?_
 show wp _ _ c_spec_l02Inverse.body _ _
 generalize hR : (fun (x : X) (e : Env) => ∃ l : List (List Int) × List (List Int), PMN n l.1 l.2 ∧ post c_spec_l02Inverse.rs [sol f s] [sol f s] (ownS l) x e) = R
 simp [c_spec_l02Inverse]
 rw [hfl]
 refine j0i (h398 n h0 (by omega)) rfl rfl (fun _ => by simp) ?_
 simp
 refine j0a (fun a e => ∃ F S : List (List Int), PMN n F S ∧ e = fr [(1, some (.val (.mem .own none [tb f, tb s]))), (2, some (.val (.mem .own none [nil, nil]))), (3, some (.val (I n))), (4, some (.val (.mem .own none [j0w F, j0w S]))), (5, some (.val (I a)))]) n ?_ ?_ 0 _ (by omega) ⟨zeroT n n, zeroT n n, ⟨zeroT_tabN h0, zeroT_tabN h0⟩, rfl⟩
 · rintro a e ha ⟨F, S, hX, rfl⟩
   simp [ha]
   refine j0a (fun b e => ∃ F S : List (List Int), PMN n F S ∧ e = fr [(1, some (.val (.mem .own none [tb f, tb s]))), (2, some (.val (.mem .own none [nil, nil]))), (3, some (.val (I n))), (4, some (.val (.mem .own none [j0w F, j0w S]))), (5, some (.val (I a))), (6, some (.val (I b)))]) n ?_ ?_ 0 _ (by omega) ⟨F, S, hX, by simp⟩
   · rintro b e hb ⟨F, S, hX, rfl⟩
     obtain ⟨u1, u2, u3, u4, u5⟩ := hA.1.at ha hb
     obtain ⟨v1, v2, v3, v4, v5⟩ := hA.2.at ha hb
     obtain ⟨P, hP⟩ : ∃ P : Nat, (f[a])[b] = P := ⟨((f[a])[b]).toNat, by omega⟩
     obtain ⟨Q, hQ⟩ : ∃ Q : Nat, (s[a])[b] = Q := ⟨((s[a])[b]).toNat, by omega⟩
     rw [hP] at u4 u5
     rw [hQ] at v4 v5
     have hPn : P < n := by omega
     have hQn : Q < n := by omega
     obtain ⟨x1, x2, x3, _⟩ := hX.1.at hPn hQn
     obtain ⟨y1, y2, y3, _⟩ := hX.2.at hPn hQn
     have w1 := hX.1.1
     have w2 := hX.2.1
     have hg1 : (rows F)[P]? = some (ownL F[P]) := by rw [rows_get, List.getElem?_eq_getElem x1]; rfl
     have hg2 : (rows S)[P]? = some (ownL S[P]) := by rw [rows_get, List.getElem?_eq_getElem y1]; rfl
     simp [hb, ha, hfl, hsl, u3, v3, hP, hQ, hPn, hQn, x3, y3, w1, w2]
     exact ⟨by omega, by omega, F.set P (F[P].set Q a), S.set P (S[P].set Q b), ⟨hX.1.set2 x1 ⟨by omega, by omega⟩, hX.2.set2 y1 ⟨by omega, by omega⟩⟩, by simp only [j0w, ← rows_set2 x1, ← rows_set2 y1]⟩
   · rintro e ⟨F, S, hX, rfl⟩
     simp
     exact ⟨by omega, F, S, hX, rfl⟩
 · rintro e ⟨F, S, hX, rfl⟩
   simp
   subst hR
   exact ⟨(F, S), hX, by simp [post, c_spec_l02Inverse]⟩
def okR2 (n : Nat) (R : List (List Int)) : Prop := TabN n R ∧ ∀ x y, x < n → y < n → 0 ≤ ixOf (R.getD (v2 R x y).toNat []) x
def S_ivl (pg : Pg) : Prop := ∀ (n : Nat) (R : List (List Int)), 0 < n → n ≤ 64 → okR2 n R → ∃ X : List (List Int) × List (List Int), PMN n X.1 X.2 ∧ Call pg 461 [tb R] [tb R] (ownS X)
set_option maxRecDepth 10000 in
theorem t_ivl {pg : Pg} (hp : pg.fn 461 = some j1e) (h280 : S_copyT pg 280) (h69 : S_index pg) : S_ivl pg := by
 intro n R h0 hn ⟨hA, hI⟩
 have hRl := hA.1
 have hfit : fits R := ⟨by omega, fun r hr => by have := (hA.2 r hr).1; omega⟩
 refine Call.find hp rfl (by simp) ?_
 show wp _ _ j1e.body _ _
 generalize hR : (fun (x : X) (e : Env) => ∃ l : List (List Int) × List (List Int), PMN n l.1 l.2 ∧ post j1e.rs [tb R] [tb R] (ownS l) x e) = Rr
 simp [j1e]
 refine j0i (h280 R hfit) rfl rfl (fun _ => by simp) ?_
 simp
 refine j0a (fun k e => ∃ s : List (List Int), (s.length = k ∧ ∀ r ∈ s, RowIn n r) ∧ e = fr [(0, some (.val (tb R))), (2, some (.val (.mem .own none [nil, nil]))), (3, some (.val (.mem .own none [j0w R, ownN2 s]))), (4, some (.val (I k)))]) n ?_ ?_ 0 _ (by omega) ⟨[], ⟨rfl, by simp⟩, rfl⟩
 · rintro k e hk ⟨s, ⟨g3, g4⟩, rfl⟩
   simp [hk, hRl]
   refine j0a (fun j e => ∃ b : List Int, (b.length = j ∧ ∀ v ∈ b, 0 ≤ v ∧ v < n) ∧ e = fr [(0, some (.val (tb R))), (2, some (.val (.mem .own none [nil, nil]))), (3, some (.val (.mem .own none [j0w R, ownN2 s]))), (4, some (.val (I k))), (5, some (.val (ownL b))), (6, some (.val (I j)))]) n ?_ ?_ 0 _ (by omega) ⟨[], ⟨rfl, by simp⟩, rfl⟩
   · rintro j e hj ⟨b, ⟨i3, i4⟩, rfl⟩
     obtain ⟨u1, u2, u3, u4, u5⟩ := hA.at hk hj
     have hv := get_v2 u1 u2
     have hii := hI k j hk hj
     rw [hv] at u4 u5
     obtain ⟨P, hP⟩ : ∃ P : Nat, v2 R k j = P := ⟨(v2 R k j).toNat, by omega⟩
     rw [hP] at hv u4 u5 hii
     have hPn : P < n := by omega
     have hPl : P < R.length := by omega
     have hrow := hA.2 _ (List.getElem_mem hPl)
     have hg : R.getD P [] = R[P] := by simp [hPl]
     rw [Int.toNat_natCast, hg] at hii
     have hle := (ixOf_le R[P] k).2
     have hc := h69 R[P] k (by have := hrow.1; omega)
     generalize ixOf R[P] k = z at *
     simp [hj, hRl, hk, u3, hv, hPn]
     refine j0i hc rfl rfl (fun _ => rfl) ?_
     have hz := hrow.1
     simp
     exact ⟨by unfold roomy; omega, by omega, b ++ [z], ⟨by simp [i3], snoc_in i4 (by omega)⟩, by simp only [ownL, List.map_append, List.map_cons, List.map_nil]⟩
   · rintro e ⟨b, ⟨i3, i4⟩, rfl⟩
     by_cases hk0 : k = 0
     · subst hk0
       obtain rfl : s = [] := List.length_eq_zero_iff.1 g3
       simp [hRl]
       exact ⟨by unfold roomy; omega, [b], ⟨rfl, one_row ⟨i3, i4⟩⟩, rfl⟩
     · rw [ownN2_ne g3 (by omega)]
       simp [hRl]
       exact ⟨by unfold roomy; omega, by omega, s ++ [b], TabN.snoc ⟨g3, g4⟩ ⟨i3, i4⟩, by simp only [ownN2_snoc]⟩
 · rintro e ⟨s, ⟨g3, g4⟩, rfl⟩
   rw [ownN2_ne g3 h0]
   simp [hRl]
   subst hR
   exact ⟨(R, s), ⟨hA, g3, g4⟩, by simp [post, j1e]⟩
theorem thenL_rowIn {n : Nat} {p q : List Int} (hp : RowIn n p) (hq : RowIn n q) : RowIn n (thenL p q) := by
 refine ⟨by simp [thenL, hp.1], fun v hv => ?_⟩
 obtain ⟨x, hx, rfl⟩ := List.mem_map.1 hv
 have h1 := hp.2 x hx
 have h2 : x.toNat < q.length := by rw [hq.1]; omega
 rw [List.getD_eq_getElem?_getD, List.getElem?_eq_getElem h2]
 exact hq.2 _ (List.getElem_mem h2)
def S_twd (pg : Pg) : Prop := ∀ (c : Rw Int) (s : Int × Int) (n : Nat), Sr c s → 0 < n → n ≤ 64 → ∃ (s' : Int × Int) (X : List (List Int) × List (List Int)), (Sr c s' ∧ PMN n X.1 X.2) ∧ Call pg 459 [src c s, I n] [src c s', I n] (ownS X)
set_option maxRecDepth 10000 in
theorem t_twd {pg : Pg} (hp : pg.fn 459 = some j1d) (h336 : S_nxt pg) (h368 : S_drw pg) (h334 : S_unit pg) (h279 : S_then pg 279) (h425 : S_twst pg) : S_twd pg := by
 intro c s n hs h0 hn
 have hfind := Call.findA (α := (Int × Int) × (List (List Int) × List (List Int))) (Q := fun Y => Sr c Y.1 ∧ PMN n Y.2.1 Y.2.2) (args := [src c s, I n]) (args' := fun Y => [src c Y.1, I n]) (r := fun Y => ownS Y.2) hp rfl (by simp [F.lets, j1d, List.range, List.range.loop]) (by simp [kindOf]) ?_
 · obtain ⟨Y, h1, h2⟩ := hfind
   exact ⟨_, _, h1, h2⟩
 show wp _ _ j1d.body (postX _ _ _ _ _) _
 generalize hR : postX (fun Y : (Int × Int) × (List (List Int) × List (List Int)) => Sr c Y.1 ∧ PMN n Y.2.1 Y.2.2) j1d.rs [src c s, I n] (fun Y => [src c Y.1, I n]) (fun Y => ownS Y.2) = R
 obtain ⟨s1, p, ⟨k1, k2, _⟩, hc1⟩ := h368 c s n hs hn
 obtain ⟨s2, r, ⟨k3, k3'⟩, hc2⟩ := h336.at k1 (n := 4) (by omega)
 simp [j1d]
 refine callS (ts' := [rawB c, I s1.1, H64 s1.2]) (r := ownL p) (by simpa using hc1) ?_
 simp
 refine j0i (h334 n (by omega)) rfl rfl (fun _ => by simp) ?_
 simp
 refine callS (ts' := [rawB c, I s2.1, H64 s2.2]) (r := I r) (by simpa using hc2) ?_
 simp
 refine wpLoop_lower (α := List Int × Nat) (fun z => z.2) (fun z e => (RowIn n z.1 ∧ z.2 ≤ 4) ∧ e = fr [(0, some (.val (src c s2))), (1, some (.val (I n))), (4, some (.val (.mem .own none [nil, nil]))), (5, some (.val (ownL p))), (6, some (.val (ownL z.1))), (7, some (.val (I z.2)))]) ?_ (idL n, r) _ ⟨⟨(idL_rowIn n).1, by simp only; omega⟩, rfl⟩
 rintro ⟨q, j⟩ e ⟨⟨g1, g2⟩, rfl⟩
 simp only at g1 g2
 by_cases hj : 0 < j
 · have hql := g1.1
   have hpl := k2.1
   have hc3 := h279 q p (by omega) (by unfold inN; rw [hpl]; exact g1.2)
   simp [hj]
   refine j0i hc3 rfl rfl (fun _ => by simp) ?_
   simp
   exact ⟨by omega, thenL q p, j - 1, by omega, ⟨thenL_rowIn g1 k2, by omega⟩, by
    have : (j : Int) - 1 = ((j - 1 : Nat) : Int) := by omega
    rw [this]⟩
 · obtain rfl : j = 0 := by omega
   obtain ⟨s3, b, ⟨k4, _⟩, hc4⟩ := h336.at k3 (n := 2) (by omega)
   simp
   refine callS (ts' := [rawB c, I s3.1, H64 s3.2]) (r := I b) (by simpa using hc4) ?_
   by_cases hb : b = 0
   · obtain ⟨X, ⟨hX, _⟩, hc5⟩ := h425 n p q h0 hn k2 g1
     simp [hb]
     refine j0i hc5 rfl rfl (fun _ => by simp) ?_
     simp
     subst hR
     exact ⟨(s3, X), ⟨k4, hX⟩, by simp [post, j1d]⟩
   · obtain ⟨X, ⟨hX, _⟩, hc5⟩ := h425 n q p h0 hn g1 k2
     simp [hb]
     refine j0i hc5 rfl rfl (fun _ => by simp) ?_
     simp
     subst hR
     exact ⟨(s3, X), ⟨k4, hX⟩, by simp [post, j1d]⟩
end Go.Mch
namespace Go.Mch
abbrev S2 := List (List Int) × List (List Int)
def rw4 : List (List Int) := [[0, 1, 3, 2], [0, 1, 3, 2], [1, 0, 2, 3], [1, 0, 2, 3]]
def rw3 : List (List Int) := [[0, 1, 2], [0, 1, 2], [1, 0, 2]]
theorem rw4_ok : okR2 4 rw4 := by
 refine ⟨⟨rfl, fun r hr => ?_⟩, fun x y hx hy => ?_⟩
 · simp only [rw4, List.mem_cons, List.not_mem_nil, or_false] at hr
   rcases hr with rfl | rfl | rfl | rfl <;> exact ⟨rfl, by decide⟩
 · have : ∀ x < 4, ∀ y < 4, 0 ≤ ixOf (rw4.getD (v2 rw4 x y).toNat []) x := by decide
   exact this x hx y hy
theorem rw3_ok : okR2 3 rw3 := by
 refine ⟨⟨rfl, fun r hr => ?_⟩, fun x y hx hy => ?_⟩
 · simp only [rw3, List.mem_cons, List.not_mem_nil, or_false] at hr
   rcases hr with rfl | rfl | rfl <;> exact ⟨rfl, by decide⟩
 · have : ∀ x < 3, ∀ y < 3, 0 ≤ ixOf (rw3.getD (v2 rw3 x y).toNat []) x := by decide
   exact this x hx y hy
def S_anyM (pg : Pg) (most : Nat) : Prop := ∀ (c : Rw Int) (s : Int × Int), Sr c s → ∃ (s' : Int × Int) (n : Nat) (X : S2), (Sr c s' ∧ 0 < n ∧ n ≤ most ∧ PMN n X.1 X.2) ∧ Call pg 445 [src c s, I most] [src c s', I most] (ownS X)
def S_any (pg : Pg) : Prop := ∀ most : Nat, 0 < most → most ≤ 12 → S_anyM pg most
set_option maxRecDepth 10000 in
theorem t_any {pg : Pg} (hp : pg.fn 445 = some c_spec_l02Any) (h336 : S_nxt pg) (h449 : S_flp pg) (h423 : S_poly pg) (h458 : S_prd pg) (h459 : S_twd pg) (h460 : S_uni pg) (h461 : S_ivl pg) (h406 : S_invW pg) : S_any pg := by
 intro most
 induction most using Nat.strongRecOn with
 | _ most ih =>
 intro m0 m12 c s hs
 have hfind := Call.findA (α := (Int × Int) × Nat × S2) (Q := fun Y => Sr c Y.1 ∧ 0 < Y.2.1 ∧ Y.2.1 ≤ most ∧ PMN Y.2.1 Y.2.2.1 Y.2.2.2) (args := [src c s, I most]) (args' := fun Y => [src c Y.1, I most]) (r := fun Y => ownS Y.2.2) hp rfl (by simp [F.lets, c_spec_l02Any, List.range, List.range.loop]) (by simp [kindOf]) ?_
 · obtain ⟨Y, h1, h2⟩ := hfind
   exact ⟨_, _, _, h1, h2⟩
 show wp _ _ c_spec_l02Any.body (postX _ _ _ _ _) _
 generalize hR : postX (fun Y : (Int × Int) × Nat × S2 => Sr c Y.1 ∧ 0 < Y.2.1 ∧ Y.2.1 ≤ most ∧ PMN Y.2.1 Y.2.2.1 Y.2.2.2) c_spec_l02Any.rs [src c s, I most] (fun Y => [src c Y.1, I most]) (fun Y => ownS Y.2.2) = R
 have hfin : ∀ (s' : Int × Int) (k : Nat) (X : S2), Sr c s' → 0 < k → k ≤ most → PMN k X.1 X.2 → R .ret (fr [(0, some (.val (src c s'))), (1, some (.val (I most))), (4, some (.val (.mem .own none [j0w X.1, j0w X.2])))]) := by
  intro s' k X a1 a2 a3 a4
  subst hR
  exact ⟨(s', k, X), ⟨a1, a2, a3, a4⟩, by simp [post, c_spec_l02Any]⟩
 obtain ⟨s1, r1, ⟨k1, k2⟩, hc1⟩ := h336.at hs (n := most) m0
 obtain ⟨s2, kd, ⟨k3, k4⟩, hc2⟩ := h336.at k1 (n := 8) (by omega)
 obtain ⟨n, hn⟩ : ∃ n : Nat, (1 : Int) + r1 = n := ⟨1 + r1, by omega⟩
 have hn0 : 0 < n := by omega
 have hnm : n ≤ most := by omega
 simp [c_spec_l02Any]
 refine callS (ts' := [rawB c, I s1.1, H64 s1.2]) (r := I r1) (by simpa using hc1) ?_
 simp [hn]
 refine ⟨by omega, ?_⟩
 refine callS (ts' := [rawB c, I s2.1, H64 s2.2]) (r := I kd) (by simpa using hc2) ?_
 obtain ⟨sL, XL, ⟨jL1, jL2⟩, hcL⟩ := h459 c s2 n k3 hn0 (by omega)
 simp
 rcases (by omega : kd = 0 ∨ kd = 1 ∨ kd = 2 ∨ kd = 3 ∨ kd = 4 ∨ kd = 5 ∨ kd = 6 ∨ kd = 7) with rfl | rfl | rfl | rfl | rfl | rfl | rfl | rfl
 · obtain ⟨X, ⟨hX, _⟩, hc⟩ := h449 n hn0 (by omega)
   simp
   refine j0i hc rfl rfl (fun _ => by simp) ?_
   simp
   exact hfin s2 n X k3 hn0 hnm hX
 · obtain ⟨X, hX, hc⟩ := h423 n hn0 (by omega)
   simp
   refine j0i hc rfl rfl (fun _ => by simp) ?_
   simp
   exact hfin s2 n X k3 hn0 hnm hX
 · obtain ⟨q, hq, hq2⟩ : ∃ q : Nat, (n : Int) / 2 = q ∧ q = n / 2 := ⟨n / 2, by omega, rfl⟩
   have e1 : (n : Int).tmod 2 = (n : Int) % 2 := by rw [Int.tmod_eq_emod_of_nonneg (by omega)]
   by_cases h4 : 4 ≤ n
   · have h4' : (4 : Int) ≤ n := by omega
     by_cases hev : (n : Int) % 2 = 0
     · obtain ⟨s3, X, ⟨j1, j2⟩, hc3⟩ := h459 c s2 q k3 (by omega) (by omega)
       obtain ⟨s4, Y, ⟨j3, j4⟩, hc4⟩ := h459 c s3 2 j1 (by omega) (by omega)
       obtain ⟨Z, hZ, hc5⟩ := h458 q 2 X.1 X.2 Y.1 Y.2 (by omega) (by omega) (by omega) j2 j4
       rw [show q * 2 = n by omega] at hZ
       simp [h4', hev, e1, hq]
       refine ⟨by omega, ?_⟩
       refine callS (ts' := [rawB c, I s3.1, H64 s3.2]) (r := ownS X) (by simpa using hc3) ?_
       simp
       refine callS (ts' := [rawB c, I s4.1, H64 s4.2]) (r := ownS Y) (by simpa using hc4) ?_
       simp
       refine j0i hc5 rfl rfl (fun _ => by simp) ?_
       simp
       exact hfin s4 n Z j3 hn0 hnm hZ
     · simp [h4', hev, e1]
       refine callS (ts' := [rawB c, I sL.1, H64 sL.2]) (r := ownS XL) (by simpa using hcL) ?_
       simp
       exact hfin sL n XL jL1 hn0 hnm jL2
   · have h4' : ¬ (4 : Int) ≤ n := by omega
     simp [h4', j0x]
     refine callS (ts' := [rawB c, I sL.1, H64 sL.2]) (r := ownS XL) (by simpa using hcL) ?_
     simp
     exact hfin sL n XL jL1 hn0 hnm jL2
 · by_cases h2 : 2 ≤ n
   · have h2' : (2 : Int) ≤ n := by omega
     obtain ⟨n1, hn1⟩ : ∃ n1 : Nat, (n : Int) - 1 = n1 := ⟨n - 1, by omega⟩
     obtain ⟨s3, r3, ⟨j1, j2⟩, hc3⟩ := h336.at k3 (n := n1) (by omega)
     obtain ⟨m, hm⟩ : ∃ m : Nat, (1 : Int) + r3 = m := ⟨1 + r3, by omega⟩
     obtain ⟨d, hd⟩ : ∃ d : Nat, (n : Int) - m = d := ⟨n - m, by omega⟩
     obtain ⟨s4, k, X, ⟨j3, j4, j5, j6⟩, hc4⟩ := ih m (by omega) (by omega) (by omega) c s3 j1
     obtain ⟨s5, Y, ⟨j7, j8⟩, hc5⟩ := h459 c s4 d j3 (by omega) (by omega)
     obtain ⟨Z, hZ, hc6⟩ := h460 k d X.1 X.2 Y.1 Y.2 j4 (by omega) (by omega) j6 j8
     simp [h2', hn1]
     refine ⟨by omega, ?_⟩
     refine callS (ts' := [rawB c, I s3.1, H64 s3.2]) (r := I r3) (by simpa using hc3) ?_
     simp [hm]
     refine ⟨by omega, ?_⟩
     refine callS (ts' := [rawB c, I s4.1, H64 s4.2]) (r := ownS X) (by simpa using hc4) ?_
     simp [hd]
     refine ⟨by omega, ?_⟩
     refine callS (ts' := [rawB c, I s5.1, H64 s5.2]) (r := ownS Y) (by simpa using hc5) ?_
     simp
     refine j0i hc6 rfl rfl (fun _ => by simp) ?_
     simp
     exact hfin s5 (k + d) Z j7 (by omega) (by omega) hZ
   · have h2' : ¬ (2 : Int) ≤ n := by omega
     simp [h2']
     refine callS (ts' := [rawB c, I sL.1, H64 sL.2]) (r := ownS XL) (by simpa using hcL) ?_
     simp
     exact hfin sL n XL jL1 hn0 hnm jL2
 · by_cases h4 : 4 ≤ most
   · have h4' : (4 : Int) ≤ most := by omega
     obtain ⟨Z, hZ, hc6⟩ := h461 4 rw4 (by omega) (by omega) rw4_ok
     simp [h4']
     refine j0i hc6 rfl rfl (fun _ => by simp) ?_
     simp
     exact hfin s2 4 Z k3 (by omega) (by omega) hZ
   · have h4' : ¬ (4 : Int) ≤ most := by omega
     simp [h4']
     refine callS (ts' := [rawB c, I sL.1, H64 sL.2]) (r := ownS XL) (by simpa using hcL) ?_
     simp
     exact hfin sL n XL jL1 hn0 hnm jL2
 · by_cases h2 : 2 ≤ n
   · have h2' : (2 : Int) ≤ n := by omega
     obtain ⟨X, hX, hc⟩ := h423 n hn0 (by omega)
     obtain ⟨Z, hZ, hc6⟩ := h406 n X.1 X.2 hn0 (by omega) hX
     simp [h2']
     refine j0i hc rfl rfl (fun _ => by simp) ?_
     simp
     refine j0i hc6 rfl rfl (fun _ => by simp) ?_
     simp
     exact hfin s2 n Z k3 hn0 hnm hZ
   · have h2' : ¬ (2 : Int) ≤ n := by omega
     simp [h2']
     refine callS (ts' := [rawB c, I sL.1, H64 sL.2]) (r := ownS XL) (by simpa using hcL) ?_
     simp
     exact hfin sL n XL jL1 hn0 hnm jL2
 · by_cases h4 : 3 ≤ most
   · have h4' : (3 : Int) ≤ most := by omega
     obtain ⟨Z, hZ, hc6⟩ := h461 3 rw3 (by omega) (by omega) rw3_ok
     simp [h4']
     refine j0i hc6 rfl rfl (fun _ => by simp) ?_
     simp
     exact hfin s2 3 Z k3 (by omega) (by omega) hZ
   · have h4' : ¬ (3 : Int) ≤ most := by omega
     simp [h4']
     refine callS (ts' := [rawB c, I sL.1, H64 sL.2]) (r := ownS XL) (by simpa using hcL) ?_
     simp
     exact hfin sL n XL jL1 hn0 hnm jL2
 · simp
   refine callS (ts' := [rawB c, I sL.1, H64 sL.2]) (r := ownS XL) (by simpa using hcL) ?_
   simp
   exact hfin sL n XL jL1 hn0 hnm jL2
end Go.Mch
namespace Go.Mch
theorem TabN.tab {n : Nat} {t : List (List Int)} (h : TabN n t) : Tab t := fun r hr => ⟨by rw [(h.2 r hr).1, h.1], fun v hv => by rw [h.1]; exact (h.2 r hr).2 v hv⟩
theorem pm_of {n : Nat} {p : List Int} (h : RowIn n p) (hd : p.Nodup) (h0 : 0 < n) (h12 : n ≤ 12) : Pm p := by
 have hl := h.1
 exact ⟨⟨fun x hx => by rw [hl]; exact h.2 x hx, hd⟩, by omega, by omega⟩
def S_dr2 (pg : Pg) : Prop := ∀ (c : Rw Int) (s : Int × Int) (most : Nat), Sr c s → 0 < most → most ≤ 12 → ∃ (s' : Int × Int) (n : Nat) (X : S2), (Sr c s' ∧ 0 < n ∧ n ≤ most ∧ PMN n X.1 X.2) ∧ Call pg 412 [src c s, I most] [src c s', I most] (ownS X)
set_option maxRecDepth 10000 in
theorem t_dr2 {pg : Pg} (hp : pg.fn 412 = some c_spec_l02Draw) (h336 : S_nxt pg) (h445 : S_any pg) (h368 : S_drw pg) (h422 : S_renS pg) : S_dr2 pg := by
 intro c s most hs m0 m12
 have hfind := Call.findA (α := (Int × Int) × Nat × S2) (Q := fun Y => Sr c Y.1 ∧ 0 < Y.2.1 ∧ Y.2.1 ≤ most ∧ PMN Y.2.1 Y.2.2.1 Y.2.2.2) (args := [src c s, I most]) (args' := fun Y => [src c Y.1, I most]) (r := fun Y => ownS Y.2.2) hp rfl (by simp [F.lets, c_spec_l02Draw, List.range, List.range.loop]) (by simp [kindOf]) ?_
 · obtain ⟨Y, h1, h2⟩ := hfind
   exact ⟨_, _, _, h1, h2⟩
 show wp _ _ c_spec_l02Draw.body (postX _ _ _ _ _) _
 generalize hR : postX (fun Y : (Int × Int) × Nat × S2 => Sr c Y.1 ∧ 0 < Y.2.1 ∧ Y.2.1 ≤ most ∧ PMN Y.2.1 Y.2.2.1 Y.2.2.2) c_spec_l02Draw.rs [src c s, I most] (fun Y => [src c Y.1, I most]) (fun Y => ownS Y.2.2) = R
 have hfin : ∀ (s' : Int × Int) (k : Nat) (X : S2), Sr c s' → 0 < k → k ≤ most → PMN k X.1 X.2 → R .ret (fr [(0, some (.val (src c s'))), (1, some (.val (I most))), (4, some (.val (.mem .own none [j0w X.1, j0w X.2])))]) := by
  intro s' k X a1 a2 a3 a4
  subst hR
  exact ⟨(s', k, X), ⟨a1, a2, a3, a4⟩, by simp [post, c_spec_l02Draw]⟩
 obtain ⟨s1, n, X, ⟨k1, k2, k3, k4⟩, hc1⟩ := h445 most m0 m12 c s hs
 obtain ⟨s2, r, ⟨k5, _⟩, hc2⟩ := h336.at k1 (n := 4) (by omega)
 obtain ⟨s3, p, ⟨k6, k7, k8⟩, hc3⟩ := h368 c s2 n k5 (by omega)
 have hpm := pm_of k7 k8 k2 (by omega)
 have hl1 := k4.1.1
 have hc4 := h422 X.1 X.2 p k4.1.tab k4.2.tab hpm (by rw [k7.1, k4.1.1]) (by rw [k7.1, k4.2.1])
 simp [c_spec_l02Draw]
 refine callS (ts' := [rawB c, I s1.1, H64 s1.2]) (r := ownS X) (by simpa using hc1) ?_
 simp
 refine callS (ts' := [rawB c, I s2.1, H64 s2.2]) (r := I r) (by simpa using hc2) ?_
 by_cases hr : 0 < r
 · have hl2 := k4.2.1
   simp [hr, hl1, hl2]
   refine callS (ts' := [rawB c, I s3.1, H64 s3.2]) (r := ownL p) (by simpa using hc3) ?_
   simp [hl1, hl2]
   refine j0i hc4 rfl rfl (fun _ => by simp) ?_
   simp
   exact hfin s3 n (imT X.1 p, imT X.2 p) k6 k2 k3 ⟨imT_tabN k4.1 hpm k7.1, imT_tabN k4.2 hpm k7.1⟩
 · simp [hr]
   exact hfin s2 n X k5 k2 k3 k4
theorem rows_set1 (t : List (List Int)) (i : Nat) (r : List Int) : (rows t).set i (ownL r) = rows (t.set i r) := by simp [rows, List.map_set]
def Bd (t : List (List Int)) : Prop := t.length ≤ 20 ∧ ∀ r ∈ t, r.length ≤ 20
theorem TabN.bd {n : Nat} {t : List (List Int)} (h : TabN n t) (hn : n ≤ 20) : Bd t := ⟨by rw [h.1]; exact hn, fun r hr => by rw [(h.2 r hr).1]; exact hn⟩
theorem Bd.set {t : List (List Int)} (h : Bd t) {i : Nat} {r : List Int} (hr : r.length ≤ 20) : Bd (t.set i r) := ⟨by simpa using h.1, fun x hx => by
 rcases List.mem_or_eq_of_mem_set hx with h1 | h1
 · exact h.2 x h1
 · rw [h1]; exact hr⟩
end Go.Mch
namespace Go.Mch
def CY (n : Nat) (t : List (List Int)) : Prop := TabN n t ∧ ∀ r ∈ t, r.Nodup
abbrev cyT (t : List (List Int)) : T := .agg [tb t]
abbrev ownC (t : List (List Int)) : T := .agg [j0w t]
theorem CY.has {n : Nat} {t : List (List Int)} (h : CY n t) (h0 : 0 < n) (h12 : n ≤ 12) {x y : Nat} (hx : x < n) (hy : y < n) : ∃ (h1 : x < t.length), 0 ≤ ixOf t[x] y ∧ ixOf t[x] y < n := by
 have h1 : x < t.length := by rw [h.1.1]; exact hx
 have h2 := h.1.2 _ (List.getElem_mem h1)
 have hp := pm_of h2 (h.2 _ (List.getElem_mem h1)) h0 h12
 have := hp.mem (x := y) (by rw [h2.1]; exact hy)
 have h3 := ixOf_le t[x] y
 rw [h2.1] at h3
 exact ⟨h1, (ixOf_mem _ _).2 this, h3.2⟩
theorem invL_ok {p : List Int} (h : Pm p) : RowIn p.length (invL p) ∧ (invL p).Nodup := by
 refine ⟨⟨invL_length p, fun v hv => ?_⟩, ?_⟩
 · obtain ⟨i, hi, rfl⟩ := List.getElem_of_mem hv
   have hil : i < p.length := by simpa using hi
   have := h.lt hil
   rw [invL_get hi]
   omega
 · rw [List.nodup_iff_pairwise_ne, List.pairwise_iff_getElem]
   intro i j hi hj hij he
   have hil : i < p.length := by simpa using hi
   have hjl : j < p.length := by simpa using hj
   rw [invL_get hi, invL_get hj] at he
   have h1 := h.at hil
   have h2 := h.at hjl
   have he' : invQ p i = invQ p j := by omega
   rw [he'] at h1
   rw [h1] at h2
   omega
end Go.Mch
namespace Go.Mch
theorem PMN.pm {n : Nat} {f s : List (List Int)} (h : PMN n f s) (h0 : 0 < n) (h12 : n ≤ 12) : PM f s := ⟨h.1.tab, h.2.tab, by rw [h.1.1, h.2.1], by rw [h.1.1]; exact h0, by rw [h.1.1]; exact h12⟩
theorem PMN.fits {n : Nat} {f s : List (List Int)} (h : PMN n f s) (h12 : n ≤ 12) : fits f ∧ fits s := ⟨⟨by rw [h.1.1]; omega, fun r hr => by rw [(h.1.2 r hr).1]; omega⟩, by rw [h.2.1]; omega, fun r hr => by rw [(h.2.2 r hr).1]; omega⟩
def S_drS (pg : Pg) (f : Nat) : Prop := ∀ c : Rw Int, okB c → ∃ X : S2, (Bd X.1 ∧ Bd X.2) ∧ Call pg f [rawB c] [rawB c] (ownS X)
end Go.Mch
namespace Go.Mch

theorem isSetL.inN {n : Nat} {xs : List Int} (h : isSetL n xs) : inN n xs := fun v hv => by
 have := h.2.1 v hv
 omega
end Go.Mch
namespace Go.Mch
def S_big (pg : Pg) : Prop := ∀ c : Rw Int, Call pg 128 [rawB c] [rawB c] (B (decide ((4096 : Int) < (lst c).length)))
theorem t_big {pg : Pg} (hp : pg.fn 128 = some c_laws_big) : S_big pg := by
 intro c
 refine Call.intro hp rfl (by simp) ?_
 show wp _ _ c_laws_big.body (post [.t 2] _ _ _) _
 simp [c_laws_big]
def S_likeI (pg : Pg) : Prop := ∀ a b : Rw Int, (lst a).length ≤ 1048576 → Call pg 141 [rawI a, rawI b] [rawI a, rawI b] (B (decide (lst a = lst b)))
theorem t_likeI {pg : Pg} (hp : pg.fn 141 = some c_laws_likeInts) : S_likeI pg := by
 intro a b ha
 refine Call.intro hp rfl (by simp) ?_
 show wp _ _ c_laws_likeInts.body (post [.t 4] _ _ _) _
 by_cases hl : (lst a).length = (lst b).length
 · simp [c_laws_likeInts, hl]
   refine j0a (fun k e => (∀ i, i < k → (lst a)[i]? = (lst b)[i]?) ∧ e = fr [(0, some (.val (rawI a))), (1, some (.val (rawI b))), (5, some (.val (I k)))]) (lst a).length ?_ ?_ 0 _ (by omega) ?_
   · rintro k e hk ⟨h1, rfl⟩
     have hk2 : k < (lst b).length := by omega
     by_cases hne : (lst a)[k] = (lst b)[k]
     · simp [hk, hk2, hne]
       refine ⟨by omega, fun i hi => ?_⟩
       rcases Nat.lt_or_ge i k with h2 | h2
       · exact h1 i h2
       · have : i = k := by omega
         subst this
         rw [List.getElem?_eq_getElem hk, List.getElem?_eq_getElem hk2, hne]
     · simp [hk, hk2, hne]
       intro h2
       exact hne (by simp [h2])
   · rintro e ⟨h1, rfl⟩
     simp [hl]
     apply List.ext_getElem?
     intro i
     rcases Nat.lt_or_ge i (lst a).length with h2 | h2
     · exact h1 i h2
     · rw [List.getElem?_eq_none h2, List.getElem?_eq_none (by omega)]
   · exact ⟨fun i hi => by omega, by simp⟩
 · have : lst a ≠ lst b := fun h => hl (by rw [h])
   have h2 : ((lst a).length : Int) ≠ (lst b).length := by omega
   simp [c_laws_likeInts, h2, this]

def S_likeT (pg : Pg) : Prop := ∀ a b : Rw (Rw Int), small a → Call pg 137 [rawT a, rawT b] [rawT a, rawT b] (B (decide ((lst a).map lst = (lst b).map lst)))
def S_same9 (pg : Pg) : Prop := ∀ a b : Rw (Rw Int), small a → Call pg 178 [rawT a, rawT b] [rawT a, rawT b] (B (decide ((lst a).map lst = (lst b).map lst)))
theorem t_same9 {pg : Pg} (hp : pg.fn 178 = some c_laws_same9) (h141 : S_likeI pg) : S_same9 pg := by
 intro a b ⟨ha, hr⟩
 refine Call.intro hp rfl (by simp) ?_
 show wp _ _ c_laws_same9.body (post [.t 4] _ _ _) _
 by_cases hl : (lst a).length = (lst b).length
 · simp [c_laws_same9, hl]
   refine j0a (fun k e => (∀ i, i < k → ((lst a).map lst)[i]? = ((lst b).map lst)[i]?) ∧ e = fr [(0, some (.val (rawT a))), (1, some (.val (rawT b))), (5, some (.val (I k)))]) (lst a).length ?_ ?_ 0 _ (by omega) ?_
   · rintro k e hk ⟨h1, rfl⟩
     have hk2 : k < (lst b).length := by omega
     simp [hk, hk2]
     refine j0i (h141 _ _ (hr _ (List.getElem_mem hk))) rfl rfl (fun _ => rfl) ?_
     by_cases hne : lst (lst a)[k] = lst (lst b)[k]
     · simp [hne]
       refine ⟨by omega, fun i hi => ?_⟩
       rcases Nat.lt_or_ge i k with h2 | h2
       · have := h1 i h2
         simpa using this
       · have : i = k := by omega
         subst this
         simp [hk, hk2, hne]
     · simp [hne]
       intro h2
       have h3 := congrArg (fun l => l[k]?) h2
       simp [hk, hk2] at h3
       exact hne h3
   · rintro e ⟨h1, rfl⟩
     simp [hl]
     apply List.ext_getElem?
     intro i
     rcases Nat.lt_or_ge i (lst a).length with h2 | h2
     · exact h1 i h2
     · rw [List.getElem?_eq_none (by simpa using h2), List.getElem?_eq_none (by simp; omega)]
   · exact ⟨fun i hi => by omega, by simp⟩
 · have : (lst a).map lst ≠ (lst b).map lst := fun h => hl (by have := congrArg List.length h; simpa using this)
   have h2 : ((lst a).length : Int) ≠ (lst b).length := by omega
   simp [c_laws_same9, h2, this]

theorem S_likeI.o {pg : Pg} (h : S_likeI pg) (o o' : Option (List Int)) (hs : (lso o).length ≤ 1048576) : Call pg 141 [rawI (.ofO o), rawI (.ofO o')] [rawI (.ofO o), rawI (.ofO o')] (B (decide (lso o = lso o'))) := by
 have := h (.ofO o) (.ofO o') (by simpa using hs)
 simpa using this
theorem S_likeT.tb {pg : Pg} (h : S_likeT pg) (X Y : List (List Int)) (hs : smallT X) : Call pg 137 [tb X, tb Y] [tb X, tb Y] (B (decide (X = Y))) := by
 have := h (ryT (some X)) (ryT (some Y)) (small_ry hs)
 simp only [rawT_ry, lst_ry] at this
 exact this
theorem S_same9.tb {pg : Pg} (h : S_same9 pg) (X Y : List (List Int)) (hs : smallT X) : Call pg 178 [tb X, tb Y] [tb X, tb Y] (B (decide (X = Y))) := by
 have := h (ryT (some X)) (ryT (some Y)) (small_ry hs)
 simp only [rawT_ry, lst_ry] at this
 exact this
end Go.Mch
namespace Go.Mch
theorem pairN_div {n x y : Nat} (hy : y < n) : (x * n + y) / n = x ∧ (x * n + y) % n = y := by
 have hn : 0 < n := by omega
 refine ⟨?_, ?_⟩
 · rw [Nat.add_comm, Nat.add_mul_div_right _ _ hn, Nat.div_eq_of_lt hy, Nat.zero_add]
 · rw [Nat.add_comm, Nat.add_mul_mod_self_right, Nat.mod_eq_of_lt hy]
theorem pairN_eq {n x y x' y' : Nat} (hy : y < n) (hy' : y' < n) (h : x * n + y = x' * n + y') : x = x' ∧ y = y' := by
 have h1 := pairN_div (x := x) hy
 have h2 := pairN_div (x := x') hy'
 rw [h] at h1
 exact ⟨h1.1.symm.trans h2.1, h1.2.symm.trans h2.2⟩
def ldN (f s : List (List Int)) (a : Nat) : Nat := σN f (a / f.length) (a % f.length) * f.length + τN s (a % f.length) (a / f.length)
theorem inj_ld {f s : List (List Int)} (h : PM f s) : Inj f s ↔ ∀ a b, a < f.length * f.length → b < f.length * f.length → ldN f s a = ldN f s b → a = b := by
 constructor
 · intro hi a b ha hb he
   apply Classical.byContradiction
   intro hne
   obtain ⟨e1, e2⟩ := pairN_eq (h.v2s (a / f.length) (a % f.length)).2 (h.v2s (b / f.length) (b % f.length)).2 he
   have a1 := (h.v2f (a / f.length) (a % f.length)).1
   have a2 := (h.v2f (b / f.length) (b % f.length)).1
   have a3 := (h.v2s (a / f.length) (a % f.length)).1
   have a4 := (h.v2s (b / f.length) (b % f.length)).1
   exact hi a ha b hb ⟨hne, by rw [← a1, ← a2, e1], by rw [← a3, ← a4, e2]⟩
 · intro hi a ha b hb ⟨hne, e1, e2⟩
   refine hne (hi a b ha hb ?_)
   unfold ldN σN τN
   rw [e1, e2]

def S_ivI (pg : Pg) : Prop := ∀ f s : List (List Int), isPairMap f s → Call pg 160 [sol f s] [sol f s] (.tup [B (dec (isInv f s)), I 0])
theorem t_ivI {pg : Pg} (hp : pg.fn 160 = some c_impl_IsInvolutive) (h59 : S_pairMap pg 59) (h298 : S_twice pg 298) : S_ivI pg := by
 intro f s hpm
 have h := PM.of hpm
 have h12 := h.small
 have hfs : fits s := ⟨by have := h.len; omega, fun r hr => by have := (h.ts r hr).1; have := h.len; omega⟩
 refine Call.intro hp rfl (by simp) ?_
 show wp _ _ c_impl_IsInvolutive.body (post [.t 2, .t 3] _ _ _) _
 simp [c_impl_IsInvolutive]
 refine j0i (h59 f s h.fitsF hfs) rfl rfl (fun _ => rfl) ?_
 simp [hpm]
 refine j0i (h298 f s h) rfl rfl (fun _ => rfl) ?_
 simp
end Go.Mch
namespace Go.Mch

structure Rck (n : Nat) (T : Nat → Nat → Nat) : Prop where
 r : ∀ x y, x < n → y < n → T x y < n
 i : ∀ x y y', x < n → y < n → y' < n → T x y = T x y' → y = y'
 sd : ∀ x y z, x < n → y < n → z < n → T x (T y z) = T (T x y) (T x z)
structure Aut (n : Nat) (T : Nat → Nat → Nat) (P Q : Nat → Nat) : Prop where
 p : ∀ x, x < n → P x < n
 q : ∀ x, x < n → Q x < n
 pq : ∀ x, x < n → P (Q x) = x
 qp : ∀ x, x < n → Q (P x) = x
 a : ∀ x y, x < n → y < n → P (T x y) = T (P x) (P y)
theorem Aut.back {n : Nat} {T : Nat → Nat → Nat} {P Q : Nat → Nat} (h : Aut n T P Q) (ht : Rck n T) {x y : Nat} (hx : x < n) (hy : y < n) : Q (T x y) = T (Q x) (Q y) := by
 have qx := h.q x hx
 have qy := h.q y hy
 have e := h.a (Q x) (Q y) qx qy
 rw [h.pq x hx, h.pq y hy] at e
 rw [← e, h.qp _ (ht.r _ _ qx qy)]
theorem tw_nd {n : Nat} {T : Nat → Nat → Nat} {P Q : Nat → Nat} (h : Aut n T P Q) (ht : Rck n T) : Nd n (fun _ y => P y) (fun y x => Q (T (P y) x)) := by
 have rt : ∀ y x, y < n → x < n → Q (T (P y) x) < n := fun y x hy hx => h.q _ (ht.r _ _ (h.p _ hy) hx)
 have iS : ∀ y y', y < n → y' < n → P y = P y' → y = y' := fun y y' h1 h2 he => by
  have := congrArg Q he
  rwa [h.qp y h1, h.qp y' h2] at this
 have it : ∀ x y y', x < n → y < n → y' < n → Q (T (P x) y) = Q (T (P x) y') → y = y' := fun x y y' hx h1 h2 he => by
  have := congrArg P he
  rw [h.pq _ (ht.r _ _ (h.p _ hx) h1), h.pq _ (ht.r _ _ (h.p _ hx) h2)] at this
  exact ht.i _ _ _ (h.p _ hx) h1 h2 this
 refine ⟨fun _ y _ hy => h.p y hy, rt, fun _ y y' _ h1 h2 he => iS y y' h1 h2 he, it, fun x w _ hw => ⟨Q w, h.q w hw, h.pq w hw⟩, fun x w hx hw => surj_of_inj (fun y hy => rt x y hx hy) (fun y y' h1 h2 => it x y y' hx h1 h2) w hw, fun _ _ _ _ _ _ => rfl, ?_, ?_⟩
 · intro x y z hx hy hz
   show Q (T (P (P z)) (P y)) = P (Q (T (P z) y))
   have pz := h.p z hz
   rw [h.pq _ (ht.r _ _ pz hy), ← h.a _ _ pz hy, h.qp _ (ht.r _ _ pz hy)]
 · intro x y z hx hy hz
   show Q (T (P z) (Q (T (P y) x))) = Q (T (P (Q (T (P z) y))) (Q (T (P (P z)) x)))
   have py := h.p y hy
   have pz := h.p z hz
   have ppz := h.p _ pz
   have qx := h.q x hx
   have qy := h.q y hy
   have qqx := h.q _ qx
   have t1 := ht.r _ _ py hx
   have t2 := ht.r _ _ pz hy
   have t3 := ht.r _ _ ppz hx
   rw [h.pq _ t2, h.back ht pz (h.q _ t1), h.qp z hz, h.back ht t2 (h.q _ t3), h.back ht pz hy, h.qp z hz]
   rw [h.back ht py hx, h.qp y hy, h.back ht ppz hx, h.qp _ pz, h.back ht (x := y) (y := Q x) hy qx, h.back ht (x := P z) (y := Q x) pz qx, h.qp z hz]
   exact ht.sd z (Q y) (Q (Q x)) hz qy qqx

theorem rck_of {t : List (List Int)} (h : isRk t) : Rck t.length (σN t) := by
 have ht : Tab t := h.1.2.2
 have h0 : 0 < t.length := h.1.1
 have hv : ∀ x y, ((σN t x y : Nat) : Int) = v2 t x y ∧ σN t x y < t.length := fun x y => by
  have h1 := ht.nonneg x y
  have h2 := ht.lt h0 x y
  unfold σN
  omega
 refine ⟨fun x y _ _ => (hv x y).2, fun x y y' hx h1 h2 he => ?_, fun x y z hx hy hz => congrArg Int.toNat (h.2.2 x y z hx hy hz)⟩
 have hr := h.2.1 t[x] (List.getElem_mem hx)
 have hl := (ht t[x] (List.getElem_mem hx)).1
 have e : t.getD x [] = t[x] := by simp [hx]
 refine row_inj hr (by omega) (by omega) ?_
 have a1 := (hv x y).1
 have a2 := (hv x y').1
 simp only [v2, e] at a1 a2
 omega
theorem v2_int {t : List (List Int)} (h : isRk t) (x y : Nat) : v2 t x y = (σN t x y : Int) := by
 have h1 := (show Tab t from h.1.2.2).nonneg x y
 unfold σN
 omega
def pN (p : List Int) (x : Nat) : Nat := (p.getD x 0).toNat
theorem pN_at {p : List Int} (h : Pm p) {x : Nat} (hx : x < p.length) : p.getD x 0 = (pN p x : Int) ∧ pN p x < p.length ∧ p[x] = (pN p x : Int) := by
 have hr := h.inL _ (List.getElem_mem hx)
 have e : p.getD x 0 = p[x] := by simp [hx]
 unfold pN
 rw [e]
 omega
theorem aut_of {t : List (List Int)} {p : List Int} (h : isRk t) (hl : p.length = t.length) (hp : j0v p) (he : imT t p = t) : Pm p ∧ Aut t.length (σN t) (pN p) (invQ p) := by
 have ht : Tab t := h.1.2.2
 have pm : Pm p := ⟨hp, by have := h.1.1; omega, by have := h.1.2.1; omega⟩
 have qp : ∀ x, x < t.length → invQ p (pN p x) = x := fun x hx => by
  have hxp : x < p.length := by omega
  have := pm.back hxp
  rwa [(pN_at pm hxp).2.2, Int.toNat_natCast] at this
 have pl : ∀ x, x < t.length → pN p x < t.length := fun x hx => by have := (pN_at pm (x := x) (by omega)).2.1; omega
 refine ⟨pm, ⟨pl, fun x hx => by have := pm.lt (x := x) (by omega); omega, fun x hx => ?_, qp, fun x y hx hy => ?_⟩⟩
 · have := pm.at (x := x) (by omega)
   rw [pN, this]
   simp
 · have hk := rck_of h
   have px := pl x hx
   have py := pl y hy
   have e : v2 (imT t p) (pN p x) (pN p y) = imG t p (pN p x) (pN p y) := v2_tabL px py
   rw [he, imG, qp x hx, qp y hy, v2_int h x y, Int.toNat_natCast] at e
   unfold pN σN at *
   rw [e]
theorem tw_tabs {t : List (List Int)} {p : List Int} (h : isRk t) (hl : p.length = t.length) (hp : j0v p) (he : imT t p = t) :
 twF p = tabL t.length (fun _ y => (pN p y : Int)) ∧ twS t p = tabL t.length fun x y => (invQ p (σN t (pN p y) x) : Int) := by
 obtain ⟨pm, ha⟩ := aut_of h hl hp he
 constructor
 · unfold twF
   rw [hl]
   exact tabL_congr fun x y hx hy => (pN_at pm (x := y) (by omega)).1
 · unfold twS
   rw [hl]
   refine tabL_congr fun x y hx hy => ?_
   unfold twH
   rfl
theorem inj_nd {f s : List (List Int)} (h : PM f s) (hn : ∀ x y x' y', x < f.length → y < f.length → x' < f.length → y' < f.length → σN f x y = σN f x' y' → τN s y x = τN s y' x' → x = x' ∧ y = y') : Inj f s := by
 rw [inj_ld h]
 intro a b ha hb he
 have h0 := h.pos
 have a1 : a / f.length < f.length := (Nat.div_lt_iff_lt_mul h0).2 ha
 have b1 : b / f.length < f.length := (Nat.div_lt_iff_lt_mul h0).2 hb
 have a2 : a % f.length < f.length := Nat.mod_lt _ h0
 have b2 : b % f.length < f.length := Nat.mod_lt _ h0
 unfold ldN at he
 have l1 := (h.v2s (a / f.length) (a % f.length)).2
 have l2 := (h.v2s (b / f.length) (b % f.length)).2
 have e1 := congrArg (· / f.length) he
 have e2 := congrArg (· % f.length) he
 simp only [Nat.mul_add_mod_of_lt l1, Nat.mul_add_mod_of_lt l2] at e2
 simp only [Nat.mul_comm _ f.length, Nat.mul_add_div h0, Nat.div_eq_of_lt l1, Nat.div_eq_of_lt l2, Nat.add_zero] at e1
 obtain ⟨h1, h2⟩ := hn _ _ _ _ a1 a2 b1 b2 e1 e2
 have q1 := Nat.div_add_mod a f.length
 have q2 := Nat.div_add_mod b f.length
 rw [h1, h2] at q1
 omega
theorem pair_of {f s : List (List Int)} (h : PM f s) : isPairMap f s :=
 ⟨⟨by have := h.pos; omega, by have := h.small; omega, h.tf⟩, ⟨by have := h.pos; have := h.len; omega, by have := h.small; have := h.len; omega, h.ts⟩, h.len.symm⟩
theorem reg_of {f s : List (List Int)} (h : Rg f s) (hi : Inj f s) : isReg f s := ⟨⟨pair_of h.1, hi, h.2.1⟩, h.2.2⟩
theorem tw_reg {t : List (List Int)} {p : List Int} (h : isRk t) (hl : p.length = t.length) (hp : j0v p) (he : imT t p = t) : isReg (twF p) (twS t p) ∧ raT (twF p) (twS t p) = t := by
 obtain ⟨pm, ha⟩ := aut_of h hl hp he
 have hk := rck_of h
 have nd := tw_nd ha hk
 have h0 := h.1.1
 have h12 := h.1.2.1
 obtain ⟨e1, e2⟩ := tw_tabs h hl hp he
 have rg := rg_tab nd (by omega) (by omega)
 have rg2 : Rg (twF p) (twS t p) := by rw [e1, e2]; exact rg
 have fl : (twF p).length = t.length := by rw [e1]; simp
 have s1 : ∀ x y, x < t.length → y < t.length → σN (twF p) x y = pN p y := fun x y hx hy => by
  unfold σN; rw [e1, v2_tabL hx hy]; simp
 have s2 : ∀ x y, x < t.length → y < t.length → τN (twS t p) y x = invQ p (σN t (pN p y) x) := fun x y hx hy => by
  unfold τN; rw [e2, v2_tabL hx hy]; simp
 refine ⟨reg_of rg2 (inj_nd rg2.1 ?_), ?_⟩
 · rw [fl]
   intro x y x' y' hx hy hx' hy' g1 g2
   rw [s1 _ _ hx hy, s1 _ _ hx' hy'] at g1
   obtain rfl : y = y' := nd.is x _ _ hx hy hy' g1
   rw [s2 _ _ hx hy, s2 _ _ hx' hy'] at g2
   exact ⟨nd.it y _ _ hy hx hx' g2, rfl⟩
 · have ht : Tab t := h.1.2.2
   rw [raT, fl, tab_eq (t := t) (n := t.length) rfl fun r hr => (ht r hr).1]
   simp only [tabL_length]
   refine tabL_congr fun x y hx hy => ?_
   have er : (twF p).getD y [] = p := by
    rw [e1]
    have hy' : y < (tabL t.length fun _ y => (pN p y : Int)).length := by simpa using hy
    rw [List.getD_eq_getElem?_getD, List.getElem?_eq_getElem hy']
    show ((List.range t.length).map fun x => (List.range t.length).map fun y => ((pN p y : Nat) : Int))[y]'(by simpa using hy) = p
    rw [List.getElem_map]
    apply List.ext_getElem
    · simp [hl]
    · intro i g1 g2
      simp [(pN_at pm g2).2.2]
   have et : tabL t.length (v2 t) = t := (tab_eq (t := t) (n := t.length) rfl fun r hr => (ht r hr).1).symm
   rw [et]
   have qx := ha.q x hx
   unfold raV
   rw [er]
   have k1 : v2 (twS t p) y (invQ p x) = (invQ p (σN t (pN p (invQ p x)) y) : Int) := by rw [e2]; exact v2_tabL hy qx
   rw [show (ixOf p (x : Int)).toNat = invQ p x from rfl, k1, ha.pq x hx, Int.toNat_natCast]
   have k2 : v2 (twF p) x (invQ p (σN t x y)) = (pN p (invQ p (σN t x y)) : Int) := by rw [e1]; exact v2_tabL hx (ha.q _ (hk.r _ _ hx hy))
   rw [k2, ha.pq _ (hk.r _ _ hx hy)]
   exact (v2_int h x y).symm
end Go.Mch
namespace Go.Mch

def ra (f s : List (List Int)) (x y : Nat) : Nat := σN (raT f s) x y
theorem ra_v {f s : List (List Int)} (h : PM f s) {x y : Nat} (hx : x < f.length) (hy : y < f.length) : v2 (raT f s) x y = raV f s x y ∧ (ra f s x y : Int) = raV f s x y ∧ ra f s x y < f.length := by
 have e : v2 (raT f s) x y = raV f s x y := v2_tabL hx hy
 have hr := raV_in h x y
 unfold ra σN
 rw [e]
 exact ⟨rfl, by omega, by omega⟩
theorem ixOf_row {f s : List (List Int)} (h : PM f s) (hn : permRows f) {a b : Nat} (ha : a < f.length) (hb : b < f.length) : ixOf (f.getD a []) (σN f a b : Int) = b := by
 have e : f.getD a [] = f[a] := by simp [ha]
 have hr := hn _ (List.getElem_mem ha)
 have hl := h.tf.row ha
 have h1 := (h.v2f a b).1
 rw [e]
 have hm : (σN f a b : Int) ∈ f[a] := by
  rw [h1, v2, e, List.getD_eq_getElem?_getD, List.getElem?_eq_getElem (by omega)]
  exact List.getElem_mem _
 obtain ⟨i1, i2⟩ := ixOf_in hm
 have hg := ixOf_getD f[a] (σN f a b : Int) i1
 have : (ixOf f[a] (σN f a b : Int)).toNat = b := by
  refine row_inj hr (by omega) (by omega) ?_
  rw [hg, h1, v2, e]
 omega
theorem ra_at {f s : List (List Int)} (h : Rg f s) {a b : Nat} (ha : a < f.length) (hb : b < f.length) : ra f s (σN f a b) a = σN f (σN f a b) (τN s b a) := by
 have e := (ra_v h.1 (h.1.v2f a b).2 ha).2.1
 unfold raV at e
 rw [ixOf_row h.1 h.2.2.1 ha hb, Int.toNat_natCast] at e
 have h2 := h.1.v2s a b
 have h3 := h.1.v2f (σN f a b) (τN s b a)
 rw [← h2.1, Int.toNat_natCast, ← h3.1] at e
 omega
theorem ra_lt {f s : List (List Int)} (h : PM f s) (x y : Nat) : ra f s x y < f.length := by
 have ht := raT_tab h
 have h0 := h.pos
 have := ht.lt (by simpa using h0) x y
 have := ht.nonneg x y
 simp only [raT_length] at *
 unfold ra σN
 omega
theorem ra_aut {f s : List (List Int)} (h : Rg f s) {c x y : Nat} (hc : c < f.length) (hx : x < f.length) (hy : y < f.length) : σN f c (ra f s x y) = ra f s (σN f c x) (σN f c y) := by
 have nd := nd_of h
 obtain ⟨b, hb, rfl⟩ := nd.ss y x hy hx
 have tcy := nd.rt y c hy hc
 have e1 := nd.e1 c y b hc hy hb
 have e2 := nd.e2 c y b hc hy hb
 have hb' := nd.rs (τN s y c) b tcy hb
 have ha' := nd.rs c y hc hy
 rw [ra_at h hy hb, ← e1, ra_at h ha' hb', e2]
 have hx' := nd.rs y b hy hb
 have tb := nd.rt b y hb hy
 have e3 := nd.e1 c (σN f y b) (τN s b y) hc hx' tb
 rw [← e3, e1]


theorem g2_nat {f s : List (List Int)} (h : PM f s) (x y : Int) : g2 f x y = (σN f x.toNat y.toNat : Int) ∧ g2 s x y = (τN s y.toNat x.toNat : Int) := ⟨(h.v2f _ _).1.symm, (h.v2s _ _).1.symm⟩
theorem g2_ra {f s : List (List Int)} (h : PM f s) (x y : Int) : g2 (raT f s) x y = (ra f s x.toNat y.toNat : Int) := by
 have := (raT_tab h).nonneg x.toNat y.toNat
 unfold g2 ra σN
 omega
theorem gm_cons (f : List (List Int)) (x : Int) (w : List Int) : gmL f (x :: w) = x :: (gmL f w).map (g2 f x) := by
 unfold gmL
 rw [List.length_cons, List.range_succ_eq_map]
 simp
theorem gm_nil (f : List (List Int)) : gmL f [] = [] := rfl
@[simp] theorem gm_length (f : List (List Int)) (w : List Int) : (gmL f w).length = w.length := by simp [gmL]
theorem gm_app (f : List (List Int)) (u w : List Int) : gmL f (u ++ w) = gmL f u ++ (gmL f w).map fun x => u.foldr (g2 f) x := by
 induction u with
 | nil => simp [gm_nil]
 | cons a u ih => simp [gm_cons, ih]
theorem gm_in {f s : List (List Int)} (h : PM f s) {w : List Int} (hw : inN f.length w) : inN f.length (gmL f w) := by
 induction w with
 | nil => exact hw
 | cons a w ih =>
  rw [gm_cons]
  intro v hv
  rcases List.mem_cons.1 hv with rfl | hv
  · exact hw _ List.mem_cons_self
  · obtain ⟨x, _, rfl⟩ := List.mem_map.1 hv
    exact h.gF _ _
theorem dW_mid (f s : List (List Int)) (u v : List Int) (a b : Int) : dW f s (u ++ a :: b :: v) u.length = u ++ g2 f a b :: g2 s a b :: v := by
 simp [dW, List.getD_eq_getElem?_getD]
theorem rW_mid (t : List (List Int)) (u v : List Int) (a b : Int) : rW t (u ++ a :: b :: v) u.length = u ++ b :: g2 t b a :: v := by
 simp [rW, List.getD_eq_getElem?_getD]
theorem cut_at {w : List Int} {k : Nat} (hk : k + 1 < w.length) : ∃ u a b v, w = u ++ a :: b :: v ∧ u.length = k := by
 refine ⟨w.take k, w[k], w[k + 1], w.drop (k + 2), ?_, by simp; omega⟩
 rw [← List.drop_eq_getElem_cons (i := k + 1), ← List.drop_eq_getElem_cons, List.take_append_drop]
theorem fold_aut {f s : List (List Int)} (h : Rg f s) : ∀ (u : List Int) (x y : Int), inN f.length u → (0 ≤ x ∧ x < f.length) → (0 ≤ y ∧ y < f.length) →
 u.foldr (g2 f) (g2 (raT f s) x y) = g2 (raT f s) (u.foldr (g2 f) x) (u.foldr (g2 f) y) := by
 intro u x y hu hx hy
 induction u with
 | nil => rfl
 | cons a u ih =>
  have hu' : inN f.length u := fun v hv => hu v (List.mem_cons_of_mem _ hv)
  have ha := hu a List.mem_cons_self
  have hX := foldg_in h.1 u hx
  have hY := foldg_in h.1 u hy
  simp only [List.foldr_cons]
  rw [ih hu']
  generalize u.foldr (g2 f) x = X at *
  generalize u.foldr (g2 f) y = Y at *
  rw [g2_ra h.1, (g2_nat h.1 a _).1, Int.toNat_natCast, ra_aut h (by omega) (by omega) (by omega), (g2_nat h.1 a X).1, (g2_nat h.1 a Y).1, g2_ra h.1, Int.toNat_natCast, Int.toNat_natCast]
theorem gm_move {f s : List (List Int)} (h : Rg f s) {w : List Int} (hw : inN f.length w) {k : Nat} (hk : k + 1 < w.length) : gmL f (dW f s w k) = rW (raT f s) (gmL f w) k := by
 obtain ⟨u, a, b, v, rfl, rfl⟩ := cut_at hk
 have hu : inN f.length u := fun v hv => hw v (by simp [hv])
 have ha := hw a (by simp)
 have hb := hw b (by simp)
 have hv : inN f.length v := fun x hx => hw x (by simp [hx])
 have nd := nd_of h
 obtain ⟨A, rfl⟩ : ∃ A : Nat, a = A := ⟨a.toNat, by omega⟩
 obtain ⟨B, rfl⟩ : ∃ B : Nat, b = B := ⟨b.toNat, by omega⟩
 have hA : A < f.length := by omega
 have hB : B < f.length := by omega
 rw [dW_mid, gm_app, gm_app]
 simp only [gm_cons, List.map_cons]
 have hl : (gmL f u).length = u.length := by simp
 rw [← hl, rW_mid]
 have e0 := (g2_nat h.1 A B).1
 have e1 := (g2_nat h.1 A B).2
 simp only [Int.toNat_natCast] at e0 e1
 have e2 : g2 (raT f s) (u.foldr (g2 f) (g2 f A B)) (u.foldr (g2 f) A) = u.foldr (g2 f) (g2 f (g2 f A B) (g2 s A B)) := by
  rw [← fold_aut h u _ _ hu (h.1.gF _ _) ha, e0, e1, g2_ra h.1, (g2_nat h.1 _ _).1]
  simp only [Int.toNat_natCast]
  rw [ra_at h hA hB]
 rw [e2, e0, e1]
 simp only [List.map_map]
 congr 3
 refine List.map_congr_left fun x hx => ?_
 simp only [Function.comp]
 have hx := gm_in h.1 hv x hx
 obtain ⟨X, rfl⟩ : ∃ X : Nat, x = X := ⟨x.toNat, by omega⟩
 have e3 := nd.e1 A B X hA hB (by omega)
 rw [(g2_nat h.1 (τN s B A : Int) X).1, (g2_nat h.1 (σN f A B : Int) _).1, (g2_nat h.1 (B : Int) X).1, (g2_nat h.1 (A : Int) _).1]
 simp only [Int.toNat_natCast]
 rw [e3]
theorem row_sur {f s : List (List Int)} (h : Rg f s) {a : Int} (ha : 0 ≤ a ∧ a < f.length) : ∀ w : List Int, inN f.length w → ∃ v, inN f.length v ∧ v.length = w.length ∧ v.map (g2 f a) = w := by
 have nd := nd_of h
 intro w
 induction w with
 | nil => intro _; exact ⟨[], by intro x hx; simp at hx, rfl, rfl⟩
 | cons b w ih =>
  intro hw
  obtain ⟨v, v1, v2, v3⟩ := ih fun x hx => hw x (List.mem_cons_of_mem _ hx)
  have hb := hw b List.mem_cons_self
  obtain ⟨y, y1, y2⟩ := nd.ss a.toNat b.toNat (by omega) (by omega)
  refine ⟨(y : Int) :: v, fun x hx => ?_, by simp [v2], ?_⟩
  · rcases List.mem_cons.1 hx with rfl | hx
    · omega
    · exact v1 x hx
  · rw [List.map_cons, v3, (g2_nat h.1 _ _).1, Int.toNat_natCast, y2, Int.toNat_of_nonneg hb.1]
theorem gm_sur {f s : List (List Int)} (h : Rg f s) : ∀ (n : Nat) (w : List Int), w.length = n → inN f.length w → ∃ v, inN f.length v ∧ v.length = w.length ∧ gmL f v = w := by
 intro n
 induction n with
 | zero => intro w hl _; exact ⟨[], by intro x hx; simp at hx, by simp [hl], by rw [List.length_eq_zero_iff.1 hl]; rfl⟩
 | succ n ih =>
  intro w hl hw
  obtain ⟨a, w, rfl⟩ : ∃ a v, w = a :: v := by cases w with
   | nil => simp at hl
   | cons a v => exact ⟨a, v, rfl⟩
  have ha := hw a List.mem_cons_self
  obtain ⟨u, u1, u2, u3⟩ := row_sur h ha w fun x hx => hw x (List.mem_cons_of_mem _ hx)
  simp only [List.length_cons] at hl
  obtain ⟨v, v1, v2, v3⟩ := ih u (by omega) u1
  refine ⟨a :: v, fun x hx => ?_, by simp [v2, u2], by rw [gm_cons, v3, u3]⟩
  rcases List.mem_cons.1 hx with rfl | hx
  · exact ha
  · exact v1 x hx

theorem ra_sd {f s : List (List Int)} (h : Rg f s) {p q r : Nat} (hp : p < f.length) (hq : q < f.length) (hr : r < f.length) : ra f s r (ra f s q p) = ra f s (ra f s r q) (ra f s r p) := by
 have hw : inN f.length [(p : Int), q, r] := w3_in hp hq hr
 obtain ⟨w, w1, w2, w3⟩ := gm_sur h 3 _ rfl hw
 obtain ⟨x, y, z, rfl⟩ : ∃ x y z, w = [x, y, z] := by
  match w, w2 with
  | [x, y, z], _ => exact ⟨x, y, z, rfl⟩
 have hx := w1 x (by simp)
 have hy := w1 y (by simp)
 have hz := w1 z (by simp)
 have hyb := h.2.1 x.toNat y.toNat z.toNat (by omega) (by omega) (by omega)
 unfold ybAt at hyb
 rw [Int.toNat_of_nonneg hx.1, Int.toNat_of_nonneg hy.1, Int.toNat_of_nonneg hz.1] at hyb
 have he := congrArg (gmL f) hyb
 have i1 := fun i => dW_in h.1 w1 i
 have i2 := fun i j => dW_in h.1 (i1 i) j
 rw [gm_move h (i2 0 1) (by simp), gm_move h (i1 0) (by simp), gm_move h w1 (by simp), gm_move h (i2 1 0) (by simp), gm_move h (i1 1) (by simp), gm_move h w1 (by simp), w3] at he
 have e : ∀ a b : Int, g2 (raT f s) a b = (ra f s a.toNat b.toNat : Int) := g2_ra h.1
 simp [rW, e] at he
 omega
theorem ra_inj {f s : List (List Int)} (h : Rg f s) (hi : Inj f s) {x y y' : Nat} (hx : x < f.length) (hy : y < f.length) (hy' : y' < f.length) (he : ra f s x y = ra f s x y') : y = y' := by
 have nd := nd_of h
 obtain ⟨b, hb, hbx⟩ := nd.ss y x hy hx
 obtain ⟨c, hc, hcx⟩ := nd.ss y' x hy' hx
 have e1 := ra_at h hy hb
 have e2 := ra_at h hy' hc
 rw [hbx] at e1
 rw [hcx] at e2
 rw [e1, e2] at he
 have he := nd.is x _ _ hx (nd.rt b y hb hy) (nd.rt c y' hc hy') he
 refine (inj_pair hi hy hb hy' hc ?_ ?_).1
 · rw [← (h.1.v2f y b).1, ← (h.1.v2f y' c).1, hbx, hcx]
 · rw [← (h.1.v2s y b).1, ← (h.1.v2s y' c).1, he]
theorem ra_rck {f s : List (List Int)} (h : Rg f s) (hi : Inj f s) : isRk (raT f s) := by
 have h0 := h.1.pos
 have h12 := h.1.small
 refine ⟨⟨by simp; omega, by simp; omega, raT_tab h.1⟩, ?_, ?_⟩
 · intro r hr
   have : raT f s = tabL f.length fun x y => (ra f s x y : Int) := tabL_congr fun x y hx hy => (ra_v h.1 hx hy).2.1.symm
   rw [this] at hr
   simp only [tabL, List.mem_map, List.mem_range] at hr
   obtain ⟨x, hx, rfl⟩ := hr
   exact permuted_row (fun y _ => ra_lt h.1 x y) fun y y' h1 h2 he => ra_inj h hi hx h1 h2 he
 · intro x y z hx hy hz
   simp only [raT_length] at hx hy hz
   have hv : ∀ a b : Nat, v2 (raT f s) a b = (ra f s a b : Int) := fun a b => by
    have := (raT_tab h.1).nonneg a b
    unfold ra σN
    omega
   unfold sdAt
   simp only [hv, Int.toNat_natCast]
   rw [ra_sd h hz hy hx]
end Go.Mch
namespace Go.Mch

def S_permS (pg : Pg) : Prop := ∀ p : List Int, p.length ≤ 1048576 → Call pg 355 [ix p] [ix p] (B (decide (isPerm p)))
theorem t_permS {pg : Pg} (hp : pg.fn 355 = some c_spec_IsPermutation) (h47 : S_perm pg 47) : S_permS pg := by
 intro p hl
 refine Call.intro hp rfl (by simp) ?_
 show wp _ _ c_spec_IsPermutation.body (post [.t 2] _ _ _) _
 simp [c_spec_IsPermutation]
 refine j0i (h47 p hl) rfl rfl (fun _ => rfl) ?_
 simp
def S_im9 (pg : Pg) : Prop := ∀ (t : List (List Int)) (p : List Int), Tab t → Pm p → p.length = t.length → Call pg 234 [tb t, ix p] [tb t, ix p] (.mem .own (some 1) (rows (imT t p)))
set_option maxRecDepth 10000 in
theorem t_im9 {pg : Pg} (hp : pg.fn 234 = some c_laws_image9) (h355 : S_permS pg) : S_im9 pg := by
 intro t p ht h hl
 have h12 := h.sm
 have h0 := h.pos
 have hpp : isPerm p := (perm_permuted (by omega) h12 h.pm.1).2 h.pm
 have hc1 := h355 p (by omega)
 rw [decide_eq_true hpp] at hc1
 refine Call.intro hp rfl (by simp) ?_
 show wp _ _ c_laws_image9.body (post [.t 4] _ _ _) _
 simp [c_laws_image9, hl]
 refine j0i hc1 rfl rfl (fun _ => rfl) ?_
 simp
 refine j0a (fun k e => e = fr [(0, some (.val (tb t))), (1, some (.val (ix p))), (5, some (.val (j0w (zTab t.length k)))), (6, some (.val (I k)))]) t.length ?_ ?_ 0 _ (by omega) ?_
 · rintro k e hk rfl
   have hz : (zTab t.length (k + 1)) = zTab t.length k ++ [List.replicate t.length 0] := by simp [zTab, List.range_succ]
   have hzl : (zTab t.length k).length = k := by simp [zTab]
   rw [hz]
   generalize zTab t.length k = Z at *
   simp [hk]
   exact ⟨by unfold roomy; omega, by unfold roomy; omega, by omega, by simp only [j0w, ownL, rows_snoc, List.map_replicate]⟩
 · rintro e rfl
   rw [← imZ_zero t p]
   simp
   refine j0a (fun a e => e = fr [(0, some (.val (tb t))), (1, some (.val (ix p))), (5, some (.val (.mem .own (some 1) (rows (imZ t p a 0))))), (7, some (.val (I a)))]) t.length ?_ ?_ 0 _ (by omega) rfl
   · rintro a e ha rfl
     rw [← imZ_next h hl a]
     simp [ha]
     refine j0a (fun b e => e = fr [(0, some (.val (tb t))), (1, some (.val (ix p))), (5, some (.val (.mem .own (some 1) (rows (imZ t p a b))))), (7, some (.val (I a))), (8, some (.val (I b)))]) t.length ?_ ?_ 0 _ (by omega) rfl
     · rintro b e hb rfl
       have hap : a < p.length := by omega
       have hbp : b < p.length := by omega
       have ra := h.inL _ (List.getElem_mem hap)
       have rb := h.inL _ (List.getElem_mem hbp)
       have hXl := imZ_length t p a b
       have hXr := fun {i : Nat} hi => imZ_row t p a b (i := i) hi
       obtain ⟨P, hP⟩ : ∃ P, p[a] = P := ⟨_, rfl⟩
       obtain ⟨Q, hQ⟩ : ∃ Q, p[b] = Q := ⟨_, rfl⟩
       rw [hP] at ra
       rw [hQ] at rb
       have hset := imZ_setD h hl hap hbp (P := P.toNat) (Q := Q.toNat) (by rw [hP]) (by rw [hQ])
       have hrow := ht.row ha
       have hbr : b < (t[a]).length := by rw [hrow]; exact hb
       have hv := get_v2 ha hbr
       have hv1 := ht.nonneg a b
       have hv2 := ht.lt (by omega) a b
       rw [← hset]
       clear hset
       generalize v2 t a b = v at *
       have hvl : v.toNat < p.length := by omega
       have hvl2 : v < p.length := by omega
       have hvl3 : ¬ v < 0 := by omega
       have hvl4 : ¬ (t.length : Int) ≤ v := by omega
       have hg : p[v.toNat] = p.getD v.toNat 0 := by simp [hvl]
       generalize p.getD v.toNat 0 = w at *
       have hgv : p[v.toNat]? = some w := by rw [List.getElem?_eq_getElem hvl, hg]
       have hvt : v < t.length := by omega
       have hvt2 : v.toNat < t.length := by omega
       generalize imZ t p a b = X at *
       have hPX : P.toNat < X.length := by omega
       have hPX2 : P < X.length := by omega
       have hr := hXr hPX
       have hXg : X.getD P.toNat [] = X[P.toNat] := by simp [hPX]
       rw [hXg]
       have hQX : Q.toNat < (X[P.toNat]).length := by omega
       have hQX2 : Q < (X[P.toNat]).length := by omega
       rw [← rows_set2 hPX]
       simp [ha, hb, hP, hQ, hrow, hv, hvl3, hvl4, hv1, hg, ra, rb, hPX, hPX2, hQX, hQX2, hl, hvt, hvt2]
       omega
     · rintro e rfl
       have hrow := ht.row ha
       simp [ha, hrow, j0x]
       omega
   · rintro e rfl
     rw [imZ_last h hl]
     simp
 · simp only [zTab, j0w, rows, List.range_zero, List.map_nil]; rfl
def S_gcd (pg : Pg) : Prop := ∀ a b : Nat, a ≤ 1048576 → b ≤ 1048576 → Call pg 356 [I a, I b] [I a, I b] (I (Nat.gcd a b))
theorem t_gcd {pg : Pg} (hp : pg.fn 356 = some c_impl_divisorOf) : S_gcd pg := by
 intro a b _ _
 refine Call.intro hp rfl (by simp) ?_
 show wp _ _ c_impl_divisorOf.body (post [.t 4] _ _ _) _
 simp [c_impl_divisorOf]
 refine wpLoop_lower (α := Nat × Nat) (fun z => z.2) (fun z e => Nat.gcd z.1 z.2 = Nat.gcd a b ∧ e = fr [(0, some (.val (I z.1))), (1, some (.val (I z.2)))]) ?_ (a, b) _ ⟨rfl, rfl⟩
 rintro ⟨x, y⟩ e ⟨g, rfl⟩
 simp only at g
 by_cases hy : y = 0
 · subst hy
   simp at g
   simp [g]
 · have hy' : 0 < y := by omega
   have hy0 : ¬ y = 0 := hy
   have hm : x % y < y := Nat.mod_lt _ hy'
   simp [hy', hy0]
   exact ⟨y, x % y, hm, by rw [← g, Nat.gcd_comm x y, Nat.gcd_rec y x, Nat.gcd_comm], by simp⟩
end Go.Mch
namespace Go.Mch

def left (st : List Bool × List Nat) : Nat := st.1.count false + st.2.length


def ctOk (f : List (List Int)) (p : Int) : Prop := (0 ≤ p ∧ p ≤ 12) ∧ f.length ^ p.toNat ≤ 5000
instance (f : List (List Int)) (p : Int) : Decidable (ctOk f p) := by unfold ctOk; infer_instance
end Go.Mch
namespace Go.Mch

def Rt (nb : Nat → List Nat) (a b : Nat) : Prop := ∀ S : Nat → Prop, S a → (∀ x y, S x → y ∈ nb x → S y) → S b
theorem Rt.refl (nb : Nat → List Nat) (a : Nat) : Rt nb a a := fun _ h _ => h
theorem Rt.trans {nb : Nat → List Nat} {a b c : Nat} (h : Rt nb a b) (h2 : Rt nb b c) : Rt nb a c := fun S hs hc => h2 S (h S hs hc) hc
theorem Rt.step {nb : Nat → List Nat} {a b c : Nat} (h : Rt nb a b) (h2 : c ∈ nb b) : Rt nb a c := fun S hs hc => hc _ _ (h S hs hc) h2
def seen (st : List Bool) (v : Nat) : Prop := st.getD v false = true
structure Eqr (N : Nat) (R : Nat → Nat → Prop) : Prop where
 r : ∀ a, R a a
 s : ∀ a b, a < N → R a b → R b a
 t : ∀ a b c, R a b → R b c → R a c
 g : ∀ a b, a < N → R a b → b < N
end Go.Mch
namespace Go.Mch





theorem idP {n : Nat} (h0 : 0 < n) (h12 : n ≤ 12) : Pm (idL n) ∧ ∀ x, x < n → pN (idL n) x = x ∧ invQ (idL n) x = x := by
 have hl : (idL n).length = n := by simp [idL]
 have pm : Pm (idL n) := ⟨permuted_row (g := fun y => y) (fun y hy => hy) (fun y y' _ _ he => he), by omega, by omega⟩
 have hp : ∀ x, x < n → pN (idL n) x = x := fun x hx => by simp [pN, idL, hx]
 refine ⟨pm, fun x hx => ⟨hp x hx, ?_⟩⟩
 have := pm.back (i := x) (by omega)
 rwa [(pN_at pm (x := x) (by omega)).2.2, hp x hx, Int.toNat_natCast] at this
theorem imT_id {t : List (List Int)} (h : isRk t) : imT t (idL t.length) = t := by
 have ht : Tab t := h.1.2.2
 obtain ⟨pm, hq⟩ := idP (n := t.length) (by have := h.1.1; omega) (by have := h.1.2.1; omega)
 have hl : (idL t.length).length = t.length := by simp [idL]
 have e := tab_eq (t := t) (n := t.length) rfl fun r hr => (ht r hr).1
 conv => rhs; rw [e]
 refine tabL_congr fun x y hx hy => ?_
 have hlt := (rck_of h).r x y hx hy
 unfold imG
 rw [(hq x hx).2, (hq y hy).2]
 have := (pN_at pm (x := σN t x y) (by omega)).1
 rw [(hq _ hlt).1] at this
 show (idL t.length).getD (σN t x y) 0 = _
 rw [this, v2_int h]
theorem tw_id {t : List (List Int)} (h : isRk t) : isReg (twF (idL t.length)) (twS t (idL t.length)) ∧ raT (twF (idL t.length)) (twS t (idL t.length)) = t ∧ (twF (idL t.length)).length = t.length ∧
 ∀ (w : List Int) (k : Nat), inN t.length w → k + 1 < w.length → dW (twF (idL t.length)) (twS t (idL t.length)) w k = rW t w k := by
 obtain ⟨pm, hq⟩ := idP (n := t.length) (by have := h.1.1; omega) (by have := h.1.2.1; omega)
 have hl : (idL t.length).length = t.length := by simp [idL]
 obtain ⟨h1, h2⟩ := tw_reg h hl pm.pm (imT_id h)
 obtain ⟨e1, e2⟩ := tw_tabs h hl pm.pm (imT_id h)
 refine ⟨h1, h2, by rw [e1]; simp, fun w k hw hk => ?_⟩
 obtain ⟨u, a, b, v, rfl, rfl⟩ := cut_at hk
 have ha := hw a (by simp)
 have hb := hw b (by simp)
 rw [dW_mid, rW_mid]
 have hA : a.toNat < t.length := by omega
 have hB : b.toNat < t.length := by omega
 have g1 : g2 (twF (idL t.length)) a b = b := by
  unfold g2
  rw [e1, v2_tabL hA hB, (hq _ hB).1]
  omega
 have g2' : g2 (twS t (idL t.length)) a b = g2 t b a := by
  unfold g2
  rw [e2, v2_tabL hA hB, (hq _ hB).1, (hq _ ((rck_of h).r _ _ hB hA)).2, v2_int h]
 rw [g1, g2']
end Go.Mch
namespace Go.Mch
def S_cop (pg : Pg) : Prop := ∀ a n : Nat, a ≤ 1048576 → n ≤ 1048576 → ∃ b : Bool, Call pg 456 [I a, I n] [I a, I n] (B b)
set_option maxRecDepth 10000 in
theorem t_cop {pg : Pg} (hp : pg.fn 456 = some c_spec_l03Coprime) : S_cop pg := by
 intro a n ha hn
 obtain ⟨b, _, h⟩ := Call.find (α := Bool) (Q := fun _ => True) (args := [I a, I n]) (r := fun b => B b) hp rfl (by simp) (by
  show wp _ _ c_spec_l03Coprime.body _ _
  generalize hR : (fun (x : X) (e : Env) => ∃ b : Bool, True ∧ post c_spec_l03Coprime.rs [I a, I n] [I a, I n] (B b) x e) = R
  have hfin : ∀ b : Bool, R .ret (fr [(4, some (.val (B b)))]) := fun b => by
   subst hR
   exact ⟨b, trivial, by simp [post, c_spec_l03Coprime]⟩
  simp [c_spec_l03Coprime]
  refine wpLoop_lower (α := Nat) (fun k => n + 1 - k) (fun k e => 2 ≤ k ∧ e = fr [(0, some (.val (I a))), (1, some (.val (I n))), (5, some (.val (I k)))]) ?_ 2 _ ⟨by omega, rfl⟩
  rintro k e ⟨hk, rfl⟩
  by_cases hkn : k ≤ n
  · have hk0 : ¬ k = 0 := by omega
    by_cases h1 : (a : Int) % k = 0
    · by_cases h2 : (n : Int) % k = 0
      · simp [hkn, hk0, h1, h2]
        exact hfin false
      · simp [hkn, hk0, h1, h2]
        exact ⟨by omega, k + 1, by omega, by omega, rfl⟩
    · simp [hkn, hk0, h1, j0x]
      exact ⟨by omega, k + 1, by omega, by omega, rfl⟩
  · have hkn' : n < k := by omega
    simp [hkn]
    exact hfin true)
 exact ⟨b, h⟩
def S_alx (pg : Pg) : Prop := ∀ n a b : Nat, n ≤ 64 → a ≤ 64 → b ≤ 64 → ∃ t : List (List Int), TabN n t ∧ Call pg 455 [I n, I a, I b] [I n, I a, I b] (j0w t)
set_option maxRecDepth 10000 in
theorem t_alx {pg : Pg} (hp : pg.fn 455 = some c_spec_l03Alexander) : S_alx pg := by
 intro n a b hn ha hb
 refine Call.find hp rfl (by simp) ?_
 show wp _ _ c_spec_l03Alexander.body _ _
 generalize hR : (fun (x : X) (e : Env) => ∃ l : List (List Int), TabN n l ∧ post c_spec_l03Alexander.rs [I n, I a, I b] [I n, I a, I b] (j0w l) x e) = R
 simp [c_spec_l03Alexander]
 refine j0a (fun k e => ∃ s : List (List Int), (s.length = k ∧ ∀ r ∈ s, RowIn n r) ∧ e = fr [(0, some (.val (I n))), (1, some (.val (I a))), (2, some (.val (I b))), (7, some (.val (j0w s))), (8, some (.val (I k)))]) n ?_ ?_ 0 _ (by omega) ⟨[], ⟨rfl, by simp⟩, rfl⟩
 · rintro k e hk ⟨s, ⟨g3, g4⟩, rfl⟩
   simp [hk]
   refine j0a (fun j e => ∃ q : List Int, (q.length = j ∧ ∀ v ∈ q, 0 ≤ v ∧ v < n) ∧ e = fr [(0, some (.val (I n))), (1, some (.val (I a))), (2, some (.val (I b))), (7, some (.val (j0w s))), (8, some (.val (I k))), (9, some (.val (ownL q))), (10, some (.val (I j)))]) n ?_ ?_ 0 _ (by omega) ⟨[], ⟨rfl, by simp⟩, rfl⟩
   · rintro j e hj ⟨q, ⟨i3, i4⟩, rfl⟩
     obtain ⟨u, hu, hu2⟩ : ∃ u : Nat, (b : Int) * k = u ∧ u ≤ 4096 := ⟨b * k, by simp, Nat.mul_le_mul hb (by omega : k ≤ 64)⟩
     obtain ⟨v, hv, hv2⟩ : ∃ v : Nat, (a : Int) * j = v ∧ v ≤ 4096 := ⟨a * j, by simp, Nat.mul_le_mul ha (by omega : j ≤ 64)⟩
     obtain ⟨m, hm, hm2⟩ : ∃ m : Nat, ((u : Int) + v).tmod n = m ∧ m < n := ⟨(u + v) % n, by rw [Int.tmod_eq_emod_of_nonneg (by omega), Int.natCast_emod]; simp, Nat.mod_lt _ (by omega)⟩
     have hn0 : ¬ n = 0 := by omega
     simp [hj, hu, hv, hm, hn0]
     exact ⟨by omega, by omega, by omega, by unfold roomy; omega, by omega, q ++ [(m : Int)], ⟨by simp [i3], snoc_in i4 (by omega)⟩, by simp only [ownL, List.map_append, List.map_cons, List.map_nil]⟩
   · rintro e ⟨q, ⟨i3, i4⟩, rfl⟩
     simp
     exact ⟨by unfold roomy; omega, by omega, s ++ [q], TabN.snoc ⟨g3, g4⟩ ⟨i3, i4⟩, by simp only [j0w, rows, List.map_append, List.map_cons, List.map_nil]⟩
 · rintro e ⟨s, ⟨g3, g4⟩, rfl⟩
   simp
   subst hR
   exact ⟨s, ⟨g3, g4⟩, by simp [post, c_spec_l03Alexander]⟩
theorem ins_perm {k : Nat} {q : List Int} (h : RowIn k q) (hd : q.Nodup) (r : Nat) : RowIn (k + 1) (q.take r ++ (k : Int) :: q.drop r) ∧ (q.take r ++ (k : Int) :: q.drop r).Nodup := by
 have hp : (q.take r ++ (k : Int) :: q.drop r).Perm ((k : Int) :: q) := by
  have := (List.perm_middle (a := (k : Int)) (l₁ := q.take r) (l₂ := q.drop r))
  rwa [List.take_append_drop] at this
 refine ⟨⟨by rw [hp.length_eq]; simp [h.1], fun v hv => ?_⟩, hp.nodup_iff.2 (List.nodup_cons.2 ⟨fun hm => ?_, hd⟩)⟩
 · rcases List.mem_cons.1 (hp.mem_iff.1 hv) with rfl | hm
   · omega
   · have := h.2 v hm; omega
 · have := h.2 _ hm; omega
def S_dpm (pg : Pg) : Prop := ∀ (c : Rw Int) (s : Int × Int) (n : Nat), Sr c s → n ≤ 64 → ∃ (s' : Int × Int) (p : List Int), (Sr c s' ∧ RowIn n p ∧ p.Nodup) ∧ Call pg 338 [src c s, I n] [src c s', I n] (ownL p)
set_option maxRecDepth 10000 in
theorem t_dpm {pg : Pg} (hp : pg.fn 338 = some c_spec_l03DrawPerm) (h336 : S_nxt pg) : S_dpm pg := by
 intro c s n hs hn
 have hfind := Call.findA (α := (Int × Int) × List Int) (Q := fun Y => Sr c Y.1 ∧ RowIn n Y.2 ∧ Y.2.Nodup) (args := [src c s, I n]) (args' := fun Y => [src c Y.1, I n]) (r := fun Y => ownL Y.2) hp rfl (by simp [F.lets, c_spec_l03DrawPerm, List.range, List.range.loop]) (by simp [kindOf]) ?_
 · obtain ⟨Y, h1, h2⟩ := hfind
   exact ⟨_, _, h1, h2⟩
 show wp _ _ c_spec_l03DrawPerm.body (postX _ _ _ _ _) _
 generalize hR : postX (fun Y : (Int × Int) × List Int => Sr c Y.1 ∧ RowIn n Y.2 ∧ Y.2.Nodup) c_spec_l03DrawPerm.rs [src c s, I n] (fun Y => [src c Y.1, I n]) (fun Y => ownL Y.2) = R
 simp [c_spec_l03DrawPerm]
 refine j0a (fun k e => ∃ (s' : Int × Int) (q : List Int), (Sr c s' ∧ RowIn k q ∧ q.Nodup) ∧ e = fr [(0, some (.val (src c s'))), (1, some (.val (I n))), (5, some (.val (ownL q))), (6, some (.val (I k)))]) n ?_ ?_ 0 _ (by omega) ⟨s, [], ⟨hs, ⟨rfl, by simp⟩, by simp⟩, rfl⟩
 · rintro k e hk ⟨s1, q, ⟨g1, g2, g3⟩, rfl⟩
   obtain ⟨s2, r, ⟨j1, j2⟩, hc⟩ := h336.at g1 (n := k + 1) (by omega)
   have hql := g2.1
   obtain ⟨i1, i2⟩ := ins_perm g2 g3 r
   have hrq : r ≤ q.length := by omega
   simp [hk]
   refine ⟨by omega, ?_⟩
   refine callS (ts' := [rawB c, I s2.1, H64 s2.2]) (r := I r) (by simpa using hc) ?_
   have w1 : win (q.map I) r (q.length - r) = (q.drop r).map I := by
    rw [win, List.map_drop]
    exact List.take_of_length_le (by simp)
   have w0 : win (q.map I) 0 r = (q.take r).map I := by rw [win, List.map_take]; rfl
   simp only [ownL] at *
   simp [hrq, roomy, w1, w0, -List.map_drop, -List.map_take]
   refine ⟨by omega, by omega, by omega, by omega, s2.1, s2.2, q.take r ++ (k : Int) :: q.drop r, ⟨j1, i1, i2⟩, by simp⟩
 · rintro e ⟨s1, q, ⟨g1, g2, g3⟩, rfl⟩
   simp
   subst hR
   exact ⟨(s1, q), ⟨g1, g2, g3⟩, by simp [post, c_spec_l03DrawPerm]⟩
end Go.Mch
namespace Go.Mch
def grwL : Nat → Nat → List Int → List (List Int) → List (List Int)
 | 0, _, p, l => l ++ [p]
 | k + 1, n, p, l => (List.range n).foldl (fun l (i : Nat) => if (i : Int) ∈ p then l else grwL k n (p ++ [(i : Int)]) l) l
def grwK (k n : Nat) (p : List Int) (l : List (List Int)) (i : Nat) : List (List Int) := (List.range i).foldl (fun l (i : Nat) => if (i : Int) ∈ p then l else grwL k n (p ++ [(i : Int)]) l) l
theorem grwK_succ (k n : Nat) (p : List Int) (l : List (List Int)) (i : Nat) : grwK k n p l (i + 1) = if (i : Int) ∈ p then grwK k n p l i else grwL k n (p ++ [(i : Int)]) (grwK k n p l i) := by
 simp [grwK, List.range_succ, List.foldl_append]
theorem grwL_len (n : Nat) : ∀ (k : Nat) (p : List Int) (l : List (List Int)), (grwL k n p l).length ≤ l.length + n ^ k := by
 intro k
 induction k with
 | zero => intro p l; simp [grwL]
 | succ k ih =>
  intro p l
  have h : ∀ i, (grwK k n p l i).length ≤ l.length + i * n ^ k := by
   intro i
   induction i with
   | zero => simp [grwK]
   | succ i ihi =>
    rw [grwK_succ, Nat.add_mul]
    split
    · omega
    · have := ih (p ++ [(i : Int)]) (grwK k n p l i)
      omega
  have := h n
  rw [Nat.pow_succ, Nat.mul_comm (n ^ k)]
  exact this
theorem grwL_succ (k n : Nat) (p : List Int) (l : List (List Int)) : grwL (k + 1) n p l = grwK k n p l n := rfl
def S_grw (pg : Pg) (k : Nat) : Prop := ∀ (p : List Int) (l : List (List Int)), p.length + k = 3 → l.length + 3 * 3 ^ k ≤ 1000 → ∃ x : T, Call pg 466 [I 3, ownL p, j0w l] [I 3, x, .gone] (j0w (grwL k 3 p l))
theorem t_grw0 {pg : Pg} (hp : pg.fn 466 = some c_spec_l01Grow) : S_grw pg 0 := by
 intro p l h hl
 refine ⟨.gone, Call.intro_tak hp rfl (by simp [F.letg, T.isGone, c_spec_l01Grow, List.range, List.range.loop]) ?_⟩
 show wp _ _ c_spec_l01Grow.body (post [.t 6] _ _ _) _
 have h3 : (p.length : Int) = 3 := by omega
 simp [c_spec_l01Grow, kindOf, h3]
 exact ⟨by unfold roomy; omega, by simp [rows, grwL]⟩
theorem t_grwS {pg : Pg} {k : Nat} (hp : pg.fn 466 = some c_spec_l01Grow) (h62 : S_has pg) (h31 : S_own pg) (h466 : S_grw pg k) (hk : k ≤ 2) : S_grw pg (k + 1) := by
 intro p l h hl
 refine ⟨ownL p, Call.intro_tak hp rfl (by simp [F.letg, T.isGone, c_spec_l01Grow, List.range, List.range.loop]) ?_⟩
 show wp _ _ c_spec_l01Grow.body (post [.t 6] _ _ _) _
 have h3 : ¬ (p.length : Int) = 3 := by omega
 simp [c_spec_l01Grow, kindOf, h3]
 refine j0a (fun i e => (grwK k 3 p l i).length ≤ l.length + i * 3 ^ k ∧ e = fr [(0, some (.val (I 3))), (1, some (.val (ownL p))), (2, some (.val (j0w (grwK k 3 p l i)))), (7, some (.val (I i)))]) 3 ?_ ?_ 0 _ (by omega) ⟨by simp [grwK], by simp [grwK]⟩
 · rintro i e hi ⟨g1, rfl⟩
   have hi' : (i : Int) < 3 := by omega
   have hk3 : 3 ^ k ≤ 9 := Nat.pow_le_pow_right (by omega : 0 < 3) hk
   have hpw : 3 ^ (k + 1) = 3 * 3 ^ k := by rw [Nat.pow_succ, Nat.mul_comm]
   have hik : i * 3 ^ k ≤ 2 * 3 ^ k := Nat.mul_le_mul_right _ (by omega)
   have hb : (grwK k 3 p l i).length + 3 * 3 ^ k ≤ 1000 := by omega
   have g2 := grwK_succ k 3 p l i
   have gl := grwL_len 3 k (p ++ [(i : Int)]) (grwK k 3 p l i)
   have hc1 := h62 p i (by omega)
   have hc2 := h31 p (by omega)
   obtain ⟨z, hc3⟩ := h466 (p ++ [(i : Int)]) (grwK k 3 p l i) (by simp; omega) hb
   simp [hi']
   refine j0i hc1 rfl rfl (fun _ => rfl) ?_
   by_cases hm : (i : Int) ∈ p
   · rw [if_pos hm] at g2
     simp [hm]
     refine ⟨by omega, by rw [g2, Nat.add_mul]; omega, by rw [g2]⟩
   · rw [if_neg hm] at g2
     simp [hm]
     refine j0i hc2 rfl rfl (fun _ => by simp) ?_
     simp
     refine ⟨by unfold roomy; omega, ?_⟩
     refine callM (ts' := [I 3, z, .gone]) (r := j0w (grwL k 3 (p ++ [(i : Int)]) (grwK k 3 p l i))) ?_ ?_ ?_ ?_
     · simp
     · have e : T.lendL (p.map I ++ [I (i : Int)]) = p.map I ++ [I (i : Int)] := by
        rw [show p.map I ++ [I (i : Int)] = (p ++ [(i : Int)]).map I by simp]
        exact lendL_mapI _
       simpa [ownL, e] using hc3
     · simp
     simp
     exact ⟨by omega, by rw [g2, Nat.add_mul]; omega, by rw [g2]⟩
 · rintro e ⟨g1, rfl⟩
   rw [grwL_succ]
   generalize grwK k 3 p l 3 = z at *
   simp [post]
def perm3 : List (List Int) := [[0, 1, 2], [0, 2, 1], [1, 0, 2], [1, 2, 0], [2, 0, 1], [2, 1, 0]]
def S_perms3 (pg : Pg) : Prop := Call pg 457 [I 3] [I 3] (j0w perm3)
theorem t_perms3 {pg : Pg} (hp : pg.fn 457 = some c_spec_l01Perms) (h466 : S_grw pg 3) : S_perms3 pg := by
 obtain ⟨z, hc⟩ := h466 [] [] rfl (by decide)
 have e : grwL 3 3 [] [] = perm3 := by decide
 rw [e] at hc
 have hc' : Call pg 466 [I 3, .mem .own (some 1) [], .mem .own (some 1) []] [I 3, z, .gone] (j0w perm3) := hc
 refine Call.intro hp rfl (by simp) ?_
 show wp _ _ c_spec_l01Perms.body (post [.t 2] _ _ _) _
 simp [c_spec_l01Perms]
 refine callM (ts' := [I 3, z, .gone]) (r := j0w perm3) ?_ ?_ ?_ ?_
 · simp
 · simpa using hc'
 · simp
 simp
theorem t_grw3 {pg : Pg} (hp : pg.fn 466 = some c_spec_l01Grow) (h62 : S_has pg) (h31 : S_own pg) : S_grw pg 3 := by
 have h0 := t_grw0 hp
 have h1 := t_grwS hp h62 h31 h0 (by omega)
 have h2 := t_grwS hp h62 h31 h1 (by omega)
 exact t_grwS hp h62 h31 h2 (by omega)
end Go.Mch
namespace Go.Mch
def exch3 : List (List Int) := [[0, 2, 1], [1, 0, 2], [2, 1, 0]]
structure Cnj (L : List (List Int)) : Prop where
 pos : 0 < L.length
 six : L.length ≤ 6
 pm : ∀ p ∈ L, Pm p ∧ p.length = 3
 cl : ∀ i j (hi : i < L.length) (hj : j < L.length), ∃ m, ∃ h : m < L.length, L[m] = thenL (thenL (invL L[i]) L[j]) L[i]
theorem cnj_of {L : List (List Int)} (h1 : 0 < L.length) (h2 : L.length ≤ 6) (h3 : ∀ p ∈ L, (∀ x ∈ p, 0 ≤ x ∧ x < (p.length : Int)) ∧ p.Nodup ∧ p.length = 3) (h4 : ∀ i < L.length, ∀ j < L.length, ∃ m, m < L.length ∧ L.getD m [] = thenL (thenL (invL (L.getD i [])) (L.getD j [])) (L.getD i [])) : Cnj L := by
 refine ⟨h1, h2, fun p hp => ⟨⟨⟨(h3 p hp).1, (h3 p hp).2.1⟩, by have := (h3 p hp).2.2; omega, by have := (h3 p hp).2.2; omega⟩, (h3 p hp).2.2⟩, fun i j hi hj => ?_⟩
 obtain ⟨m, hm, e⟩ := h4 i hi j hj
 refine ⟨m, hm, ?_⟩
 simpa [hi, hj, hm] using e
theorem cnj_perm : Cnj perm3 := cnj_of (by decide) (by decide) (by decide) (by decide)
theorem cnj_exch : Cnj exch3 := cnj_of (by decide) (by decide) (by decide) (by decide)
theorem tmodX {a n : Nat} (h : 0 < n) : ∃ m : Nat, ((a : Nat) : Int).tmod n = m ∧ m < n := ⟨a % n, by rw [Int.tmod_eq_emod_of_nonneg (by omega), Int.natCast_emod], Nat.mod_lt _ h⟩
def S_dtb (pg : Pg) : Prop := ∀ (c : Rw Int) (s : Int × Int) (most : Nat), Sr c s → 0 < most → most ≤ 12 → ∃ (s' : Int × Int) (n : Nat) (t : List (List Int)), (Sr c s' ∧ 0 < n ∧ n ≤ most ∧ TabN n t) ∧ Call pg 444 [src c s, I most] [src c s', I most] (j0w t)
set_option maxHeartbeats 2000000 in
set_option maxRecDepth 10000 in
theorem t_dtb {pg : Pg} (hp : pg.fn 444 = some j1b) (h336 : S_nxt pg) (h338 : S_dpm pg) (h31 : S_own pg) (h455 : S_alx pg) (h456 : S_cop pg) (h457 : S_perms3 pg) (h304 : S_inv pg 304) (h279 : S_then pg 279) (h67 : S_same pg) : S_dtb pg := by
 intro c s most hs m0 m12
 have hfind := Call.findA (α := (Int × Int) × Nat × List (List Int)) (Q := fun Y => Sr c Y.1 ∧ 0 < Y.2.1 ∧ Y.2.1 ≤ most ∧ TabN Y.2.1 Y.2.2) (args := [src c s, I most]) (args' := fun Y => [src c Y.1, I most]) (r := fun Y => j0w Y.2.2) hp rfl (by simp [F.lets, j1b, List.range, List.range.loop]) (by simp [kindOf]) ?_
 · obtain ⟨Y, h1, h2⟩ := hfind
   exact ⟨_, _, _, h1, h2⟩
 show wp _ _ j1b.body (postX _ _ _ _ _) _
 generalize hR : postX (fun Y : (Int × Int) × Nat × List (List Int) => Sr c Y.1 ∧ 0 < Y.2.1 ∧ Y.2.1 ≤ most ∧ TabN Y.2.1 Y.2.2) j1b.rs [src c s, I most] (fun Y => [src c Y.1, I most]) (fun Y => j0w Y.2.2) = R
 have hfin : ∀ (s' : Int × Int) (k : Nat) (t : List (List Int)), Sr c s' → 0 < k → k ≤ most → TabN k t → R .ret (fr [(0, some (.val (src c s'))), (1, some (.val (I most))), (4, some (.val (j0w t)))]) := by
  intro s' k X a1 a2 a3 a4
  subst hR
  exact ⟨(s', k, X), ⟨a1, a2, a3, a4⟩, by simp [post, j1b]⟩
 obtain ⟨s1, r1, ⟨k1, k2⟩, hc1⟩ := h336.at hs (n := most) m0
 obtain ⟨s2, kd, ⟨k3, k4⟩, hc2⟩ := h336.at k1 (n := 5) (by omega)
 obtain ⟨n, hn⟩ : ∃ n : Nat, (1 : Int) + r1 = n := ⟨1 + r1, by omega⟩
 have hn0 : 0 < n := by omega
 have hnm : n ≤ most := by omega
 have hnn : ¬ n = 0 := by omega
 simp [j1b]
 refine callS (ts' := [rawB c, I s1.1, H64 s1.2]) (r := I r1) (by simpa using hc1) ?_
 simp [hn]
 refine ⟨by omega, ?_⟩
 refine callS (ts' := [rawB c, I s2.1, H64 s2.2]) (r := I kd) (by simpa using hc2) ?_
 by_cases hk0 : kd = 0
 · obtain ⟨s3, p, ⟨j1, j2, j3⟩, hc3⟩ := h338 c s2 n k3 (by omega)
   simp [hk0]
   refine callS (ts' := [rawB c, I s3.1, H64 s3.2]) (r := ownL p) (by simpa using hc3) ?_
   simp
   refine j0a (fun k e => ∃ t : List (List Int), (t.length = k ∧ ∀ r ∈ t, RowIn n r) ∧ e = fr [(0, some (.val (src c s3))), (1, some (.val (I most))), (5, some (.val (I n))), (6, some (.val (ownL p))), (7, some (.val (j0w t))), (8, some (.val (I k)))]) n ?_ ?_ 0 _ (by omega) ⟨[], ⟨rfl, by simp⟩, rfl⟩
   · rintro k e hk ⟨t, ⟨g1, g2⟩, rfl⟩
     have hpl := j2.1
     simp [hk]
     refine j0i (h31 p (by omega)) rfl rfl (fun _ => by simp) ?_
     simp
     exact ⟨by unfold roomy; omega, by omega, t ++ [p], TabN.snoc ⟨g1, g2⟩ j2, by simp only [j0w, rows, List.map_append, List.map_cons, List.map_nil]⟩
   · rintro e ⟨t, g, rfl⟩
     simp
     exact hfin s3 n t j1 hn0 hnm g
 · by_cases hk1 : kd = 1
   · obtain ⟨a2, ha2, ha2'⟩ := tmodX (a := 2) hn0
     have ha3 : (2 : Int).tmod n = a2 := ha2
     obtain ⟨n1, hn1⟩ : ∃ n1 : Nat, (n : Int) - 1 = n1 := ⟨n - 1, by omega⟩
     obtain ⟨t, ht, hc3⟩ := h455 n n1 a2 (by omega) (by omega) (by omega)
     simp [hk1, hnn, ha3, hn1]
     refine ⟨by omega, ?_⟩
     refine j0i hc3 rfl rfl (fun _ => by simp) ?_
     simp
     exact hfin s2 n t k3 hn0 hnm ht
   · by_cases hk2 : kd = 2
     · simp [hk2]
       refine j0a (fun k e => ∃ s' : Int × Int, Sr c s' ∧ e = fr [(0, some (.val (src c s'))), (1, some (.val (I most))), (5, some (.val (I n))), (9, some (.val (I k)))]) 6 ?_ ?_ 0 _ (by omega) ⟨s2, k3, rfl⟩
       · rintro k e hk ⟨s3, g1, rfl⟩
         obtain ⟨s4, a, ⟨j1, j2⟩, hd1⟩ := h336.at g1 (n := n) hn0
         obtain ⟨b, hcb⟩ := h456 a n (by omega) (by omega)
         obtain ⟨z, hz⟩ : ∃ z : Nat, (1 : Int) - a + n = z := ⟨1 + n - a, by omega⟩
         obtain ⟨y, hy, hy'⟩ := tmodX (a := z) hn0
         obtain ⟨t, ht, hct⟩ := h455 n a y (by omega) (by omega) (by omega)
         have hk' : (k : Int) < 6 := by omega
         simp [hk']
         refine callS (ts' := [rawB c, I s4.1, H64 s4.2]) (r := I a) (by simpa using hd1) ?_
         simp
         refine j0i hcb rfl rfl (fun _ => rfl) ?_
         cases b with
         | true =>
          simp [hz, hnn, hy, -tmod_nat]
          refine ⟨by omega, by omega, ?_⟩
          refine j0i hct rfl rfl (fun _ => by simp) ?_
          simp
          exact hfin s4 n t j1 hn0 hnm ht
         | false =>
          simp
          exact ⟨by omega, s4.1, s4.2, j1, rfl⟩
       · rintro e ⟨s3, g1, rfl⟩
         simp
         obtain ⟨s4, u, ⟨v1, v2⟩, hcu⟩ := h336.at g1 (n := n) hn0
         obtain ⟨g, hg, hg0, hgn, hgu⟩ : ∃ g : Nat, mmI true 1 (u : Int) = g ∧ 0 < g ∧ g ≤ 12 ∧ (u ≠ 0 → g = u) := by
          by_cases hu : u = 0
          · exact ⟨1, by simp [mmI, hu], by omega, by omega, fun h => (h hu).elim⟩
          · exact ⟨u, by simp [mmI]; omega, by omega, by omega, fun _ => rfl⟩
         obtain ⟨g1, hg1⟩ : ∃ g1 : Nat, (g : Int) - 1 = g1 := ⟨g - 1, by omega⟩
         obtain ⟨g2, hg2, hg2'⟩ := tmodX (a := 2) hg0
         have hg2 : (2 : Int).tmod g = g2 := hg2
         obtain ⟨d, hd⟩ : ∃ d : Nat, (n : Int) - u = d := ⟨n - u, by omega⟩
         have hd0 : 0 < d := by omega
         obtain ⟨d1, hd1, hd1'⟩ := tmodX (a := 1) hd0
         have hd1 : (1 : Int).tmod d = d1 := hd1
         obtain ⟨A, hA, hcA⟩ := h455 g g1 g2 (by omega) (by omega) (by omega)
         obtain ⟨D, hD, hcD⟩ := h455 d d1 0 (by omega) (by omega) (by omega)
         obtain ⟨s5, p, ⟨v3, v4, v5⟩, hcp⟩ := h338 c s4 d v1 (by omega)
         have hgz : ¬ g = 0 := by omega
         have hdz : ¬ d = 0 := by omega
         refine callS (ts' := [rawB c, I s4.1, H64 s4.2]) (r := I u) (by simpa using hcu) ?_
         simp [hg, hgz, hg1, hg2, -tmod_nat]
         refine ⟨by omega, ?_⟩
         refine j0i hcA rfl rfl (fun _ => by simp) ?_
         simp [hd, hdz, hd1, -tmod_nat]
         refine ⟨by omega, ?_⟩
         refine j0i hcD rfl rfl (fun _ => by simp) ?_
         by_cases hu0 : u = 0
         · simp [hu0]
           have hdn : d = n := by omega
           subst hdn
           exact hfin s4 d D v1 hn0 hnm hD
         · simp [hu0, hd]
           refine ⟨by omega, ?_⟩
           refine callS (ts' := [rawB c, I s5.1, H64 s5.2]) (r := ownL p) (by simpa using hcp) ?_
           simp
           refine j0a (fun k e => ∃ t : List (List Int), (t.length = k ∧ ∀ r ∈ t, RowIn n r) ∧ e = fr [(0, some (.val (src c s5))), (1, some (.val (I most))), (5, some (.val (I n))), (18, some (.val (I u))), (19, some (.val (j0w A))), (20, some (.val (j0w D))), (21, some (.val (ownL p))), (22, some (.val (j0w t))), (23, some (.val (I k)))]) n ?_ ?_ 0 _ (by omega) ⟨[], ⟨rfl, by simp⟩, rfl⟩
           · rintro k e hk ⟨t, ⟨w1, w2⟩, rfl⟩
             simp [hk]
             refine j0a (fun j e => ∃ q : List Int, (q.length = j ∧ ∀ v ∈ q, 0 ≤ v ∧ v < n) ∧ e = fr [(0, some (.val (src c s5))), (1, some (.val (I most))), (5, some (.val (I n))), (18, some (.val (I u))), (19, some (.val (j0w A))), (20, some (.val (j0w D))), (21, some (.val (ownL p))), (22, some (.val (j0w t))), (23, some (.val (I k))), (24, some (.val (ownL q))), (25, some (.val (I j)))]) n ?_ ?_ 0 _ (by omega) ⟨[], ⟨rfl, by simp⟩, rfl⟩
             · rintro j e hj ⟨q, ⟨x1, x2⟩, rfl⟩
               by_cases hku : k < u
               · by_cases hju : j < u
                 · have hgu' := hgu hu0
                   subst hgu'
                   obtain ⟨y1, y2, y3, y4, y5⟩ := hA.at hku hju
                   simp [hj, hku, hju]
                   have hgr : (rows A)[k]? = some (ownL A[k]) := by rw [rows_get, List.getElem?_eq_getElem y1]; rfl
                   simp [y1, hgr, y2]
                   exact ⟨by unfold roomy; omega, by omega, q ++ [(A[k])[j]], ⟨by simp [x1], snoc_in x2 (by omega)⟩, by simp only [ownL, List.map_append, List.map_cons, List.map_nil]⟩
                 · have hju' : u ≤ j := by omega
                   have hku' : ¬ u ≤ k := by omega
                   simp [hj, hku, hju, hku', j0x]
                   exact ⟨by unfold roomy; omega, by omega, q ++ [(j : Int)], ⟨by simp [x1], snoc_in x2 (by omega)⟩, by simp only [ownL, List.map_append, List.map_cons, List.map_nil]⟩
               · have hku' : u ≤ k := by omega
                 by_cases hju : j < u
                 · have hju' : ¬ u ≤ j := by omega
                   simp [hj, hku, hku', hju', j0x]
                   exact ⟨by unfold roomy; omega, by omega, q ++ [(j : Int)], ⟨by simp [x1], snoc_in x2 (by omega)⟩, by simp only [ownL, List.map_append, List.map_cons, List.map_nil]⟩
                 · have hju' : u ≤ j := by omega
                   simp [hj, hku, hku', hju', j0x]
                   obtain ⟨ku, eku⟩ : ∃ ku : Nat, (k : Int) - u = ku := ⟨k - u, by omega⟩
                   obtain ⟨ju, eju⟩ : ∃ ju : Nat, (j : Int) - u = ju := ⟨j - u, by omega⟩
                   obtain ⟨y1, y2, y3, y4, y5⟩ := hD.at (i := ku) (j := ju) (by omega) (by omega)
                   have hgr : (rows D)[ku]? = some (ownL D[ku]) := by rw [rows_get, List.getElem?_eq_getElem y1]; rfl
                   obtain ⟨z, ez⟩ : ∃ z : Nat, (D[ku])[ju] = z := ⟨((D[ku])[ju]).toNat, by omega⟩
                   have hpl := v4.1
                   have hz : z < p.length := by omega
                   have hpz := v4.2 _ (List.getElem_mem hz)
                   have kk : k - u = ku := by omega
                   have jj : j - u = ju := by omega
                   simp [eku, eju, kk, jj, y1, hgr, y2, ez, hz]
                   exact ⟨by omega, by omega, by omega, by unfold roomy; omega, by omega, q ++ [(u : Int) + p[z]], ⟨by simp [x1], snoc_in x2 (by omega)⟩, by simp only [ownL, List.map_append, List.map_cons, List.map_nil]⟩
             · rintro e ⟨q, ⟨x1, x2⟩, rfl⟩
               simp
               exact ⟨by unfold roomy; omega, by omega, t ++ [q], TabN.snoc ⟨w1, w2⟩ ⟨x1, x2⟩, by simp only [j0w, rows, List.map_append, List.map_cons, List.map_nil]⟩
           · rintro e ⟨t, w, rfl⟩
             simp
             exact hfin s5 n t v3 hn0 hnm w
     · by_cases hk3 : kd = 3
       · by_cases hm6 : 6 ≤ most
         · have hm6' : (6 : Int) ≤ most := by omega
           obtain ⟨sK, z, ⟨k5, k6⟩, hcz⟩ := h336.at k3 (n := 2) (by omega)
           simp [hk3, hm6']
           refine j0i h457 rfl rfl (fun _ => by simp) ?_
           simp
           refine callS (ts' := [rawB c, I sK.1, H64 sK.2]) (r := I z) (by simpa using hcz) ?_
           by_cases hz : z = 0
           · have hL := cnj_exch
             simp [hz]
             refine j0a (fun i e => ∃ t : List (List Int), (t.length = i ∧ ∀ r ∈ t, RowIn exch3.length r) ∧ e = fr [(0, some (.val (src c sK))), (1, some (.val (I most))), (11, some (.val (j0w exch3))), (12, some (.val (j0w t))), (13, some (.val (I i)))]) exch3.length ?_ ?_ 0 _ (by omega) ⟨[], ⟨rfl, by simp⟩, rfl⟩
             · rintro i e hi ⟨t, ⟨w1, w2⟩, rfl⟩
               simp [hi]
               refine j0a (fun j e => ∃ q : List Int, (q.length = j ∧ ∀ v ∈ q, 0 ≤ v ∧ v < exch3.length) ∧ e = fr [(0, some (.val (src c sK))), (1, some (.val (I most))), (11, some (.val (j0w exch3))), (12, some (.val (j0w t))), (13, some (.val (I i))), (14, some (.val (ownL q))), (15, some (.val (I j)))]) exch3.length ?_ ?_ 0 _ (by omega) ⟨[], ⟨rfl, by simp⟩, rfl⟩
               · rintro j e hj ⟨q, ⟨x1, x2⟩, rfl⟩
                 obtain ⟨m, hm, em⟩ := hL.cl i j hi hj
                 obtain ⟨pi, li⟩ := hL.pm _ (List.getElem_mem hi)
                 obtain ⟨pj, lj⟩ := hL.pm _ (List.getElem_mem hj)
                 have gi : (rows exch3)[i]? = some (ownL exch3[i]) := by rw [rows_get, List.getElem?_eq_getElem hi]; rfl
                 have gj : (rows exch3)[j]? = some (ownL exch3[j]) := by rw [rows_get, List.getElem?_eq_getElem hj]; rfl
                 have h1 := h304 exch3[i] pi
                 have h2 := h279 (invL exch3[i]) exch3[j] (by simp; omega) (by
                  have := (invL_ok pi).1.2
                  intro x hx
                  have := this x hx
                  omega)
                 have h3 := h279 (thenL (invL exch3[i]) exch3[j]) exch3[i] (by simp; omega) (by
                  intro x hx
                  rw [thenL, List.mem_map] at hx
                  obtain ⟨y, hy, rfl⟩ := hx
                  have hy2 := (invL_ok pi).1.2 y hy
                  have hyl : y.toNat < (exch3[j]).length := by omega
                  rw [List.getD_eq_getElem?_getD, List.getElem?_eq_getElem hyl, Option.getD_some]
                  have := pj.1.1 _ (List.getElem_mem hyl)
                  omega)
                 rw [← em] at h3
                 simp [hi, hj, gi, gj]
                 refine j0i h1 rfl rfl (fun _ => by simp) ?_
                 simp [hj, gj]
                 refine j0i h2 rfl rfl (fun _ => by simp) ?_
                 simp [hi, gi]
                 refine j0i h3 rfl rfl (fun _ => by simp) ?_
                 simp
                 refine wpLoop_lower (α := Nat) (fun k => exch3.length - k) (fun k e => k ≤ m ∧ e = fr [(0, some (.val (src c sK))), (1, some (.val (I most))), (11, some (.val (j0w exch3))), (12, some (.val (j0w t))), (13, some (.val (I i))), (14, some (.val (ownL q))), (15, some (.val (I j))), (16, some (.val (ownL exch3[m]))), (17, some (.val (I k)))]) ?_ 0 _ ⟨by omega, rfl⟩
                 rintro k e ⟨hkm, rfl⟩
                 have hkl : k < exch3.length := by omega
                 have gk : (rows exch3)[k]? = some (ownL exch3[k]) := by rw [rows_get, List.getElem?_eq_getElem hkl]; rfl
                 have lk := (hL.pm _ (List.getElem_mem hkl)).2
                 have h4 := h67 exch3[k] exch3[m] (by omega)
                 have hsix := hL.six
                 simp [hkl, gk]
                 refine j0i h4 rfl rfl (fun _ => rfl) ?_
                 by_cases he : exch3[k] = exch3[m]
                 · simp [he]
                   exact ⟨by unfold roomy; omega, by omega, q ++ [(k : Int)], ⟨by simp [x1], snoc_in x2 (by omega)⟩, by simp only [ownL, List.map_append, List.map_cons, List.map_nil]⟩
                 · have hne : k ≠ m := fun h => he (by subst h; rfl)
                   simp [he]
                   exact ⟨by omega, k + 1, by omega, by omega, rfl⟩
               · rintro e ⟨q, ⟨x1, x2⟩, rfl⟩
                 simp
                 have hsix := hL.six
                 exact ⟨by unfold roomy; omega, by omega, t ++ [q], TabN.snoc ⟨w1, w2⟩ ⟨x1, x2⟩, by simp only [j0w, rows, List.map_append, List.map_cons, List.map_nil]⟩
             · rintro e ⟨t, w, rfl⟩
               simp
               exact hfin sK exch3.length t k5 hL.pos (by have := hL.six; omega) w
           · have hL := cnj_perm
             simp [hz]
             refine j0a (fun i e => ∃ t : List (List Int), (t.length = i ∧ ∀ r ∈ t, RowIn perm3.length r) ∧ e = fr [(0, some (.val (src c sK))), (1, some (.val (I most))), (11, some (.val (j0w perm3))), (12, some (.val (j0w t))), (13, some (.val (I i)))]) perm3.length ?_ ?_ 0 _ (by omega) ⟨[], ⟨rfl, by simp⟩, rfl⟩
             · rintro i e hi ⟨t, ⟨w1, w2⟩, rfl⟩
               simp [hi]
               refine j0a (fun j e => ∃ q : List Int, (q.length = j ∧ ∀ v ∈ q, 0 ≤ v ∧ v < perm3.length) ∧ e = fr [(0, some (.val (src c sK))), (1, some (.val (I most))), (11, some (.val (j0w perm3))), (12, some (.val (j0w t))), (13, some (.val (I i))), (14, some (.val (ownL q))), (15, some (.val (I j)))]) perm3.length ?_ ?_ 0 _ (by omega) ⟨[], ⟨rfl, by simp⟩, rfl⟩
               · rintro j e hj ⟨q, ⟨x1, x2⟩, rfl⟩
                 obtain ⟨m, hm, em⟩ := hL.cl i j hi hj
                 obtain ⟨pi, li⟩ := hL.pm _ (List.getElem_mem hi)
                 obtain ⟨pj, lj⟩ := hL.pm _ (List.getElem_mem hj)
                 have gi : (rows perm3)[i]? = some (ownL perm3[i]) := by rw [rows_get, List.getElem?_eq_getElem hi]; rfl
                 have gj : (rows perm3)[j]? = some (ownL perm3[j]) := by rw [rows_get, List.getElem?_eq_getElem hj]; rfl
                 have h1 := h304 perm3[i] pi
                 have h2 := h279 (invL perm3[i]) perm3[j] (by simp; omega) (by
                  have := (invL_ok pi).1.2
                  intro x hx
                  have := this x hx
                  omega)
                 have h3 := h279 (thenL (invL perm3[i]) perm3[j]) perm3[i] (by simp; omega) (by
                  intro x hx
                  rw [thenL, List.mem_map] at hx
                  obtain ⟨y, hy, rfl⟩ := hx
                  have hy2 := (invL_ok pi).1.2 y hy
                  have hyl : y.toNat < (perm3[j]).length := by omega
                  rw [List.getD_eq_getElem?_getD, List.getElem?_eq_getElem hyl, Option.getD_some]
                  have := pj.1.1 _ (List.getElem_mem hyl)
                  omega)
                 rw [← em] at h3
                 simp [hi, hj, gi, gj]
                 refine j0i h1 rfl rfl (fun _ => by simp) ?_
                 simp [hj, gj]
                 refine j0i h2 rfl rfl (fun _ => by simp) ?_
                 simp [hi, gi]
                 refine j0i h3 rfl rfl (fun _ => by simp) ?_
                 simp
                 refine wpLoop_lower (α := Nat) (fun k => perm3.length - k) (fun k e => k ≤ m ∧ e = fr [(0, some (.val (src c sK))), (1, some (.val (I most))), (11, some (.val (j0w perm3))), (12, some (.val (j0w t))), (13, some (.val (I i))), (14, some (.val (ownL q))), (15, some (.val (I j))), (16, some (.val (ownL perm3[m]))), (17, some (.val (I k)))]) ?_ 0 _ ⟨by omega, rfl⟩
                 rintro k e ⟨hkm, rfl⟩
                 have hkl : k < perm3.length := by omega
                 have gk : (rows perm3)[k]? = some (ownL perm3[k]) := by rw [rows_get, List.getElem?_eq_getElem hkl]; rfl
                 have lk := (hL.pm _ (List.getElem_mem hkl)).2
                 have h4 := h67 perm3[k] perm3[m] (by omega)
                 have hsix := hL.six
                 simp [hkl, gk]
                 refine j0i h4 rfl rfl (fun _ => rfl) ?_
                 by_cases he : perm3[k] = perm3[m]
                 · simp [he]
                   exact ⟨by unfold roomy; omega, by omega, q ++ [(k : Int)], ⟨by simp [x1], snoc_in x2 (by omega)⟩, by simp only [ownL, List.map_append, List.map_cons, List.map_nil]⟩
                 · have hne : k ≠ m := fun h => he (by subst h; rfl)
                   simp [he]
                   exact ⟨by omega, k + 1, by omega, by omega, rfl⟩
               · rintro e ⟨q, ⟨x1, x2⟩, rfl⟩
                 simp
                 have hsix := hL.six
                 exact ⟨by unfold roomy; omega, by omega, t ++ [q], TabN.snoc ⟨w1, w2⟩ ⟨x1, x2⟩, by simp only [j0w, rows, List.map_append, List.map_cons, List.map_nil]⟩
             · rintro e ⟨t, w, rfl⟩
               simp
               exact hfin sK perm3.length t k5 hL.pos (by have := hL.six; omega) w
         · have hm6' : ¬ (6 : Int) ≤ most := by omega
           simp [hk3, hm6']
           obtain ⟨s4, u, ⟨v1, v2⟩, hcu⟩ := h336.at k3 (n := n) hn0
           obtain ⟨g, hg, hg0, hgn, hgu⟩ : ∃ g : Nat, mmI true 1 (u : Int) = g ∧ 0 < g ∧ g ≤ 12 ∧ (u ≠ 0 → g = u) := by
            by_cases hu : u = 0
            · exact ⟨1, by simp [mmI, hu], by omega, by omega, fun h => (h hu).elim⟩
            · exact ⟨u, by simp [mmI]; omega, by omega, by omega, fun _ => rfl⟩
           obtain ⟨g1, hg1⟩ : ∃ g1 : Nat, (g : Int) - 1 = g1 := ⟨g - 1, by omega⟩
           obtain ⟨g2, hg2, hg2'⟩ := tmodX (a := 2) hg0
           have hg2 : (2 : Int).tmod g = g2 := hg2
           obtain ⟨d, hd⟩ : ∃ d : Nat, (n : Int) - u = d := ⟨n - u, by omega⟩
           have hd0 : 0 < d := by omega
           obtain ⟨d1, hd1, hd1'⟩ := tmodX (a := 1) hd0
           have hd1 : (1 : Int).tmod d = d1 := hd1
           obtain ⟨A, hA, hcA⟩ := h455 g g1 g2 (by omega) (by omega) (by omega)
           obtain ⟨D, hD, hcD⟩ := h455 d d1 0 (by omega) (by omega) (by omega)
           obtain ⟨s5, p, ⟨v3, v4, v5⟩, hcp⟩ := h338 c s4 d v1 (by omega)
           have hgz : ¬ g = 0 := by omega
           have hdz : ¬ d = 0 := by omega
           refine callS (ts' := [rawB c, I s4.1, H64 s4.2]) (r := I u) (by simpa using hcu) ?_
           simp [hg, hgz, hg1, hg2, -tmod_nat]
           refine ⟨by omega, ?_⟩
           refine j0i hcA rfl rfl (fun _ => by simp) ?_
           simp [hd, hdz, hd1, -tmod_nat]
           refine ⟨by omega, ?_⟩
           refine j0i hcD rfl rfl (fun _ => by simp) ?_
           by_cases hu0 : u = 0
           · simp [hu0]
             have hdn : d = n := by omega
             subst hdn
             exact hfin s4 d D v1 hn0 hnm hD
           · simp [hu0, hd]
             refine ⟨by omega, ?_⟩
             refine callS (ts' := [rawB c, I s5.1, H64 s5.2]) (r := ownL p) (by simpa using hcp) ?_
             simp
             refine j0a (fun k e => ∃ t : List (List Int), (t.length = k ∧ ∀ r ∈ t, RowIn n r) ∧ e = fr [(0, some (.val (src c s5))), (1, some (.val (I most))), (5, some (.val (I n))), (18, some (.val (I u))), (19, some (.val (j0w A))), (20, some (.val (j0w D))), (21, some (.val (ownL p))), (22, some (.val (j0w t))), (23, some (.val (I k)))]) n ?_ ?_ 0 _ (by omega) ⟨[], ⟨rfl, by simp⟩, rfl⟩
             · rintro k e hk ⟨t, ⟨w1, w2⟩, rfl⟩
               simp [hk]
               refine j0a (fun j e => ∃ q : List Int, (q.length = j ∧ ∀ v ∈ q, 0 ≤ v ∧ v < n) ∧ e = fr [(0, some (.val (src c s5))), (1, some (.val (I most))), (5, some (.val (I n))), (18, some (.val (I u))), (19, some (.val (j0w A))), (20, some (.val (j0w D))), (21, some (.val (ownL p))), (22, some (.val (j0w t))), (23, some (.val (I k))), (24, some (.val (ownL q))), (25, some (.val (I j)))]) n ?_ ?_ 0 _ (by omega) ⟨[], ⟨rfl, by simp⟩, rfl⟩
               · rintro j e hj ⟨q, ⟨x1, x2⟩, rfl⟩
                 by_cases hku : k < u
                 · by_cases hju : j < u
                   · have hgu' := hgu hu0
                     subst hgu'
                     obtain ⟨y1, y2, y3, y4, y5⟩ := hA.at hku hju
                     simp [hj, hku, hju]
                     have hgr : (rows A)[k]? = some (ownL A[k]) := by rw [rows_get, List.getElem?_eq_getElem y1]; rfl
                     simp [y1, hgr, y2]
                     exact ⟨by unfold roomy; omega, by omega, q ++ [(A[k])[j]], ⟨by simp [x1], snoc_in x2 (by omega)⟩, by simp only [ownL, List.map_append, List.map_cons, List.map_nil]⟩
                   · have hju' : u ≤ j := by omega
                     have hku' : ¬ u ≤ k := by omega
                     simp [hj, hku, hju, hku', j0x]
                     exact ⟨by unfold roomy; omega, by omega, q ++ [(j : Int)], ⟨by simp [x1], snoc_in x2 (by omega)⟩, by simp only [ownL, List.map_append, List.map_cons, List.map_nil]⟩
                 · have hku' : u ≤ k := by omega
                   by_cases hju : j < u
                   · have hju' : ¬ u ≤ j := by omega
                     simp [hj, hku, hku', hju', j0x]
                     exact ⟨by unfold roomy; omega, by omega, q ++ [(j : Int)], ⟨by simp [x1], snoc_in x2 (by omega)⟩, by simp only [ownL, List.map_append, List.map_cons, List.map_nil]⟩
                   · have hju' : u ≤ j := by omega
                     simp [hj, hku, hku', hju', j0x]
                     obtain ⟨ku, eku⟩ : ∃ ku : Nat, (k : Int) - u = ku := ⟨k - u, by omega⟩
                     obtain ⟨ju, eju⟩ : ∃ ju : Nat, (j : Int) - u = ju := ⟨j - u, by omega⟩
                     obtain ⟨y1, y2, y3, y4, y5⟩ := hD.at (i := ku) (j := ju) (by omega) (by omega)
                     have hgr : (rows D)[ku]? = some (ownL D[ku]) := by rw [rows_get, List.getElem?_eq_getElem y1]; rfl
                     obtain ⟨z, ez⟩ : ∃ z : Nat, (D[ku])[ju] = z := ⟨((D[ku])[ju]).toNat, by omega⟩
                     have hpl := v4.1
                     have hz : z < p.length := by omega
                     have hpz := v4.2 _ (List.getElem_mem hz)
                     have kk : k - u = ku := by omega
                     have jj : j - u = ju := by omega
                     simp [eku, eju, kk, jj, y1, hgr, y2, ez, hz]
                     exact ⟨by omega, by omega, by omega, by unfold roomy; omega, by omega, q ++ [(u : Int) + p[z]], ⟨by simp [x1], snoc_in x2 (by omega)⟩, by simp only [ownL, List.map_append, List.map_cons, List.map_nil]⟩
               · rintro e ⟨q, ⟨x1, x2⟩, rfl⟩
                 simp
                 exact ⟨by unfold roomy; omega, by omega, t ++ [q], TabN.snoc ⟨w1, w2⟩ ⟨x1, x2⟩, by simp only [j0w, rows, List.map_append, List.map_cons, List.map_nil]⟩
             · rintro e ⟨t, w, rfl⟩
               simp
               exact hfin s5 n t v3 hn0 hnm w
       · have e1 : ¬ (kd : Int) = 1 := by omega
         have e2 : ¬ (kd : Int) = 2 := by omega
         have e3 : ¬ (kd : Int) = 3 := by omega
         simp [hk0, e1, e2, e3]
         obtain ⟨s4, u, ⟨v1, v2⟩, hcu⟩ := h336.at k3 (n := n) hn0
         obtain ⟨g, hg, hg0, hgn, hgu⟩ : ∃ g : Nat, mmI true 1 (u : Int) = g ∧ 0 < g ∧ g ≤ 12 ∧ (u ≠ 0 → g = u) := by
          by_cases hu : u = 0
          · exact ⟨1, by simp [mmI, hu], by omega, by omega, fun h => (h hu).elim⟩
          · exact ⟨u, by simp [mmI]; omega, by omega, by omega, fun _ => rfl⟩
         obtain ⟨g1, hg1⟩ : ∃ g1 : Nat, (g : Int) - 1 = g1 := ⟨g - 1, by omega⟩
         obtain ⟨g2, hg2, hg2'⟩ := tmodX (a := 2) hg0
         have hg2 : (2 : Int).tmod g = g2 := hg2
         obtain ⟨d, hd⟩ : ∃ d : Nat, (n : Int) - u = d := ⟨n - u, by omega⟩
         have hd0 : 0 < d := by omega
         obtain ⟨d1, hd1, hd1'⟩ := tmodX (a := 1) hd0
         have hd1 : (1 : Int).tmod d = d1 := hd1
         obtain ⟨A, hA, hcA⟩ := h455 g g1 g2 (by omega) (by omega) (by omega)
         obtain ⟨D, hD, hcD⟩ := h455 d d1 0 (by omega) (by omega) (by omega)
         obtain ⟨s5, p, ⟨v3, v4, v5⟩, hcp⟩ := h338 c s4 d v1 (by omega)
         have hgz : ¬ g = 0 := by omega
         have hdz : ¬ d = 0 := by omega
         refine callS (ts' := [rawB c, I s4.1, H64 s4.2]) (r := I u) (by simpa using hcu) ?_
         simp [hg, hgz, hg1, hg2, -tmod_nat]
         refine ⟨by omega, ?_⟩
         refine j0i hcA rfl rfl (fun _ => by simp) ?_
         simp [hd, hdz, hd1, -tmod_nat]
         refine ⟨by omega, ?_⟩
         refine j0i hcD rfl rfl (fun _ => by simp) ?_
         by_cases hu0 : u = 0
         · simp [hu0]
           have hdn : d = n := by omega
           subst hdn
           exact hfin s4 d D v1 hn0 hnm hD
         · simp [hu0, hd]
           refine ⟨by omega, ?_⟩
           refine callS (ts' := [rawB c, I s5.1, H64 s5.2]) (r := ownL p) (by simpa using hcp) ?_
           simp
           refine j0a (fun k e => ∃ t : List (List Int), (t.length = k ∧ ∀ r ∈ t, RowIn n r) ∧ e = fr [(0, some (.val (src c s5))), (1, some (.val (I most))), (5, some (.val (I n))), (18, some (.val (I u))), (19, some (.val (j0w A))), (20, some (.val (j0w D))), (21, some (.val (ownL p))), (22, some (.val (j0w t))), (23, some (.val (I k)))]) n ?_ ?_ 0 _ (by omega) ⟨[], ⟨rfl, by simp⟩, rfl⟩
           · rintro k e hk ⟨t, ⟨w1, w2⟩, rfl⟩
             simp [hk]
             refine j0a (fun j e => ∃ q : List Int, (q.length = j ∧ ∀ v ∈ q, 0 ≤ v ∧ v < n) ∧ e = fr [(0, some (.val (src c s5))), (1, some (.val (I most))), (5, some (.val (I n))), (18, some (.val (I u))), (19, some (.val (j0w A))), (20, some (.val (j0w D))), (21, some (.val (ownL p))), (22, some (.val (j0w t))), (23, some (.val (I k))), (24, some (.val (ownL q))), (25, some (.val (I j)))]) n ?_ ?_ 0 _ (by omega) ⟨[], ⟨rfl, by simp⟩, rfl⟩
             · rintro j e hj ⟨q, ⟨x1, x2⟩, rfl⟩
               by_cases hku : k < u
               · by_cases hju : j < u
                 · have hgu' := hgu hu0
                   subst hgu'
                   obtain ⟨y1, y2, y3, y4, y5⟩ := hA.at hku hju
                   simp [hj, hku, hju]
                   have hgr : (rows A)[k]? = some (ownL A[k]) := by rw [rows_get, List.getElem?_eq_getElem y1]; rfl
                   simp [y1, hgr, y2]
                   exact ⟨by unfold roomy; omega, by omega, q ++ [(A[k])[j]], ⟨by simp [x1], snoc_in x2 (by omega)⟩, by simp only [ownL, List.map_append, List.map_cons, List.map_nil]⟩
                 · have hju' : u ≤ j := by omega
                   have hku' : ¬ u ≤ k := by omega
                   simp [hj, hku, hju, hku', j0x]
                   exact ⟨by unfold roomy; omega, by omega, q ++ [(j : Int)], ⟨by simp [x1], snoc_in x2 (by omega)⟩, by simp only [ownL, List.map_append, List.map_cons, List.map_nil]⟩
               · have hku' : u ≤ k := by omega
                 by_cases hju : j < u
                 · have hju' : ¬ u ≤ j := by omega
                   simp [hj, hku, hku', hju', j0x]
                   exact ⟨by unfold roomy; omega, by omega, q ++ [(j : Int)], ⟨by simp [x1], snoc_in x2 (by omega)⟩, by simp only [ownL, List.map_append, List.map_cons, List.map_nil]⟩
                 · have hju' : u ≤ j := by omega
                   simp [hj, hku, hku', hju', j0x]
                   obtain ⟨ku, eku⟩ : ∃ ku : Nat, (k : Int) - u = ku := ⟨k - u, by omega⟩
                   obtain ⟨ju, eju⟩ : ∃ ju : Nat, (j : Int) - u = ju := ⟨j - u, by omega⟩
                   obtain ⟨y1, y2, y3, y4, y5⟩ := hD.at (i := ku) (j := ju) (by omega) (by omega)
                   have hgr : (rows D)[ku]? = some (ownL D[ku]) := by rw [rows_get, List.getElem?_eq_getElem y1]; rfl
                   obtain ⟨z, ez⟩ : ∃ z : Nat, (D[ku])[ju] = z := ⟨((D[ku])[ju]).toNat, by omega⟩
                   have hpl := v4.1
                   have hz : z < p.length := by omega
                   have hpz := v4.2 _ (List.getElem_mem hz)
                   have kk : k - u = ku := by omega
                   have jj : j - u = ju := by omega
                   simp [eku, eju, kk, jj, y1, hgr, y2, ez, hz]
                   exact ⟨by omega, by omega, by omega, by unfold roomy; omega, by omega, q ++ [(u : Int) + p[z]], ⟨by simp [x1], snoc_in x2 (by omega)⟩, by simp only [ownL, List.map_append, List.map_cons, List.map_nil]⟩
             · rintro e ⟨q, ⟨x1, x2⟩, rfl⟩
               simp
               exact ⟨by unfold roomy; omega, by omega, t ++ [q], TabN.snoc ⟨w1, w2⟩ ⟨x1, x2⟩, by simp only [j0w, rows, List.map_append, List.map_cons, List.map_nil]⟩
           · rintro e ⟨t, w, rfl⟩
             simp
             exact hfin s5 n t v3 hn0 hnm w
end Go.Mch
namespace Go.Mch
def S_d3 (pg : Pg) : Prop := ∀ (c : Rw Int) (s : Int × Int) (most : Nat), Sr c s → 0 < most → most ≤ 12 → ∃ (s' : Int × Int) (n : Nat) (t : List (List Int)), (Sr c s' ∧ 0 < n ∧ n ≤ most ∧ TabN n t) ∧ Call pg 401 [src c s, I most] [src c s', I most] (ownC t)
set_option maxRecDepth 10000 in
theorem t_d3 {pg : Pg} (hp : pg.fn 401 = some c_spec_l03Draw) (h336 : S_nxt pg) (h444 : S_dtb pg) (h338 : S_dpm pg) (h303 : S_image pg 303) : S_d3 pg := by
 intro c s most hs m0 m12
 have hfind := Call.findA (α := (Int × Int) × Nat × List (List Int)) (Q := fun Y => Sr c Y.1 ∧ 0 < Y.2.1 ∧ Y.2.1 ≤ most ∧ TabN Y.2.1 Y.2.2) (args := [src c s, I most]) (args' := fun Y => [src c Y.1, I most]) (r := fun Y => ownC Y.2.2) hp rfl (by simp [F.lets, c_spec_l03Draw, List.range, List.range.loop]) (by simp [kindOf]) ?_
 · obtain ⟨Y, h1, h2⟩ := hfind
   exact ⟨_, _, _, h1, h2⟩
 show wp _ _ c_spec_l03Draw.body (postX _ _ _ _ _) _
 generalize hR : postX (fun Y : (Int × Int) × Nat × List (List Int) => Sr c Y.1 ∧ 0 < Y.2.1 ∧ Y.2.1 ≤ most ∧ TabN Y.2.1 Y.2.2) c_spec_l03Draw.rs [src c s, I most] (fun Y => [src c Y.1, I most]) (fun Y => ownC Y.2.2) = R
 have hfin : ∀ (s' : Int × Int) (k : Nat) (t : List (List Int)), Sr c s' → 0 < k → k ≤ most → TabN k t → R .ret (fr [(0, some (.val (src c s'))), (1, some (.val (I most))), (4, some (.val (.mem .own none [j0w t])))]) := by
  intro s' k X a1 a2 a3 a4
  subst hR
  exact ⟨(s', k, X), ⟨a1, a2, a3, a4⟩, by simp [post, c_spec_l03Draw]⟩
 obtain ⟨s1, n, t, ⟨k1, k2, k3, k4⟩, hc1⟩ := h444 c s most hs m0 m12
 obtain ⟨s2, r, ⟨k5, _⟩, hc2⟩ := h336.at k1 (n := 2) (by omega)
 obtain ⟨s3, p, ⟨k6, k7, k8⟩, hc3⟩ := h338 c s2 n k5 (by omega)
 have hpm := pm_of k7 k8 k2 (by omega)
 have hl1 := k4.1
 have hc4 := h303 t p k4.tab hpm (by rw [k7.1, hl1])
 subst hl1
 simp [c_spec_l03Draw]
 refine callS (ts' := [rawB c, I s1.1, H64 s1.2]) (r := j0w t) (by simpa using hc1) ?_
 simp
 refine callS (ts' := [rawB c, I s2.1, H64 s2.2]) (r := I r) (by simpa using hc2) ?_
 by_cases hr : r = 0
 · simp [hr]
   refine callS (ts' := [rawB c, I s3.1, H64 s3.2]) (r := ownL p) (by simpa using hc3) ?_
   simp
   refine j0i hc4 rfl rfl (fun _ => by simp) ?_
   simp
   exact hfin s3 _ (imT t p) k6 k2 k3 (imT_tabN k4 hpm k7.1)
 · simp [hr]
   exact hfin s2 _ t k5 k2 k3 k4
end Go.Mch
namespace Go.Mch
theorem S_likeI.ix {pg : Pg} (h : S_likeI pg) (X Y : List Int) (hs : X.length ≤ 1048576) : Call pg 141 [ix X, ix Y] [ix X, ix Y] (B (decide (X = Y))) := h (.of X) (.of Y) hs
end Go.Mch
namespace Go.Mch
def S_s3 (pg : Pg) : Prop := ∀ (n : Nat) (t : List (List Int)), 0 < n → n ≤ 12 → TabN n t → ∃ X : S2, PMN n X.1 X.2 ∧ Call pg 324 [cyT t] [cyT t] (ownS X)
set_option maxRecDepth 10000 in
theorem t_s3 {pg : Pg} (hp : pg.fn 324 = some c_spec_l03Solution) (h280 : S_copyT pg 280) : S_s3 pg := by
 intro n t n0 n12 ht
 have hl := ht.1
 refine Call.find hp rfl (by simp) ?_
 show wp _ _ c_spec_l03Solution.body _ _
 generalize hR : (fun (x : X) (e : Env) => ∃ X : S2, PMN n X.1 X.2 ∧ post c_spec_l03Solution.rs [cyT t] [cyT t] (ownS X) x e) = R
 have hc1 := h280 t ⟨by omega, fun r hr => by have := (ht.2 r hr).1; omega⟩
 simp [c_spec_l03Solution]
 refine j0i hc1 rfl rfl (fun _ => by simp) ?_
 simp
 refine j0a (fun k e => ∃ s : List (List Int), (s.length = k ∧ ∀ r ∈ s, RowIn n r) ∧ e = fr [(1, some (.val (.mem .own none [tb t]))), (2, some (.val (.mem .own none [nil, nil]))), (3, some (.val (.mem .own none [j0w t, ownN2 s]))), (4, some (.val (I k)))]) n ?_ ?_ 0 _ (by omega) ⟨[], ⟨rfl, by simp⟩, rfl⟩
 · rintro k e hk ⟨s, ⟨g3, g4⟩, rfl⟩
   simp [hk, hl]
   refine j0a (fun j e => ∃ q : List Int, (q.length = j ∧ ∀ v ∈ q, 0 ≤ v ∧ v < n) ∧ e = fr [(1, some (.val (.mem .own none [tb t]))), (2, some (.val (.mem .own none [nil, nil]))), (3, some (.val (.mem .own none [j0w t, ownN2 s]))), (4, some (.val (I k))), (5, some (.val (ownL q))), (6, some (.val (I j)))]) n ?_ ?_ 0 _ (by omega) ⟨[], ⟨rfl, by simp⟩, rfl⟩
   · rintro j e hj ⟨q, ⟨i3, i4⟩, rfl⟩
     simp [hj, hl]
     exact ⟨by unfold roomy; omega, by omega, q ++ [(k : Int)], ⟨by simp [i3], snoc_in i4 (by omega)⟩, by simp only [ownL, List.map_append, List.map_cons, List.map_nil]⟩
   · rintro e ⟨q, ⟨i3, i4⟩, rfl⟩
     by_cases hk0 : k = 0
     · subst hk0
       obtain rfl : s = [] := List.length_eq_zero_iff.1 g3
       simp [hl]
       exact ⟨by unfold roomy; omega, [q], ⟨rfl, one_row ⟨i3, i4⟩⟩, rfl⟩
     · rw [ownN2_ne g3 (by omega)]
       simp [hl]
       exact ⟨by unfold roomy; omega, by omega, s ++ [q], TabN.snoc ⟨g3, g4⟩ ⟨i3, i4⟩, by simp only [ownN2_snoc]⟩
 · rintro e ⟨s, ⟨g3, g4⟩, rfl⟩
   rw [ownN2_ne g3 n0]
   simp [hl]
   subst hR
   exact ⟨(t, s), ⟨ht, ⟨g3, g4⟩⟩, by simp [post, c_spec_l03Solution]⟩
end Go.Mch
namespace Go.Mch

theorem perm_of {p : List Int} (h : isPerm p) : j0v p := by
 refine (perm_permuted h.1 h.2.1 fun x hx => ?_).1 h
 refine Classical.byContradiction fun hn => ?_
 have hx2 : x ∉ nums p.length := fun hm => hn (mem_nums.1 hm)
 have := len_le_of_sub (x :: nums p.length) p (List.nodup_cons.2 ⟨hx2, nums_nodup _⟩) fun y hy => by
  rcases List.mem_cons.1 hy with rfl | hy
  · exact hx
  · have hr := mem_nums.1 hy
    have := h.2.2 y.toNat (by omega)
    rw [show ((y.toNat : Nat) : Int) = y by omega] at this
    exact this
 simp [nums] at this
 omega
set_option maxRecDepth 10000 in
theorem t_tw_impl {pg : Pg} (hp : pg.fn 171 = some c_impl_TwistedSolution) (h33 : S_isRk pg 33) (h66 : S_isPermuted pg) (h306 : S_image pg 306) (h305 : S_eqTb pg 305) (h307 : S_inv pg 307) (h308 : S_solBy pg) (h309 : S_tw1 pg) : S_tw pg 171 := by
 intro t p hf hpl
 refine Call.intro hp rfl (by simp) ?_
 show wp _ _ c_impl_TwistedSolution.body (post [.cell 4 (some 2), .t 5] _ _ _) _
 simp [c_impl_TwistedSolution]
 refine j0i (h33 t hf) rfl rfl (fun _ => rfl) ?_
 by_cases h1 : isRk t
 · have ht : Tab t := h1.1.2.2
   have hn0 := h1.1.1
   have hn1 := h1.1.2.1
   simp [dec_true h1]
   by_cases hl : p.length = t.length
   · simp [hl]
     refine j0i (h66 p hpl) rfl rfl (fun _ => rfl) ?_
     by_cases h2 : j0v p
     · have hpm : Pm p := ⟨h2, by omega, by omega⟩
       simp [h2]
       refine j0i (h306 t p ht hpm hl) rfl rfl (fun _ => by simp) ?_
       simp
       refine j0i (h305 (imT t p) t ⟨by simp [imT]; omega, fun r hr => by rw [tabL_row hr]; omega⟩) rfl rfl (fun _ => rfl) ?_
       by_cases h3 : imT t p = t
       · have hb := h308 p.length (twG p) (twH t p) 309 [.mem .old none [ix p], .mem .old none [ix (invL p)], .mem .old none [tb t]] hpl (by simp) (by simp) fun x y hx hy => h309 t p x y ht hpm hl hx hy
         have hiv := h307 p hpm
         generalize invL p = V at *
         simp [h3]
         refine j0i hiv rfl rfl (fun _ => by simp) ?_
         simp
         refine j0i hb rfl rfl (fun _ => by simp) ?_
         simp [twR, twC, h1, hl, h2, h3, solT, twF, twS]
       · simp [h3, twR, twC, h1, hl, h2, solT]
     · simp [h2, twR, twC, h1, hl, solT]
   · have hl' : ¬ (p.length : Int) = t.length := by omega
     simp [hl, hl', twR, twC, h1, solT, j0x]
 · simp [twR, twC, h1, solT]
set_option maxRecDepth 10000 in
theorem t_tw_spec {pg : Pg} (hp : pg.fn 170 = some c_spec_TwistedSolution) (h28 : S_isRk pg 28) (h47 : S_perm pg 47) (h303 : S_image pg 303) (h302 : S_eqTb pg 302) (h304 : S_inv pg 304) : S_tw pg 170 := by
 intro t p hf hpl
 refine Call.intro hp rfl (by simp) ?_
 show wp _ _ c_spec_TwistedSolution.body (post [.cell 4 (some 2), .t 5] _ _ _) _
 simp [c_spec_TwistedSolution]
 refine j0i (h28 t hf) rfl rfl (fun _ => rfl) ?_
 by_cases h1 : isRk t
 · have ht : Tab t := h1.1.2.2
   have hn0 := h1.1.1
   have hn1 := h1.1.2.1
   simp [dec_true h1]
   refine j0i (h47 p hpl) rfl rfl (fun _ => rfl) ?_
   by_cases h2 : isPerm p
   · simp [h2]
     by_cases hl : p.length = t.length
     · have hpm : Pm p := ⟨perm_of h2, by omega, by omega⟩
       simp [hl]
       refine j0i (h303 t p ht hpm hl) rfl rfl (fun _ => by simp) ?_
       simp
       refine j0i (h302 (imT t p) t ⟨by simp [imT]; omega, fun r hr => by rw [tabL_row hr]; omega⟩) rfl rfl (fun _ => rfl) ?_
       by_cases h3 : imT t p = t
       · have hiv := h304 p hpm
         simp [h3]
         refine j0i hiv rfl rfl (fun _ => by simp) ?_
         simp
         refine j0a (fun i e => e = fr [(1, some (.val (ix p))), (2, some (.val (.mem .own none [tb t]))), (4, some (.val (.mem .own none [nil, nil]))), (6, some (.val (.mem .own (some 1) ((invL p).map I)))), (7, some (.val (.mem .own none [rowN ((twF p).take i), rowN ((twS t p).take i)]))), (8, some (.val (I i)))]) p.length ?_ ?_ 0 _ (by omega) ?_
         · rintro i e hi rfl
           have hF : (twF p).take (i + 1) = (twF p).take i ++ [rowG (twG p) i p.length] := tabL_take (twG p) hi
           have hS : (twS t p).take (i + 1) = (twS t p).take i ++ [rowG (twH t p) i p.length] := tabL_take (twH t p) hi
           have hFl : ((twF p).take i).length ≤ i := by simp; omega
           have hSl : ((twS t p).take i).length ≤ i := by simp; omega
           rw [hF, hS, rowN_snoc, rowN_snoc]
           generalize (twF p).take i = X at *
           generalize (twS t p).take i = Y at *
           clear hF hS
           simp [hi]
           refine j0a (fun j e => e = fr [(1, some (.val (ix p))), (2, some (.val (.mem .own none [tb t]))), (4, some (.val (.mem .own none [nil, nil]))), (6, some (.val (.mem .own (some 1) ((invL p).map I)))), (7, some (.val (.mem .own none [rowN X, rowN Y]))), (8, some (.val (I i))), (9, some (.val (.mem .own (some 1) ((rowG (twG p) i j).map I)))), (10, some (.val (.mem .own (some 1) ((rowG (twH t p) i j).map I)))), (11, some (.val (I j)))]) p.length ?_ ?_ 0 _ (by omega) ?_
           · rintro j e hj rfl
             have hGl := rowG_length (twG p) i j
             have hHl := rowG_length (twH t p) i j
             rw [rowG_succ, rowG_succ]
             generalize rowG (twG p) i j = P at *
             generalize rowG (twH t p) i j = Q at *
             have hr := hpm.inL _ (List.getElem_mem hj)
             have e1 : p.getD j 0 = p[j] := by simp [hj]
             unfold twH twG
             rw [e1]
             generalize hb : p[j] = b at *
             have hbt : b.toNat < t.length := by omega
             have hbt2 : b < t.length := by omega
             have hrow := ht.row hbt
             have hbr : i < (t[b.toNat]).length := by omega
             have hv := get_v2 hbt hbr
             have hv1 := ht.nonneg b.toNat i
             have hv2 := ht.lt (by omega) b.toNat i
             generalize v2 t b.toNat i = v at *
             have hvl : v.toNat < (invL p).length := by rw [invL_length]; omega
             have hvl2 : v < (invL p).length := by rw [invL_length]; omega
             have hg := invL_get hvl
             generalize invQ p v.toNat = w at *
             generalize invL p = V at *
             simp [hj, hb, hr, hbt, hbt2, hbr, hv, hv1, hvl, hvl2, hg, hGl, hHl, roomy]
             omega
           · rintro e rfl
             have hPl := rowG_length (twG p) i p.length
             have hQl := rowG_length (twH t p) i p.length
             generalize rowG (twG p) i p.length = P at *
             generalize rowG (twH t p) i p.length = Q at *
             by_cases hX : X = []
             · by_cases hY : Y = []
               · subst hX hY
                 simp [rowN, roomy, rows]
                 omega
               · subst hX
                 simp [rowN, hY, roomy, rows]
                 omega
             · by_cases hY : Y = []
               · subst hY
                 simp [rowN, hX, roomy, rows]
                 omega
               · simp [rowN, hX, hY, roomy]
                 omega
           · simp [rowG]
         · rintro e rfl
           have hF : (twF p).take p.length = twF p := List.take_of_length_le (by simp [twF])
           have hS : (twS t p).take p.length = twS t p := List.take_of_length_le (by simp [twS])
           have hFn : twF p ≠ [] := tabL_ne hpm.pos
           have hSn : twS t p ≠ [] := tabL_ne hpm.pos
           have hpp := perm_of h2
           rw [hF, hS, rowN_ne hFn, rowN_ne hSn]
           simp [twR, twC, h1, hl, hpp, h3, solT]
         · simp [rowN]
       · simp [h3, twR, twC, h1, hl, perm_of h2, solT]
     · have hl' : ¬ (p.length : Int) = t.length := by omega
       simp [hl, hl', twR, twC, h1, solT]
   · have hno : p.length = t.length → ¬ j0v p := fun hl hpp => h2 ((perm_permuted (by omega) (by omega) hpp.1).2 hpp)
     have hno2 : ¬ (p.length = t.length ∧ j0v p) := fun hh => hno hh.1 hh.2
     have hno3 : ¬ (p.length = t.length ∧ j0v p ∧ imT t p = t) := fun hh => hno hh.1 hh.2.1
     simp [h2, twR, twC, h1, hno2, hno3, solT, j0x]
 · simp [twR, twC, h1, solT]
end Go.Mch
namespace Go.Mch
def SqS (X : S2) : Prop := ∃ m, 0 < m ∧ m ≤ 12 ∧ (X.1.length = m ∧ ∀ r ∈ X.1, r.length = m) ∧ (X.2.length = m ∧ ∀ r ∈ X.2, r.length = m)
theorem PMN.sq {n : Nat} {X : S2} (h : PMN n X.1 X.2) (n0 : 0 < n) (n12 : n ≤ 12) : SqS X := ⟨n, n0, n12, ⟨h.1.1, fun r hr => (h.1.2 r hr).1⟩, h.2.1, fun r hr => (h.2.2 r hr).1⟩
theorem SqS.bd {X : S2} (h : SqS X) : Bd X.1 ∧ Bd X.2 := by
 obtain ⟨m, h0, h12, ⟨a1, a2⟩, b1, b2⟩ := h
 exact ⟨⟨by omega, fun r hr => by have := a2 r hr; omega⟩, by omega, fun r hr => by have := b2 r hr; omega⟩
def S_d6 (pg : Pg) : Prop := ∀ (c : Rw Int) (s : Int × Int) (most : Nat), Sr c s → 0 < most → most ≤ 12 → ∃ (s' : Int × Int) (X : S2), (Sr c s' ∧ SqS X) ∧ Call pg 354 [src c s, I most] [src c s', I most] (ownS X)
set_option maxRecDepth 10000 in
theorem t_d6 {pg : Pg} (hp : pg.fn 354 = some c_spec_l06Draw) (h336 : S_nxt pg) (h401 : S_d3 pg) (h324 : S_s3 pg) (h170 : S_tw pg 170) (h412 : S_dr2 pg) : S_d6 pg := by
 intro c s most hs m0 m12
 have hfind := Call.findA (α := (Int × Int) × S2) (Q := fun Y => Sr c Y.1 ∧ SqS Y.2) (args := [src c s, I most]) (args' := fun Y => [src c Y.1, I most]) (r := fun Y => ownS Y.2) hp rfl (by simp [F.lets, c_spec_l06Draw, List.range, List.range.loop]) (by simp [kindOf]) ?_
 · obtain ⟨Y, h1, h2⟩ := hfind
   exact ⟨_, _, h1, h2⟩
 show wp _ _ c_spec_l06Draw.body (postX _ _ _ _ _) _
 generalize hR : postX (fun Y : (Int × Int) × S2 => Sr c Y.1 ∧ SqS Y.2) c_spec_l06Draw.rs [src c s, I most] (fun Y => [src c Y.1, I most]) (fun Y => ownS Y.2) = R
 have hfin : ∀ (s' : Int × Int) (X : S2), Sr c s' → SqS X → R .ret (fr [(0, some (.val (src c s'))), (1, some (.val (I most))), (4, some (.val (.mem .own none [j0w X.1, j0w X.2])))]) := by
  intro s' X a1 a2
  subst hR
  exact ⟨(s', X), ⟨a1, a2⟩, by simp [post, c_spec_l06Draw]⟩
 obtain ⟨s1, kd, ⟨k1, k2⟩, hc1⟩ := h336.at hs (n := 3) (by omega)
 obtain ⟨s2, n, t, ⟨k3, k4, k5, k6⟩, hc2⟩ := h401 c s1 most k1 m0 m12
 simp [c_spec_l06Draw]
 refine callS (ts' := [rawB c, I s1.1, H64 s1.2]) (r := I kd) (by simpa using hc1) ?_
 by_cases hk0 : kd = 0
 · obtain ⟨X, hX, hc3⟩ := h324 n t k4 (by omega) k6
   simp [hk0]
   refine callS (ts' := [rawB c, I s2.1, H64 s2.2]) (r := ownC t) (by simpa using hc2) ?_
   simp
   refine j0i hc3 rfl rfl (fun _ => by simp) ?_
   simp
   exact hfin s2 X k3 (hX.sq k4 (by omega))
 · by_cases hk1 : kd = 1
   · have ht0 : 0 < t.length := by rw [k6.1]; exact k4
     have hrow := (k6.2 _ (List.getElem_mem ht0)).1
     have htl := k6.1
     have hc3 := h170 t t[0] ⟨by omega, fun r hr => by have := (k6.2 r hr).1; omega⟩ (by omega)
     simp [hk1]
     refine callS (ts' := [rawB c, I s2.1, H64 s2.2]) (r := ownC t) (by simpa using hc2) ?_
     simp [ht0]
     by_cases hz : isRk t ∧ t[0].length = t.length ∧ j0v t[0] ∧ imT t t[0] = t
     · have e1 : twR t t[0] = some (twF t[0], twS t t[0]) := if_pos hz
       have e2 : twC t t[0] = 0 := by simp only [twC]; rw [if_pos hz.1, if_pos ⟨hz.2.1, hz.2.2.1⟩, if_pos hz.2.2.2]
       rw [e1, e2] at hc3
       simp only [solT] at hc3
       refine j0i hc3 rfl rfl (fun _ => by simp) ?_
       simp [V.scAt]
       refine hfin s2 (twF t[0], twS t t[0]) k3 ⟨t.length, ht0, by omega, ⟨by simp [twF]; omega, fun r hr => ?_⟩, by simp [twS]; omega, fun r hr => ?_⟩
       · rw [tabL_row hr]; omega
       · rw [tabL_row hr]; omega
     · have e1 : twR t t[0] = none := if_neg hz
       have e2 : ¬ twC t t[0] = 0 := by
        intro hh
        simp only [twC] at hh
        split at hh
        · rename_i h1
          split at hh
          · rename_i h2
            split at hh
            · rename_i h3
              exact hz ⟨h1, h2.1, h2.2, h3⟩
            · omega
          · omega
        · omega
       obtain ⟨s3, m, X, ⟨j1, j2, j3, j4⟩, hc4⟩ := h412 c s2 most k3 m0 m12
       rw [e1] at hc3
       simp only [solT] at hc3
       refine j0i hc3 rfl rfl (fun _ => by simp) ?_
       simp [V.scAt, e2]
       refine callS (ts' := [rawB c, I s3.1, H64 s3.2]) (r := ownS X) (by simpa using hc4) ?_
       simp
       exact hfin s3 X j1 (j4.sq j2 (by omega))
   · have e1 : ¬ (kd : Int) = 1 := by omega
     obtain ⟨s3, m, X, ⟨j1, j2, j3, j4⟩, hc3⟩ := h412 c s1 most k1 m0 m12
     simp [hk0, e1]
     refine callS (ts' := [rawB c, I s3.1, H64 s3.2]) (r := ownS X) (by simpa using hc3) ?_
     simp
     exact hfin s3 X j1 (j4.sq j2 (by omega))
set_option maxRecDepth 10000 in
theorem t_dDR {pg : Pg} (hp : pg.fn 233 = some j07) (h269 : S_from pg) (h336 : S_nxt pg) (h354 : S_d6 pg) : S_drS pg 233 := by
 intro c hc
 obtain ⟨s, hs, hc1⟩ := h269 c hc
 obtain ⟨s1, X, ⟨k1, hX⟩, hc2⟩ := h354 c s 6 hs (by omega) (by omega)
 obtain ⟨m, m0, m12, ⟨a1, a2⟩, b1, b2⟩ := id hX
 obtain ⟨s2, r, ⟨k2, k3⟩, hc3⟩ := h336.at k1 (n := 12) (by omega)
 have h0 : 0 < X.1.length := by omega
 have hrow := a2 _ (List.getElem_mem h0)
 have h00 : 0 < X.1[0].length := by omega
 obtain ⟨s3, v, ⟨j1, j2⟩, hc4⟩ := h336.at k2 (n := X.1.length + 1) (by omega)
 have hbd := hX.bd
 by_cases hr : r = 0
 · refine ⟨(X.1.set 0 (X.1[0].set 0 (v : Int)), X.2), ⟨hbd.1.set (by simp; omega), hbd.2⟩, Call.intro hp rfl (by simp) ?_⟩
   show wp _ _ j07.body (post [.cell 2 (some 2)] _ _ _) _
   simp [j07]
   refine j0i hc1 rfl rfl (fun h => by simp at h) ?_
   simp
   refine callS (ts' := [rawB c, I s1.1, H64 s1.2]) (r := ownS X) (by simpa using hc2) ?_
   simp
   refine callS (ts' := [rawB c, I s2.1, H64 s2.2]) (r := I r) (by simpa using hc3) ?_
   simp [hr, h0]
   refine ⟨by omega, ?_⟩
   refine callS (ts' := [rawB c, I s3.1, H64 s3.2]) (r := I v) (by simpa using hc4) ?_
   simp [h0, h00]
   exact ⟨by omega, by simp only [← rows_set1, ownL, List.map_set]⟩
 · refine ⟨X, hbd, Call.intro hp rfl (by simp) ?_⟩
   show wp _ _ j07.body (post [.cell 2 (some 2)] _ _ _) _
   simp [j07]
   refine j0i hc1 rfl rfl (fun h => by simp at h) ?_
   simp
   refine callS (ts' := [rawB c, I s1.1, H64 s1.2]) (r := ownS X) (by simpa using hc2) ?_
   simp
   refine callS (ts' := [rawB c, I s2.1, H64 s2.2]) (r := I r) (by simpa using hc3) ?_
   simp [hr, j0x]
end Go.Mch
namespace Go.Mch
theorem tab_fit {f s : List (List Int)} (h : PM f s) : fits f ∧ fits s := by
 have h12 := h.small
 have hl := h.len
 exact ⟨⟨by omega, fun r hr => by have := (h.tf r hr).1; omega⟩, ⟨by omega, fun r hr => by have := (h.ts r hr).1; omega⟩⟩
theorem Bd.fits {t : List (List Int)} (h : Bd t) : fits t := ⟨by have := h.1; omega, fun r hr => by have := h.2 r hr; omega⟩
theorem Bd.sm {t : List (List Int)} (h : Bd t) : smallT t := ⟨by have := h.1; omega, fun r hr => by have := h.2 r hr; omega⟩
end Go.Mch
namespace Go.Mch

def itr (g : Nat → Nat) : Nat → Nat → Nat
 | 0, a => a
 | k + 1, a => g (itr g k a)
theorem itr_add (g : Nat → Nat) (i j a : Nat) : itr g (i + j) a = itr g i (itr g j a) := by
 induction i with
 | zero => simp [itr]
 | succ i ih => rw [show i + 1 + j = (i + j) + 1 by omega, itr, ih, itr]
structure Bij (N : Nat) (g : Nat → Nat) : Prop where
 r : ∀ x, x < N → g x < N
 i : ∀ x y, x < N → y < N → g x = g y → x = y
theorem Bij.it {N : Nat} {g : Nat → Nat} (h : Bij N g) (k : Nat) : Bij N (itr g k) := by
 induction k with
 | zero => exact ⟨fun x hx => hx, fun x y _ _ he => he⟩
 | succ k ih => exact ⟨fun x hx => h.r _ (ih.r x hx), fun x y hx hy he => ih.i x y hx hy (h.i _ _ (ih.r x hx) (ih.r y hy) he)⟩
theorem Bij.back {N : Nat} {g : Nat → Nat} (h : Bij N g) {a : Nat} (ha : a < N) : ∃ k, k < N + 1 ∧ 0 < k ∧ itr g k a = a := by
 apply Classical.byContradiction
 intro hno
 have hd : ∀ i j, i < j → j < N + 1 → itr g i a ≠ itr g j a := fun i j hij hj he => by
  have e : itr g i (itr g (j - i) a) = itr g i a := by rw [← itr_add, show i + (j - i) = j by omega, he]
  have := (h.it i).i _ _ ((h.it (j - i)).r a ha) ha e
  exact hno ⟨j - i, by omega, by omega, this⟩
 have := len_le_of_sub ((List.range (N + 1)).map fun k => itr g k a) (List.range N) ?_ ?_
 · simp at this
   omega
 · rw [List.Nodup, List.pairwise_map]
   refine (List.nodup_range (n := N + 1)).imp_of_mem ?_
   intro x y hx hy hxy he
   rcases Nat.lt_or_ge x y with h1 | h1
   · exact hd x y h1 (List.mem_range.1 hy) he
   · exact hd y x (by omega) (List.mem_range.1 hx) he.symm
 · intro v hv
   obtain ⟨k, _, rfl⟩ := List.mem_map.1 hv
   exact List.mem_range.2 ((h.it k).r a ha)
noncomputable def cyc (g : Nat → Nat) (N a : Nat) : Nat := if h : ∃ k, k < N + 1 ∧ 0 < k ∧ itr g k a = a then Classical.choose (least h) else 1
theorem cyc_spec {N : Nat} {g : Nat → Nat} (h : Bij N g) {a : Nat} (ha : a < N) : 0 < cyc g N a ∧ cyc g N a ≤ N ∧ itr g (cyc g N a) a = a ∧ ∀ i, 0 < i → i < cyc g N a → itr g i a ≠ a := by
 have hb := h.back ha
 unfold cyc
 rw [dif_pos hb]
 obtain ⟨h1, ⟨h2, h3⟩, h4⟩ := Classical.choose_spec (least hb)
 exact ⟨h2, by omega, h3, fun i hi hlt he => h4 i hlt ⟨hi, he⟩⟩
theorem cyc_dvd {N : Nat} {g : Nat → Nat} (h : Bij N g) {a : Nat} (ha : a < N) (M : Nat) : cyc g N a ∣ M ↔ itr g M a = a := by
 obtain ⟨c0, _, c1, c2⟩ := cyc_spec h ha
 generalize cyc g N a = L at *
 have hq : ∀ q, itr g (L * q) a = a := fun q => by
  induction q with
  | zero => rfl
  | succ q ih => rw [Nat.mul_succ, itr_add, c1, ih]
 constructor
 · rintro ⟨q, rfl⟩
   exact hq q
 · intro he
   have e := Nat.div_add_mod M L
   have hr : itr g (M % L) a = a := by
    rw [← he]
    conv => rhs; rw [← e, Nat.add_comm, itr_add, hq]
    rw [he]
   by_cases h0 : M % L = 0
   · exact Nat.dvd_of_mod_eq_zero h0
   · exact absurd hr (c2 _ (by omega) (Nat.mod_lt _ c0))
noncomputable def ordK (g : Nat → Nat) (N : Nat) : Nat → Nat
 | 0 => 1
 | k + 1 => Nat.lcm (ordK g N k) (cyc g N k)
theorem ordK_pos {N : Nat} {g : Nat → Nat} (h : Bij N g) : ∀ k, k ≤ N → 0 < ordK g N k
 | 0, _ => Nat.one_pos
 | k + 1, hk => Nat.lcm_pos (ordK_pos h k (by omega)) (cyc_spec h (a := k) (by omega)).1
theorem ordK_dvd {N : Nat} {g : Nat → Nat} (h : Bij N g) (M : Nat) : ∀ k, k ≤ N → (ordK g N k ∣ M ↔ ∀ a, a < k → itr g M a = a) := by
 intro k
 induction k with
 | zero => intro _; simp [ordK]
 | succ k ih =>
  intro hk
  rw [ordK, Nat.lcm_dvd_iff, ih (by omega), cyc_dvd h (by omega)]
  constructor
  · rintro ⟨h1, h2⟩ a ha
    by_cases hak : a = k
    · subst hak; exact h2
    · exact h1 a (by omega)
  · intro h1
    exact ⟨fun a ha => h1 a (by omega), h1 k (by omega)⟩
theorem ordK_mono {N : Nat} {g : Nat → Nat} (h : Bij N g) {k : Nat} (hk : k < N) : ordK g N k ≤ ordK g N (k + 1) := Nat.le_of_dvd (ordK_pos h (k + 1) hk) (Nat.dvd_lcm_left _ _)
theorem ordK_le {N : Nat} {g : Nat → Nat} (h : Bij N g) : ∀ d k, k + d ≤ N → ordK g N k ≤ ordK g N (k + d)
 | 0, _, _ => Nat.le_refl _
 | d + 1, k, hd => Nat.le_trans (ordK_le h d k (by omega)) (ordK_mono h (k := k + d) (by omega))
theorem ord_conj {N : Nat} {g g' φ : Nat → Nat} (h : Bij N g) (h' : Bij N g') (hφ : Bij N φ) (hc : ∀ a, a < N → g' (φ a) = φ (g a)) : ordK g N N = ordK g' N N := by
 have hit : ∀ M a, a < N → itr g' M (φ a) = φ (itr g M a) := fun M a ha => by
  induction M with
  | zero => rfl
  | succ M ih => rw [itr, ih, hc _ ((h.it M).r a ha)]; rfl
 have key : ∀ M, ordK g N N ∣ M ↔ ordK g' N N ∣ M := fun M => by
  rw [ordK_dvd h M N (Nat.le_refl _), ordK_dvd h' M N (Nat.le_refl _)]
  constructor
  · intro h1 b hb
    obtain ⟨a, ha, rfl⟩ := surj_of_inj hφ.r hφ.i b hb
    rw [hit M a ha, h1 a ha]
  · intro h1 a ha
    have := h1 (φ a) (hφ.r a ha)
    rw [hit M a ha] at this
    exact hφ.i _ _ ((h.it M).r a ha) ha this
 exact Nat.dvd_antisymm ((key _).2 (Nat.dvd_refl _)) ((key _).1 (Nat.dvd_refl _))


theorem ld_bij {f s : List (List Int)} (h : PM f s) (hi : Inj f s) : Bij (f.length * f.length) (ldN f s) := by
 refine ⟨fun a ha => ?_, (inj_ld h).1 hi⟩
 unfold ldN
 exact pair_lt (h.v2f _ _).2 (h.v2s _ _).2
noncomputable def ordS (f s : List (List Int)) : Nat := ordK (ldN f s) (f.length * f.length) (f.length * f.length)
theorem ord_same {f s F S : List (List Int)} (h : Rg f s) (hi : Inj f s) (H : PM F S) (Hi : Inj F S) (hl : F.length = f.length) (hm : ∀ (w : List Int) (k : Nat), inN f.length w → k + 1 < w.length → dW F S w k = rW (raT f s) w k) : ordS F S = ordS f s := by
 have h0 := h.1.pos
 have b1 := ld_bij h.1 hi
 have b2 := ld_bij H Hi
 rw [hl] at b2
 have d1 : ∀ v, v < f.length * f.length → v / f.length < f.length ∧ v % f.length < f.length := fun v hv => ⟨(Nat.div_lt_iff_lt_mul h0).2 hv, Nat.mod_lt _ h0⟩
 let φ : Nat → Nat := fun v => v / f.length * f.length + σN f (v / f.length) (v % f.length)
 have hφ : Bij (f.length * f.length) φ := by
  refine ⟨fun v hv => pair_lt (d1 v hv).1 (h.1.v2f _ _).2, fun v w hv hw he => ?_⟩
  obtain ⟨p1, p2⟩ := dm_pair (x := v / f.length) (h.1.v2f (v / f.length) (v % f.length)).2
  obtain ⟨q1, q2⟩ := dm_pair (x := w / f.length) (h.1.v2f (w / f.length) (w % f.length)).2
  have he' : v / f.length * f.length + σN f (v / f.length) (v % f.length) = w / f.length * f.length + σN f (w / f.length) (w % f.length) := he
  rw [he', q1] at p1
  rw [he', q2] at p2
  have := (nd_of h).is _ _ _ (d1 v hv).1 (d1 v hv).2 (d1 w hw).2 (by rw [← p2, p1])
  have e1 := Nat.div_add_mod v f.length
  have e2 := Nat.div_add_mod w f.length
  rw [← p1, this] at e1
  omega
 unfold ordS
 rw [hl]
 refine (ord_conj b1 b2 hφ fun a ha => ?_).symm
 obtain ⟨p1, p2⟩ := dm_pair (x := a / f.length) (h.1.v2f (a / f.length) (a % f.length)).2
 obtain ⟨x1, x2⟩ := d1 a ha
 show ldN F S (a / f.length * f.length + σN f (a / f.length) (a % f.length)) = ldN f s a / f.length * f.length + σN f (ldN f s a / f.length) (ldN f s a % f.length)
 have e1 : ldN f s a / f.length = σN f (a / f.length) (a % f.length) ∧ ldN f s a % f.length = τN s (a % f.length) (a / f.length) := dm_pair (h.1.v2s _ _).2
 rw [e1.1, e1.2]
 unfold ldN
 rw [hl, p1, p2]
 generalize a / f.length = x at *
 generalize a % f.length = y at *
 have ux := (h.1.v2f x y).2
 have hk := hm [(x : Int), σN f x y] 0 (fun v hv => by
  rcases List.mem_cons.1 hv with rfl | hv
  · omega
  · rw [List.mem_singleton.1 hv]; omega) (by simp)
 have hk1 : dW F S [(x : Int), σN f x y] 0 = [g2 F x (σN f x y), g2 S x (σN f x y)] := rfl
 have hk2 : rW (raT f s) [(x : Int), σN f x y] 0 = [(σN f x y : Int), g2 (raT f s) (σN f x y) x] := rfl
 rw [hk1, hk2, g2_ra h.1, (g2_nat H _ _).1, (g2_nat H _ _).2] at hk
 simp only [Int.toNat_natCast, List.cons.injEq, and_true] at hk
 have r1 : σN F x (σN f x y) = σN f x y := by omega
 have r2 : τN S (σN f x y) x = ra f s (σN f x y) x := by omega
 rw [r1, r2, ra_at h x1 x2]


def S_ord (pg : Pg) : Prop := ∀ f s : List (List Int), isSol f s → Call pg 235 [sol f s] [sol f s] (.tup [I (if ordS f s ≤ 1000000 then (ordS f s : Int) else 0), I (if ordS f s ≤ 1000000 then 0 else 3)])
set_option maxHeartbeats 1000000 in
set_option maxRecDepth 20000 in
theorem t_ord {pg : Pg} (hp : pg.fn 235 = some c_impl_OrderOfSolution) (h42 : S_isSol pg 42) (h356 : S_gcd pg) : S_ord pg := by
 intro f s h
 have hpm := PM.of h.1
 have hb := ld_bij hpm h.2.1
 have h0 := hpm.pos
 have h12 := hpm.small
 have hsl := hpm.len
 obtain ⟨ff, fs⟩ := tab_fit hpm
 have hc1 := h42 f s ff fs
 rw [dec_true h] at hc1
 have hnn : f.length * f.length ≤ 144 := Nat.mul_le_mul h12 h12
 refine Call.intro hp rfl (by simp) ?_
 show wp _ _ c_impl_OrderOfSolution.body (post [.t 2, .t 3] _ _ _) _
 simp [c_impl_OrderOfSolution]
 refine j0i hc1 rfl rfl (fun _ => rfl) ?_
 have hNp : ∀ k, k ≤ f.length * f.length → 0 < ordK (ldN f s) (f.length * f.length) k := fun k hk => ordK_pos hb k hk
 have hle : ∀ k, k ≤ f.length * f.length → ordK (ldN f s) (f.length * f.length) k ≤ ordS f s := fun k hk => by
  have := ordK_le hb (f.length * f.length - k) k (by omega)
  rwa [show k + (f.length * f.length - k) = f.length * f.length by omega] at this
 have hlast : ordK (ldN f s) (f.length * f.length) (f.length * f.length) = ordS f s := rfl
 have hsuc : ∀ k, ordK (ldN f s) (f.length * f.length) (k + 1) = ordK (ldN f s) (f.length * f.length) k / Nat.gcd (ordK (ldN f s) (f.length * f.length) k) (cyc (ldN f s) (f.length * f.length) k) * cyc (ldN f s) (f.length * f.length) k := fun k => by
  rw [ordK, Nat.lcm, Nat.div_mul_right_comm (Nat.gcd_dvd_left _ _)]
 have hcy := fun k (hk : k < f.length * f.length) => cyc_spec hb hk
 have hit := fun k j (hk : k < f.length * f.length) => (hb.it j).r k hk
 have hld : ∀ v, ldN f s v / f.length = σN f (v / f.length) (v % f.length) ∧ ldN f s v % f.length = τN s (v % f.length) (v / f.length) := fun v => dm_pair (hpm.v2s _ _).2
 have hdm : ∀ v, v < f.length * f.length → v / f.length < f.length ∧ v % f.length < f.length := fun v hv => ⟨(Nat.div_lt_iff_lt_mul h0).2 hv, Nat.mod_lt _ h0⟩
 have hrow : ∀ x (hx : x < f.length), (f[x]).length = f.length := fun x hx => hpm.tf.row hx
 have hrow2 : ∀ x (hx : x < s.length), (s[x]).length = f.length := fun x hx => (hpm.ts.row hx).trans hsl
 have hat : ∀ v, v < f.length * f.length → (∃ (h1 : v / f.length < f.length) (h2 : v % f.length < (f[v / f.length]).length), (f[v / f.length])[v % f.length] = ((ldN f s v / f.length : Nat) : Int)) ∧ (∃ (h1 : v / f.length < s.length) (h2 : v % f.length < (s[v / f.length]).length), (s[v / f.length])[v % f.length] = ((ldN f s v % f.length : Nat) : Int)) := fun v hv => by
  obtain ⟨x1, x2⟩ := hdm v hv
  obtain ⟨l1, l2⟩ := hld v
  have xs : v / f.length < s.length := by omega
  have y1 : v % f.length < (f[v / f.length]).length := by rw [hrow _ x1]; exact x2
  have y2 : v % f.length < (s[v / f.length]).length := by rw [hrow2 _ xs]; exact x2
  refine ⟨⟨x1, y1, ?_⟩, ⟨xs, y2, ?_⟩⟩
  · rw [get_v2 x1 y1, ← (hpm.v2f _ _).1, l1]
  · rw [get_v2 xs y2, ← (hpm.v2s _ _).1, l2]
 have hda : ∀ v, ((v / f.length : Nat) : Int) * f.length + ((v % f.length : Nat) : Int) = v := fun v => by
  have := Nat.div_add_mod v f.length
  rw [← Int.natCast_mul, ← Int.natCast_add, Nat.mul_comm, this]
 have hlb : ∀ v, v < f.length * f.length → (ldN f s v) < f.length * f.length := hb.r
 generalize hg : ldN f s = g at *
 have hNI : (f.length : Int) * f.length = ((f.length * f.length : Nat) : Int) := (Int.natCast_mul _ _).symm
 generalize hNN : f.length * f.length = N at *
 have ho0 : ordK g N 0 = 1 := rfl
 generalize ordK g N = o at *
 generalize ordS f s = O at *
 have hii : ∀ j k, itr g (j + 1) k = g (itr g j k) := fun _ _ => rfl
 have hi1 : ∀ k, itr g 1 k = g k := fun _ => rfl
 generalize cyc g N = L at *
 generalize itr g = q at *
 simp [hNI]
 refine ⟨by omega, ?_⟩
 refine wpLoop_lower (α := Nat) (fun k => N - k) (fun k e => k ≤ N ∧ o k ≤ 1000000 ∧ e = fr [(1, some (.val (.mem .own none [tb f, tb s]))), (4, some (.val (I f.length))), (5, some (.val (I (o k)))), (18, some (.val (I N))), (19, some (.val (I k)))]) ?_ 0 _ ⟨by omega, by omega, by rw [ho0]; rfl⟩
 rintro k e ⟨hkN, hok, rfl⟩
 by_cases hk : k < N
 · obtain ⟨⟨a1, a2, a3⟩, b1, b2, b3⟩ := hat k hk
   obtain ⟨c1, c2, c3, c4⟩ := hcy k hk
   have hle1 := hle (k + 1) hk
   have hs1 := hsuc k
   have hgc := h356 (o k) (L k) (by omega) (by omega)
   have hpos := hNp k hkN
   have hgp : 0 < Nat.gcd (o k) (L k) := Nat.gcd_pos_of_pos_left _ hpos
   have hqo : o k / Nat.gcd (o k) (L k) ≤ 1000000 := Nat.le_trans (Nat.div_le_self _ _) hok
   have hmul : o k / Nat.gcd (o k) (L k) * L k ≤ 1000000 * 144 := Nat.mul_le_mul hqo (by omega)
   have hn0 : ¬ f.length = 0 := by omega
   have hfe : ¬ f = [] := fun h => hn0 (by rw [h]; rfl)
   have hdv := hdm k hk
   obtain ⟨x, hx⟩ : ∃ x, k / f.length = x := ⟨_, rfl⟩
   obtain ⟨y, hy⟩ : ∃ y, k % f.length = y := ⟨_, rfl⟩
   have d1 : (k : Int) / (f.length : Int) = (x : Int) := by rw [← hx]; exact (Int.natCast_ediv _ _).symm
   have d2 : (k : Int) % (f.length : Int) = (y : Int) := by rw [← hy]; exact (Int.natCast_emod _ _).symm
   simp only [hx, hy] at a1 a2 a3 b1 b2 b3 hdv
   obtain ⟨x1, hx1⟩ : ∃ x, g k / f.length = x := ⟨_, rfl⟩
   obtain ⟨y1, hy1⟩ : ∃ y, g k % f.length = y := ⟨_, rfl⟩
   simp only [hx1, hy1] at a3 b3
   simp [hk, hfe, d1, d2, a1, a2, a3, b1, b2, b3]
   refine ⟨by omega, ?_⟩
   refine wpLoop_lower (α := Nat) (fun j => L k - j) (fun j e => (0 < j ∧ j ≤ L k) ∧ e = fr [(1, some (.val (.mem .own none [tb f, tb s]))), (4, some (.val (I f.length))), (5, some (.val (I (o k)))), (6, some (.val (I k))), (7, some (.val (I ((q j k / f.length : Nat) : Int)))), (8, some (.val (I ((q j k % f.length : Nat) : Int)))), (9, some (.val (I j))), (18, some (.val (I N))), (19, some (.val (I k)))]) ?_ 1 _ ⟨⟨by omega, c1⟩, by rw [hi1, hx1, hy1]; simp⟩
   rintro j e ⟨⟨j1, j2⟩, rfl⟩
   have hqk := hit k j hk
   have hda1 := hda (q j k)
   obtain ⟨⟨p1, p2, p3⟩, r1, r2, r3⟩ := hat (q j k) hqk
   have hdv2 := hdm (q j k) hqk
   have hs2 := hii j k
   rw [← hs2] at p3 r3
   have hmx : (q j k / f.length) * f.length ≤ 144 := Nat.le_trans (Nat.mul_le_mul (Nat.le_of_lt hdv2.1) (Nat.le_refl _)) (by omega)
   have hmi : ((q j k / f.length : Nat) : Int) * f.length ≤ 144 := by rw [← Int.natCast_mul]; omega
   have hmi0 : 0 ≤ ((q j k / f.length : Nat) : Int) * f.length := by rw [← Int.natCast_mul]; omega
   by_cases hqe : q j k = k
   · obtain rfl : j = L k := by
      rcases Nat.lt_or_ge j (L k) with h1 | h1
      · exact absurd hqe (c4 j j1 h1)
      · omega
     rw [hqe] at hda1 hmi hmi0 hdv2 ⊢
     generalize k / f.length = u at *
     generalize k % f.length = v at *
     obtain ⟨uf, huf⟩ : ∃ uf : Int, (u : Int) * f.length = uf := ⟨_, rfl⟩
     rw [huf] at hda1 hmi hmi0
     obtain ⟨G, hG⟩ : ∃ G, Nat.gcd (o k) (L k) = G := ⟨_, rfl⟩
     rw [hG] at hgc hgp hqo hmul hs1
     obtain ⟨Q, hQ⟩ : ∃ Q, o k / G = Q := ⟨_, rfl⟩
     rw [hQ] at hqo hmul hs1
     have dq : (o k : Int) / (G : Int) = (Q : Int) := by rw [← hQ]; exact (Int.natCast_ediv _ _).symm
     have dm : (Q : Int) * (L k : Int) = ((o (k + 1) : Nat) : Int) := by rw [← Int.natCast_mul, ← hs1]
     have hG0 : ¬ G = 0 := by omega
     have hG0' : ¬ (G : Int) = 0 := by omega
     have hub : -9223372036854775808 ≤ uf ∧ uf ≤ 9223372036854775807 := by omega
     have hkb : -9223372036854775808 ≤ (k : Int) ∧ (k : Int) ≤ 9223372036854775807 := by omega
     rw [← hs1] at hmul
     simp [huf, hub, hda1, hkb]
     refine j0i hgc rfl rfl (fun _ => rfl) ?_
     simp [hG0, dq, dm]
     refine ⟨by omega, by omega, ?_⟩
     by_cases hbg : 1000000 < o (k + 1)
     · have hbg' : (1000000 : Int) < (o (k + 1) : Int) := by omega
       rw [if_pos hbg']
       exact ⟨fun hh => by omega, by omega⟩
     · have hbg' : ¬ (1000000 : Int) < (o (k + 1) : Int) := by omega
       rw [if_neg hbg']
       exact ⟨by omega, k + 1, by omega, by omega, by omega, by simp⟩
   · have hqn : ¬ ((q j k : Int) = k) := by omega
     have hjl : j < L k := by
      rcases Nat.lt_or_ge j (L k) with h1 | h1
      · exact h1
      · have : j = L k := by omega
        rw [this] at hqe
        exact absurd c3 hqe
     generalize q j k = v at *
     obtain ⟨x2, hx2⟩ : ∃ x, v / f.length = x := ⟨_, rfl⟩
     obtain ⟨y2, hy2⟩ : ∃ y, v % f.length = y := ⟨_, rfl⟩
     simp only [hx2, hy2] at p1 p2 p3 r1 r2 r3 hdv2 hda1 hmi hmi0 ⊢
     obtain ⟨uf, huf⟩ : ∃ uf : Int, (x2 : Int) * f.length = uf := ⟨_, rfl⟩
     rw [huf] at hda1 hmi hmi0
     have hub : -9223372036854775808 ≤ uf ∧ uf ≤ 9223372036854775807 := by omega
     have hvb : -9223372036854775808 ≤ (v : Int) ∧ (v : Int) ≤ 9223372036854775807 := by omega
     simp [huf, hub, hda1, hvb, hqn, p1, p2, p3, r1, r2, r3]
     exact ⟨by omega, j + 1, by omega, ⟨by omega, by omega⟩, by simp⟩
 · obtain rfl : k = N := by omega
   rw [hlast] at hok
   simp [hok, hlast]
end Go.Mch
namespace Go.Mch




def trT (n : Nat) : List (List Int) := tabL n fun _ y => (y : Int)
def S_rackBy (pg : Pg) : Prop := ∀ (n : Nat) (g : Nat → Nat → Int) (f : Nat) (caps : List T), n ≤ 1048576 → T.eryL .old caps = caps → T.j0m caps = true →
 (∀ x y : Nat, x < n → y < n → Call pg f (I x :: I y :: caps) (I x :: I y :: caps) (I (g x y))) → Call pg 327 [I n, .fn f caps] [I n, .fn f caps] (.agg [j0w (tabL n g)])
def S_rackBy1 (pg : Pg) : Prop := ∀ (x y : Nat) (v : Int) (f : Nat) (caps : List T), T.eryL .old caps = caps → T.j0m caps = true →
 Call pg f (I x :: I y :: caps) (I x :: I y :: caps) (I v) → Call pg 404 (I x :: I y :: [.mem .old none [.fn f caps]]) (I x :: I y :: [.mem .old none [.fn f caps]]) (I v)
theorem t_rackBy1 {pg : Pg} (hp : pg.fn 404 = some c_impl_rackBy_1) : S_rackBy1 pg := by
 intro x y v f caps hc1 hc2 hc
 refine Call.intro hp rfl (by simp [hc2]) ?_
 show wp _ _ c_impl_rackBy_1.body (post [.t 5] _ _ _) _
 simp [c_impl_rackBy_1]
 refine j0i (by simpa [hc1] using hc) rfl rfl (fun _ => rfl) ?_
 simp [hc2]
theorem t_rackBy {pg : Pg} (hp : pg.fn 327 = some c_impl_rackBy) (h376 : S_tableBy pg) (h404 : S_rackBy1 pg) : S_rackBy pg := by
 intro n g f caps hn hc1 hc2 hc
 refine Call.intro hp rfl (by simp [hc2]) ?_
 show wp _ _ c_impl_rackBy.body (post [.cell 4 (some 1)] _ _ _) _
 simp [c_impl_rackBy, hc1, hc2]
 have k1 : ∀ x y : Nat, x < n → y < n → Call pg 404 (I x :: I y :: [.mem .old none [.fn f caps]]) (I x :: I y :: [.mem .old none [.fn f caps]]) (I (g x y)) := fun x y hx hy => h404 x y (g x y) f caps hc1 hc2 (hc x y hx hy)
 refine j0i (h376 n g 404 [.mem .old none [.fn f caps]] hn (by simp [hc1]) (by simp [hc2]) k1) rfl rfl (fun _ => by simp) ?_
 simp [hc2]
def S_triv1 (pg : Pg) : Prop := ∀ x y : Nat, Call pg 328 [I x, I y] [I x, I y] (I y)
theorem t_triv1 {pg : Pg} (hp : pg.fn 328 = some c_impl_TrivialRack_1) : S_triv1 pg := by
 intro x y
 refine Call.intro hp rfl (by simp) ?_
 show wp _ _ c_impl_TrivialRack_1.body (post [.t 4] _ _ _) _
 simp [c_impl_TrivialRack_1]
def S_triv (pg : Pg) : Prop := ∀ n : Nat, 0 < n → n ≤ 12 → Call pg 196 [I n] [I n] (.tup [.agg [j0w (trT n)], I 0])
theorem t_triv {pg : Pg} (hp : pg.fn 196 = some c_impl_TrivialRack) (h35 : S_in pg 35) (h327 : S_rackBy pg) (h328 : S_triv1 pg) : S_triv pg := by
 intro n h0 h12
 have h1 : (1 : Int) ≤ n := by omega
 have h2 : (n : Int) ≤ 12 := by omega
 refine Call.intro hp rfl (by simp) ?_
 show wp _ _ c_impl_TrivialRack.body (post [.cell 2 (some 1), .t 3] _ _ _) _
 simp [c_impl_TrivialRack]
 refine j0i (h35 n 1 12) rfl rfl (fun _ => rfl) ?_
 simp [h1, h2]
 refine j0i (h327 n (fun _ y => (y : Int)) 328 [] (by omega) (by simp) (by simp) fun x y _ _ => h328 x y) rfl rfl (fun _ => by simp) ?_
 simp [trT]
end Go.Mch
namespace Go.Mch

theorem same9_e {pg : Pg} (h : S_same9 pg) : Call pg 178 [nil, nil] [nil, nil] (B true) ∧ Call pg 178 [nil, tb []] [nil, tb []] (B true) ∧ Call pg 178 [tb [], nil] [tb [], nil] (B true) ∧ Call pg 178 [tb [], tb []] [tb [], tb []] (B true) := by
 have h1 := h .no .no ⟨by simp, by simp⟩
 have h2 := h .no (.of []) ⟨by simp, by simp⟩
 have h3 := h (.of []) .no ⟨by simp, by simp⟩
 have h4 := h (.of []) (.of []) ⟨by simp, by simp⟩
 simp [rawT] at h1 h2 h3 h4
 exact ⟨h1, h2, h3, h4⟩
end Go.Mch
namespace Go.Mch

theorem row_perm {f s : List (List Int)} (h : Rg f s) {x : Nat} (hx : x < f.length) : Pm f[x] ∧ (f[x]).length = f.length ∧ (∀ y, y < f.length → (f[x]).getD y 0 = (σN f x y : Int)) ∧ (∀ y, y < f.length → invQ f[x] y < f.length ∧ σN f x (invQ f[x] y) = y) := by
 have hl := h.1.tf.row hx
 have h0 := h.1.pos
 have h12 := h.1.small
 have pm : Pm f[x] := ⟨h.2.2.1 _ (List.getElem_mem hx), by omega, by omega⟩
 have e : ∀ y, (f[x]).getD y 0 = (σN f x y : Int) := fun y => by
  rw [(h.1.v2f x y).1, v2]
  simp [hx]
 refine ⟨pm, hl, fun y _ => e y, fun y hy => ⟨by have := pm.lt (x := y) (by omega); omega, ?_⟩⟩
 have := pm.at (x := y) (by omega)
 rw [e] at this
 omega
theorem ra_image {f s : List (List Int)} (h : Rg f s) {x : Nat} (hx : x < f.length) : imT (raT f s) f[x] = raT f s := by
 obtain ⟨pm, hl, e, hq⟩ := row_perm h hx
 unfold imT
 rw [raT_length]
 refine tabL_congr fun a b ha hb => ?_
 obtain ⟨q1, q2⟩ := hq a ha
 obtain ⟨q3, q4⟩ := hq b hb
 unfold imG
 rw [(ra_v h.1 q1 q3).1, ← (ra_v h.1 q1 q3).2.1, Int.toNat_natCast, e _ (ra_lt h.1 _ _), ra_aut h hx q1 q3, q2, q4, (ra_v h.1 ha hb).2.1]
theorem ra_triv {f s : List (List Int)} (h : Rg f s) : isInv f s ↔ raT f s = trT f.length := by
 have nd := nd_of h
 have ht : raT f s = trT f.length ↔ ∀ x y, x < f.length → y < f.length → ra f s x y = y := by
  constructor
  · intro he x y hx hy
    have := (ra_v h.1 hx hy).2.1
    have e : v2 (trT f.length) x y = (y : Int) := v2_tabL hx hy
    rw [← he, (ra_v h.1 hx hy).1, ← this] at e
    omega
  · intro he
    refine tabL_congr fun x y hx hy => ?_
    rw [← (ra_v h.1 hx hy).2.1, he x y hx hy]
 rw [ht]
 constructor
 · intro hi x y hx hy
   obtain ⟨b, hb, rfl⟩ := nd.ss y x hy hx
   rw [ra_at h hy hb]
   have := (hi y hy b hb).1
   rw [← (h.1.v2f _ _).1] at this
   omega
 · intro ht x hx y hy
   have e : ∀ a b, a < f.length → b < f.length → σN f (σN f a b) (τN s b a) = a := fun a b ha hb => by rw [← ra_at h ha hb, ht _ _ (h.1.v2f a b).2 ha]
   have u := (h.1.v2f x y).2
   have v := (h.1.v2s x y).2
   have e1 := e x y hx hy
   have e2 := e _ _ u v
   rw [e1] at e2
   have e3 := nd.is x _ _ hx (nd.rt _ _ v u) hy e2
   unfold iv
   rw [← (h.1.v2f _ _).1, ← (h.1.v2s _ _).1, e1, e3]
   exact ⟨rfl, rfl⟩
def S_law116 (pg : Pg) : Prop := ∀ c : Rw Int, okB c → ∃ args', Call pg 116 [rawB c] args' (B true)
set_option maxHeartbeats 2000000 in
set_option maxRecDepth 20000 in
theorem t_law116 {pg : Pg} (hp : pg.fn 116 = some c_laws_FnDerivedRacks) (h128 : S_big pg) (h233 : S_drS pg 233) (h148 : S_dr pg 148) (h147 : S_dr pg 147) (h178 : S_same9 pg) (h234 : S_im9 pg) (h196 : S_triv pg) (h160 : S_ivI pg) (h171 : S_tw pg 171) (h235 : S_ord pg) (h33 : S_isRk pg 33) : S_law116 pg := by
 intro c hc
 obtain ⟨⟨f, s⟩, ⟨hX1, hX2⟩, hd⟩ := h233 c hc
 have hf : fits f := hX1.fits
 have hs : fits s := hX2.fits
 refine ⟨[rawB c], Call.intro hp rfl (by simp) ?_⟩
 show wp _ _ c_laws_FnDerivedRacks.body (post [.t 2] _ _ _) _
 simp [c_laws_FnDerivedRacks]
 refine j0i (h128 c) rfl rfl (fun _ => rfl) ?_
 by_cases hbig : (4096 : Int) < (lst c).length
 · simp [hbig]
 · simp [hbig]
   refine j0i hd rfl rfl (fun _ => by simp) ?_
   have hc1 := h148 f s hf hs
   have hc2 := h147 f s hf hs
   by_cases hgo : isReg f s
   · have hrg := rg_of hgo
     have hpm := hrg.1
     have h0 := hpm.pos
     have h12 := hpm.small
     have d1 : drC f s = 0 := by simp [drC, dec_true hgo.1, hgo.2]
     have d2 : drR f s = some (raT f s) := by simp [drR, dec_true hgo]
     rw [d1, d2] at hc1 hc2
     have hrk := ra_rck hrg hgo.1.2.1
     have hrl := raT_length f s
     have hft : fits (raT f s) := ⟨by omega, fun r hr => by rw [tabL_row hr]; omega⟩
     have hsm : smallT (raT f s) := ⟨by omega, fun r hr => by rw [tabL_row hr]; omega⟩
     have hlk := h178.tb (raT f s) (raT f s) hsm
     have him : ∀ x (hx : x < f.length), Call pg 234 [tb (raT f s), ix f[x]] [tb (raT f s), ix f[x]] (.mem .own (some 1) (rows (raT f s))) := fun x hx => by
      have := h234 (raT f s) f[x] (raT_tab hpm) (row_perm hrg hx).1 (by rw [hrl]; exact (row_perm hrg hx).2.1)
      rwa [ra_image hrg hx] at this
     obtain ⟨t1, t2, t3, t4⟩ := tw_id hrk
     have hc4 := h171 (raT f s) (idL (raT f s).length) hft (by simp; omega)
     have hok : isRk (raT f s) ∧ (idL (raT f s).length).length = (raT f s).length ∧ j0v (idL (raT f s).length) ∧ imT (raT f s) (idL (raT f s).length) = raT f s := ⟨hrk, by simp, (idP (by omega) (by omega)).1.pm, imT_id hrk⟩
     have c4 : twC (raT f s) (idL (raT f s).length) = 0 := by simp only [twC]; rw [if_pos hok.1, if_pos ⟨hok.2.1, hok.2.2.1⟩, if_pos hok.2.2.2]
     have r4 : twR (raT f s) (idL (raT f s).length) = some (twF (idL (raT f s).length), twS (raT f s) (idL (raT f s).length)) := by simp only [twR, if_pos hok]
     rw [c4, r4] at hc4
     have hc5 := h235 f s hgo.1
     have hc6 := h235 (twF (idL (raT f s).length)) (twS (raT f s) (idL (raT f s).length)) t1.1
     have hso := ord_same hrg hgo.1.2.1 (PM.of t1.1.1) t1.1.2.1 (by rw [t3, hrl]) (fun w j hw hj => t4 w j (by rw [hrl]; exact hw) hj)
     rw [hso] at hc6
     have hc7 := h196 f.length h0 h12
     have hc8 := h160 f s hgo.1.1
     have hc9 := h33 (raT f s) hft
     rw [dec_true hrk] at hc9
     have hc10 := h178.tb (raT f s) (trT f.length) hsm
     have q2 : dec (isInv f s) = decide (raT f s = trT f.length) := by
      by_cases hh : raT f s = trT f.length
      · rw [dec_true ((ra_triv hrg).2 hh)]; exact (decide_eq_true hh).symm
      · rw [j08 fun g => hh ((ra_triv hrg).1 g)]; exact (decide_eq_false hh).symm
     rw [q2] at hc8
     clear q2 hso t1 t2 t3 t4 hok c4 r4 hd d1 d2 hX1 hX2
     rw [hrl] at hc4 hc6
     generalize decide (raT f s = trT f.length) = b2 at *
     generalize ordS f s = O at *
     generalize (if O ≤ 1000000 then (O : Int) else 0) = o1 at *
     generalize (if O ≤ 1000000 then (0 : Int) else 3) = o2 at *
     generalize twF (idL f.length) = F at *
     generalize twS (raT f s) (idL f.length) = S at *
     generalize raT f s = T at *
     generalize trT f.length = W at *
     simp only [ownT, solT] at hc1 hc2 hc4
     simp
     refine j0i hc1 rfl rfl (fun _ => by simp) ?_
     simp
     refine j0i hc2 rfl rfl (fun _ => by simp) ?_
     simp
     refine j0i hlk rfl rfl (fun _ => by simp) ?_
     simp
     refine j0a (fun k e => e = fr [(3, some (.val (.mem .own none [j0w f, j0w s]))), (4, some (.val (.mem .own none [j0w T]))), (8, some (.val (I f.length))), (9, some (.val (ownL (idL k)))), (10, some (.val (I k)))]) f.length ?_ ?_ 0 _ (by omega) rfl
     · rintro k e hk rfl
       have hm := him k hk
       have hl := idL_length k
       rw [idL_succ]
       generalize idL k = G at *
       simp [hk]
       refine j0i hm rfl rfl (fun _ => by simp) ?_
       simp
       refine j0i hlk rfl rfl (fun _ => by simp) ?_
       simp [hl]
       exact ⟨by unfold roomy; omega, by omega, by simp only [ownL, List.map_append, List.map_cons, List.map_nil]⟩
     · rintro e rfl
       generalize idL f.length = G at *
       simp
       refine j0i hc7 rfl rfl (fun _ => by simp) ?_
       simp
       refine j0i hc8 rfl rfl (fun _ => rfl) ?_
       simp
       refine j0i hc4 rfl rfl (fun _ => by simp) ?_
       simp
       refine j0i hc5 rfl rfl (fun _ => rfl) ?_
       simp
       refine j0i hc6 rfl rfl (fun _ => rfl) ?_
       simp
       refine j0i hc9 rfl rfl (fun _ => rfl) ?_
       simp
       refine j0i hc10 rfl rfl (fun _ => rfl) ?_
       simp
   · have d2 : drR f s = none := by simp [drR, j08 hgo]
     have d1 : drC f s ≠ 0 := by
      unfold drC
      by_cases h1 : isSol f s
      · have h2 : ¬ nonDeg f s := fun h => hgo ⟨h1, h⟩
        simp [dec_true h1, h2]
      · simp [j08 h1]
     rw [d2] at hc1 hc2
     obtain ⟨q1, _, _, _⟩ := same9_e h178
     generalize drC f s = c3 at *
     simp only [ownT] at hc1 hc2
     simp
     refine j0i hc1 rfl rfl (fun _ => by simp) ?_
     simp
     refine j0i hc2 rfl rfl (fun _ => by simp) ?_
     simp
     refine j0i q1 rfl rfl (fun _ => by simp) ?_
     simp [d1]
end Go.Mch
