/- Our texts YlX YlY YlZ YlN YmA YjB YmC YnB, end to end. -/
import Derived.Test.YtkcgdmjdkbgmkaaP1
namespace Go.Mch
def exch3 : List (List Int) := [[0, 2, 1], [1, 0, 2], [2, 1, 0]]
structure Cnj (L : List (List Int)) : Prop where
 pos : 0 < L.length
 six : L.length ≤ 6
 pm : ∀ p ∈ L, Pm p ∧ p.length = 3
 cl : ∀ i j (hi : i < L.length) (hj : j < L.length), ∃ m, ∃ h : m < L.length, L[m] = thenL (thenL (invL L[i]) L[j]) L[i]
theorem cnj_of {L : List (List Int)} (h1 : 0 < L.length) (h2 : L.length ≤ 6) (h3 : ∀ p ∈ L, (∀ x ∈ p, 0 ≤ x ∧ x < (p.length : Int)) ∧ p.Nodup ∧ p.length = 3) (h4 : ∀ i < L.length, ∀ j < L.length, ∃ m, m < L.length ∧ L.getD m [] = thenL (thenL (invL (L.getD i [])) (L.getD j [])) (L.getD i [])) : Cnj L := by
 refine ⟨h1, h2, fun p hp => ⟨⟨⟨(h3 p hp).1, (h3 p hp).2.1⟩, by have := (h3 p hp).2.2; omega, by have := (h3 p hp).2.2; omega⟩, (h3 p hp).2.2⟩, fun i j hi hj => ?_⟩
 obtain ⟨m, hm, e⟩ := h4 i hi j hj
 refine ⟨m, hm, ?_⟩
 simpa [hi, hj, hm] using e
theorem cnj_perm : Cnj perm3 := cnj_of (by decide) (by decide) (by decide) (by decide)
theorem cnj_exch : Cnj exch3 := cnj_of (by decide) (by decide) (by decide) (by decide)
theorem tmodX {a n : Nat} (h : 0 < n) : ∃ m : Nat, ((a : Nat) : Int).tmod n = m ∧ m < n := ⟨a % n, by rw [Int.tmod_eq_emod_of_nonneg (by omega), Int.natCast_emod], Nat.mod_lt _ h⟩
def S_dtb (pg : Pg) : Prop := ∀ (c : Rw Int) (s : Int × Int) (most : Nat), Sr c s → 0 < most → most ≤ 12 → ∃ (s' : Int × Int) (n : Nat) (t : List (List Int)), (Sr c s' ∧ 0 < n ∧ n ≤ most ∧ TabN n t) ∧ Call pg 444 [src c s, I most] [src c s', I most] (ownTb t)
set_option maxHeartbeats 2000000 in
set_option maxRecDepth 10000 in
theorem t_dtb {pg : Pg} (hp : pg.fn 444 = some c_spec_l03DrawTable) (h336 : S_nxt pg) (h338 : S_dpm pg) (h31 : S_own pg) (h455 : S_alx pg) (h456 : S_cop pg) (h457 : S_perms3 pg) (h304 : S_inv pg 304) (h279 : S_then pg 279) (h67 : S_same pg) : S_dtb pg := by
 intro c s most hs m0 m12
 have hfind := Call.findA (α := (Int × Int) × Nat × List (List Int)) (Q := fun Y => Sr c Y.1 ∧ 0 < Y.2.1 ∧ Y.2.1 ≤ most ∧ TabN Y.2.1 Y.2.2) (args := [src c s, I most]) (args' := fun Y => [src c Y.1, I most]) (r := fun Y => ownTb Y.2.2) hp rfl (by simp [F.lets, c_spec_l03DrawTable, List.range, List.range.loop]) (by simp [kindOf]) ?_
 · obtain ⟨Y, h1, h2⟩ := hfind
   exact ⟨_, _, _, h1, h2⟩
 show wp _ _ c_spec_l03DrawTable.body (postX _ _ _ _ _) _
 generalize hR : postX (fun Y : (Int × Int) × Nat × List (List Int) => Sr c Y.1 ∧ 0 < Y.2.1 ∧ Y.2.1 ≤ most ∧ TabN Y.2.1 Y.2.2) c_spec_l03DrawTable.rs [src c s, I most] (fun Y => [src c Y.1, I most]) (fun Y => ownTb Y.2.2) = R
 have hfin : ∀ (s' : Int × Int) (k : Nat) (t : List (List Int)), Sr c s' → 0 < k → k ≤ most → TabN k t → R .ret (fr [(0, some (.val (src c s'))), (1, some (.val (I most))), (4, some (.val (ownTb t)))]) := by
  intro s' k X a1 a2 a3 a4
  subst hR
  exact ⟨(s', k, X), ⟨a1, a2, a3, a4⟩, by simp [post, c_spec_l03DrawTable]⟩
 obtain ⟨s1, r1, ⟨k1, k2⟩, hc1⟩ := h336.at hs (n := most) m0
 obtain ⟨s2, kd, ⟨k3, k4⟩, hc2⟩ := h336.at k1 (n := 5) (by omega)
 obtain ⟨n, hn⟩ : ∃ n : Nat, (1 : Int) + r1 = n := ⟨1 + r1, by omega⟩
 have hn0 : 0 < n := by omega
 have hnm : n ≤ most := by omega
 have hnn : ¬ n = 0 := by omega
 simp [c_spec_l03DrawTable]
 refine callS (ts' := [rawB c, I s1.1, H64 s1.2]) (r := I r1) (by simpa using hc1) ?_
 simp [hn]
 refine ⟨by omega, ?_⟩
 refine callS (ts' := [rawB c, I s2.1, H64 s2.2]) (r := I kd) (by simpa using hc2) ?_
 by_cases hk0 : kd = 0
 · obtain ⟨s3, p, ⟨j1, j2, j3⟩, hc3⟩ := h338 c s2 n k3 (by omega)
   simp [hk0]
   refine callS (ts' := [rawB c, I s3.1, H64 s3.2]) (r := ownL p) (by simpa using hc3) ?_
   simp
   refine wpLoop_count (fun k e => ∃ t : List (List Int), (t.length = k ∧ ∀ r ∈ t, RowIn n r) ∧ e = fr [(0, some (.val (src c s3))), (1, some (.val (I most))), (5, some (.val (I n))), (6, some (.val (ownL p))), (7, some (.val (ownTb t))), (8, some (.val (I k)))]) n ?_ ?_ 0 _ (by omega) ⟨[], ⟨rfl, by simp⟩, rfl⟩
   · rintro k e hk ⟨t, ⟨g1, g2⟩, rfl⟩
     have hpl := j2.1
     simp [hk]
     refine callR (h31 p (by omega)) rfl rfl (fun _ => by simp) ?_
     simp
     exact ⟨by unfold roomy; omega, by omega, t ++ [p], TabN.snoc ⟨g1, g2⟩ j2, by simp only [ownTb, rows, List.map_append, List.map_cons, List.map_nil]⟩
   · rintro e ⟨t, g, rfl⟩
     simp
     exact hfin s3 n t j1 hn0 hnm g
 · by_cases hk1 : kd = 1
   · obtain ⟨a2, ha2, ha2'⟩ := tmodX (a := 2) hn0
     have ha3 : (2 : Int).tmod n = a2 := ha2
     obtain ⟨n1, hn1⟩ : ∃ n1 : Nat, (n : Int) - 1 = n1 := ⟨n - 1, by omega⟩
     obtain ⟨t, ht, hc3⟩ := h455 n n1 a2 (by omega) (by omega) (by omega)
     simp [hk1, hnn, ha3, hn1]
     refine ⟨by omega, ?_⟩
     refine callR hc3 rfl rfl (fun _ => by simp) ?_
     simp
     exact hfin s2 n t k3 hn0 hnm ht
   · by_cases hk2 : kd = 2
     · simp [hk2]
       refine wpLoop_count (fun k e => ∃ s' : Int × Int, Sr c s' ∧ e = fr [(0, some (.val (src c s'))), (1, some (.val (I most))), (5, some (.val (I n))), (9, some (.val (I k)))]) 6 ?_ ?_ 0 _ (by omega) ⟨s2, k3, rfl⟩
       · rintro k e hk ⟨s3, g1, rfl⟩
         obtain ⟨s4, a, ⟨j1, j2⟩, hd1⟩ := h336.at g1 (n := n) hn0
         obtain ⟨b, hcb⟩ := h456 a n (by omega) (by omega)
         obtain ⟨z, hz⟩ : ∃ z : Nat, (1 : Int) - a + n = z := ⟨1 + n - a, by omega⟩
         obtain ⟨y, hy, hy'⟩ := tmodX (a := z) hn0
         obtain ⟨t, ht, hct⟩ := h455 n a y (by omega) (by omega) (by omega)
         have hk' : (k : Int) < 6 := by omega
         simp [hk']
         refine callS (ts' := [rawB c, I s4.1, H64 s4.2]) (r := I a) (by simpa using hd1) ?_
         simp
         refine callR hcb rfl rfl (fun _ => rfl) ?_
         cases b with
         | true =>
          simp [hz, hnn, hy, -tmod_nat]
          refine ⟨by omega, by omega, ?_⟩
          refine callR hct rfl rfl (fun _ => by simp) ?_
          simp
          exact hfin s4 n t j1 hn0 hnm ht
         | false =>
          simp
          exact ⟨by omega, s4.1, s4.2, j1, rfl⟩
       · rintro e ⟨s3, g1, rfl⟩
         simp
         obtain ⟨s4, u, ⟨v1, v2⟩, hcu⟩ := h336.at g1 (n := n) hn0
         obtain ⟨g, hg, hg0, hgn, hgu⟩ : ∃ g : Nat, mmI true 1 (u : Int) = g ∧ 0 < g ∧ g ≤ 12 ∧ (u ≠ 0 → g = u) := by
          by_cases hu : u = 0
          · exact ⟨1, by simp [mmI, hu], by omega, by omega, fun h => (h hu).elim⟩
          · exact ⟨u, by simp [mmI]; omega, by omega, by omega, fun _ => rfl⟩
         obtain ⟨g1, hg1⟩ : ∃ g1 : Nat, (g : Int) - 1 = g1 := ⟨g - 1, by omega⟩
         obtain ⟨g2, hg2, hg2'⟩ := tmodX (a := 2) hg0
         have hg2 : (2 : Int).tmod g = g2 := hg2
         obtain ⟨d, hd⟩ : ∃ d : Nat, (n : Int) - u = d := ⟨n - u, by omega⟩
         have hd0 : 0 < d := by omega
         obtain ⟨d1, hd1, hd1'⟩ := tmodX (a := 1) hd0
         have hd1 : (1 : Int).tmod d = d1 := hd1
         obtain ⟨A, hA, hcA⟩ := h455 g g1 g2 (by omega) (by omega) (by omega)
         obtain ⟨D, hD, hcD⟩ := h455 d d1 0 (by omega) (by omega) (by omega)
         obtain ⟨s5, p, ⟨v3, v4, v5⟩, hcp⟩ := h338 c s4 d v1 (by omega)
         have hgz : ¬ g = 0 := by omega
         have hdz : ¬ d = 0 := by omega
         refine callS (ts' := [rawB c, I s4.1, H64 s4.2]) (r := I u) (by simpa using hcu) ?_
         simp [hg, hgz, hg1, hg2, -tmod_nat]
         refine ⟨by omega, ?_⟩
         refine callR hcA rfl rfl (fun _ => by simp) ?_
         simp [hd, hdz, hd1, -tmod_nat]
         refine ⟨by omega, ?_⟩
         refine callR hcD rfl rfl (fun _ => by simp) ?_
         by_cases hu0 : u = 0
         · simp [hu0]
           have hdn : d = n := by omega
           subst hdn
           exact hfin s4 d D v1 hn0 hnm hD
         · simp [hu0, hd]
           refine ⟨by omega, ?_⟩
           refine callS (ts' := [rawB c, I s5.1, H64 s5.2]) (r := ownL p) (by simpa using hcp) ?_
           simp
           refine wpLoop_count (fun k e => ∃ t : List (List Int), (t.length = k ∧ ∀ r ∈ t, RowIn n r) ∧ e = fr [(0, some (.val (src c s5))), (1, some (.val (I most))), (5, some (.val (I n))), (18, some (.val (I u))), (19, some (.val (ownTb A))), (20, some (.val (ownTb D))), (21, some (.val (ownL p))), (22, some (.val (ownTb t))), (23, some (.val (I k)))]) n ?_ ?_ 0 _ (by omega) ⟨[], ⟨rfl, by simp⟩, rfl⟩
           · rintro k e hk ⟨t, ⟨w1, w2⟩, rfl⟩
             simp [hk]
             refine wpLoop_count (fun j e => ∃ q : List Int, (q.length = j ∧ ∀ v ∈ q, 0 ≤ v ∧ v < n) ∧ e = fr [(0, some (.val (src c s5))), (1, some (.val (I most))), (5, some (.val (I n))), (18, some (.val (I u))), (19, some (.val (ownTb A))), (20, some (.val (ownTb D))), (21, some (.val (ownL p))), (22, some (.val (ownTb t))), (23, some (.val (I k))), (24, some (.val (ownL q))), (25, some (.val (I j)))]) n ?_ ?_ 0 _ (by omega) ⟨[], ⟨rfl, by simp⟩, rfl⟩
             · rintro j e hj ⟨q, ⟨x1, x2⟩, rfl⟩
               by_cases hku : k < u
               · by_cases hju : j < u
                 · have hgu' := hgu hu0
                   subst hgu'
                   obtain ⟨y1, y2, y3, y4, y5⟩ := hA.at hku hju
                   simp [hj, hku, hju]
                   have hgr : (rows A)[k]? = some (ownL A[k]) := by rw [rows_get, List.getElem?_eq_getElem y1]; rfl
                   simp [y1, hgr, y2]
                   exact ⟨by unfold roomy; omega, by omega, q ++ [(A[k])[j]], ⟨by simp [x1], snoc_in x2 (by omega)⟩, by simp only [ownL, List.map_append, List.map_cons, List.map_nil]⟩
                 · have hju' : u ≤ j := by omega
                   have hku' : ¬ u ≤ k := by omega
                   simp [hj, hku, hju, hku', undefV]
                   exact ⟨by unfold roomy; omega, by omega, q ++ [(j : Int)], ⟨by simp [x1], snoc_in x2 (by omega)⟩, by simp only [ownL, List.map_append, List.map_cons, List.map_nil]⟩
               · have hku' : u ≤ k := by omega
                 by_cases hju : j < u
                 · have hju' : ¬ u ≤ j := by omega
                   simp [hj, hku, hku', hju', undefV]
                   exact ⟨by unfold roomy; omega, by omega, q ++ [(j : Int)], ⟨by simp [x1], snoc_in x2 (by omega)⟩, by simp only [ownL, List.map_append, List.map_cons, List.map_nil]⟩
                 · have hju' : u ≤ j := by omega
                   simp [hj, hku, hku', hju', undefV]
                   obtain ⟨ku, eku⟩ : ∃ ku : Nat, (k : Int) - u = ku := ⟨k - u, by omega⟩
                   obtain ⟨ju, eju⟩ : ∃ ju : Nat, (j : Int) - u = ju := ⟨j - u, by omega⟩
                   obtain ⟨y1, y2, y3, y4, y5⟩ := hD.at (i := ku) (j := ju) (by omega) (by omega)
                   have hgr : (rows D)[ku]? = some (ownL D[ku]) := by rw [rows_get, List.getElem?_eq_getElem y1]; rfl
                   obtain ⟨z, ez⟩ : ∃ z : Nat, (D[ku])[ju] = z := ⟨((D[ku])[ju]).toNat, by omega⟩
                   have hpl := v4.1
                   have hz : z < p.length := by omega
                   have hpz := v4.2 _ (List.getElem_mem hz)
                   have kk : k - u = ku := by omega
                   have jj : j - u = ju := by omega
                   simp [eku, eju, kk, jj, y1, hgr, y2, ez, hz]
                   exact ⟨by omega, by omega, by omega, by unfold roomy; omega, by omega, q ++ [(u : Int) + p[z]], ⟨by simp [x1], snoc_in x2 (by omega)⟩, by simp only [ownL, List.map_append, List.map_cons, List.map_nil]⟩
             · rintro e ⟨q, ⟨x1, x2⟩, rfl⟩
               simp
               exact ⟨by unfold roomy; omega, by omega, t ++ [q], TabN.snoc ⟨w1, w2⟩ ⟨x1, x2⟩, by simp only [ownTb, rows, List.map_append, List.map_cons, List.map_nil]⟩
           · rintro e ⟨t, w, rfl⟩
             simp
             exact hfin s5 n t v3 hn0 hnm w
     · by_cases hk3 : kd = 3
       · by_cases hm6 : 6 ≤ most
         · have hm6' : (6 : Int) ≤ most := by omega
           obtain ⟨sK, z, ⟨k5, k6⟩, hcz⟩ := h336.at k3 (n := 2) (by omega)
           simp [hk3, hm6']
           refine callR h457 rfl rfl (fun _ => by simp) ?_
           simp
           refine callS (ts' := [rawB c, I sK.1, H64 sK.2]) (r := I z) (by simpa using hcz) ?_
           by_cases hz : z = 0
           · have hL := cnj_exch
             simp [hz]
             refine wpLoop_count (fun i e => ∃ t : List (List Int), (t.length = i ∧ ∀ r ∈ t, RowIn exch3.length r) ∧ e = fr [(0, some (.val (src c sK))), (1, some (.val (I most))), (11, some (.val (ownTb exch3))), (12, some (.val (ownTb t))), (13, some (.val (I i)))]) exch3.length ?_ ?_ 0 _ (by omega) ⟨[], ⟨rfl, by simp⟩, rfl⟩
             · rintro i e hi ⟨t, ⟨w1, w2⟩, rfl⟩
               simp [hi]
               refine wpLoop_count (fun j e => ∃ q : List Int, (q.length = j ∧ ∀ v ∈ q, 0 ≤ v ∧ v < exch3.length) ∧ e = fr [(0, some (.val (src c sK))), (1, some (.val (I most))), (11, some (.val (ownTb exch3))), (12, some (.val (ownTb t))), (13, some (.val (I i))), (14, some (.val (ownL q))), (15, some (.val (I j)))]) exch3.length ?_ ?_ 0 _ (by omega) ⟨[], ⟨rfl, by simp⟩, rfl⟩
               · rintro j e hj ⟨q, ⟨x1, x2⟩, rfl⟩
                 obtain ⟨m, hm, em⟩ := hL.cl i j hi hj
                 obtain ⟨pi, li⟩ := hL.pm _ (List.getElem_mem hi)
                 obtain ⟨pj, lj⟩ := hL.pm _ (List.getElem_mem hj)
                 have gi : (rows exch3)[i]? = some (ownL exch3[i]) := by rw [rows_get, List.getElem?_eq_getElem hi]; rfl
                 have gj : (rows exch3)[j]? = some (ownL exch3[j]) := by rw [rows_get, List.getElem?_eq_getElem hj]; rfl
                 have h1 := h304 exch3[i] pi
                 have h2 := h279 (invL exch3[i]) exch3[j] (by simp; omega) (by
                  have := (invL_ok pi).1.2
                  intro x hx
                  have := this x hx
                  omega)
                 have h3 := h279 (thenL (invL exch3[i]) exch3[j]) exch3[i] (by simp; omega) (by
                  intro x hx
                  rw [thenL, List.mem_map] at hx
                  obtain ⟨y, hy, rfl⟩ := hx
                  have hy2 := (invL_ok pi).1.2 y hy
                  have hyl : y.toNat < (exch3[j]).length := by omega
                  rw [List.getD_eq_getElem?_getD, List.getElem?_eq_getElem hyl, Option.getD_some]
                  have := pj.1.1 _ (List.getElem_mem hyl)
                  omega)
                 rw [← em] at h3
                 simp [hi, hj, gi, gj]
                 refine callR h1 rfl rfl (fun _ => by simp) ?_
                 simp [hj, gj]
                 refine callR h2 rfl rfl (fun _ => by simp) ?_
                 simp [hi, gi]
                 refine callR h3 rfl rfl (fun _ => by simp) ?_
                 simp
                 refine wpLoop_lower (α := Nat) (fun k => exch3.length - k) (fun k e => k ≤ m ∧ e = fr [(0, some (.val (src c sK))), (1, some (.val (I most))), (11, some (.val (ownTb exch3))), (12, some (.val (ownTb t))), (13, some (.val (I i))), (14, some (.val (ownL q))), (15, some (.val (I j))), (16, some (.val (ownL exch3[m]))), (17, some (.val (I k)))]) ?_ 0 _ ⟨by omega, rfl⟩
                 rintro k e ⟨hkm, rfl⟩
                 have hkl : k < exch3.length := by omega
                 have gk : (rows exch3)[k]? = some (ownL exch3[k]) := by rw [rows_get, List.getElem?_eq_getElem hkl]; rfl
                 have lk := (hL.pm _ (List.getElem_mem hkl)).2
                 have h4 := h67 exch3[k] exch3[m] (by omega)
                 have hsix := hL.six
                 simp [hkl, gk]
                 refine callR h4 rfl rfl (fun _ => rfl) ?_
                 by_cases he : exch3[k] = exch3[m]
                 · simp [he]
                   exact ⟨by unfold roomy; omega, by omega, q ++ [(k : Int)], ⟨by simp [x1], snoc_in x2 (by omega)⟩, by simp only [ownL, List.map_append, List.map_cons, List.map_nil]⟩
                 · have hne : k ≠ m := fun h => he (by subst h; rfl)
                   simp [he]
                   exact ⟨by omega, k + 1, by omega, by omega, rfl⟩
               · rintro e ⟨q, ⟨x1, x2⟩, rfl⟩
                 simp
                 have hsix := hL.six
                 exact ⟨by unfold roomy; omega, by omega, t ++ [q], TabN.snoc ⟨w1, w2⟩ ⟨x1, x2⟩, by simp only [ownTb, rows, List.map_append, List.map_cons, List.map_nil]⟩
             · rintro e ⟨t, w, rfl⟩
               simp
               exact hfin sK exch3.length t k5 hL.pos (by have := hL.six; omega) w
           · have hL := cnj_perm
             simp [hz]
             refine wpLoop_count (fun i e => ∃ t : List (List Int), (t.length = i ∧ ∀ r ∈ t, RowIn perm3.length r) ∧ e = fr [(0, some (.val (src c sK))), (1, some (.val (I most))), (11, some (.val (ownTb perm3))), (12, some (.val (ownTb t))), (13, some (.val (I i)))]) perm3.length ?_ ?_ 0 _ (by omega) ⟨[], ⟨rfl, by simp⟩, rfl⟩
             · rintro i e hi ⟨t, ⟨w1, w2⟩, rfl⟩
               simp [hi]
               refine wpLoop_count (fun j e => ∃ q : List Int, (q.length = j ∧ ∀ v ∈ q, 0 ≤ v ∧ v < perm3.length) ∧ e = fr [(0, some (.val (src c sK))), (1, some (.val (I most))), (11, some (.val (ownTb perm3))), (12, some (.val (ownTb t))), (13, some (.val (I i))), (14, some (.val (ownL q))), (15, some (.val (I j)))]) perm3.length ?_ ?_ 0 _ (by omega) ⟨[], ⟨rfl, by simp⟩, rfl⟩
               · rintro j e hj ⟨q, ⟨x1, x2⟩, rfl⟩
                 obtain ⟨m, hm, em⟩ := hL.cl i j hi hj
                 obtain ⟨pi, li⟩ := hL.pm _ (List.getElem_mem hi)
                 obtain ⟨pj, lj⟩ := hL.pm _ (List.getElem_mem hj)
                 have gi : (rows perm3)[i]? = some (ownL perm3[i]) := by rw [rows_get, List.getElem?_eq_getElem hi]; rfl
                 have gj : (rows perm3)[j]? = some (ownL perm3[j]) := by rw [rows_get, List.getElem?_eq_getElem hj]; rfl
                 have h1 := h304 perm3[i] pi
                 have h2 := h279 (invL perm3[i]) perm3[j] (by simp; omega) (by
                  have := (invL_ok pi).1.2
                  intro x hx
                  have := this x hx
                  omega)
                 have h3 := h279 (thenL (invL perm3[i]) perm3[j]) perm3[i] (by simp; omega) (by
                  intro x hx
                  rw [thenL, List.mem_map] at hx
                  obtain ⟨y, hy, rfl⟩ := hx
                  have hy2 := (invL_ok pi).1.2 y hy
                  have hyl : y.toNat < (perm3[j]).length := by omega
                  rw [List.getD_eq_getElem?_getD, List.getElem?_eq_getElem hyl, Option.getD_some]
                  have := pj.1.1 _ (List.getElem_mem hyl)
                  omega)
                 rw [← em] at h3
                 simp [hi, hj, gi, gj]
                 refine callR h1 rfl rfl (fun _ => by simp) ?_
                 simp [hj, gj]
                 refine callR h2 rfl rfl (fun _ => by simp) ?_
                 simp [hi, gi]
                 refine callR h3 rfl rfl (fun _ => by simp) ?_
                 simp
                 refine wpLoop_lower (α := Nat) (fun k => perm3.length - k) (fun k e => k ≤ m ∧ e = fr [(0, some (.val (src c sK))), (1, some (.val (I most))), (11, some (.val (ownTb perm3))), (12, some (.val (ownTb t))), (13, some (.val (I i))), (14, some (.val (ownL q))), (15, some (.val (I j))), (16, some (.val (ownL perm3[m]))), (17, some (.val (I k)))]) ?_ 0 _ ⟨by omega, rfl⟩
                 rintro k e ⟨hkm, rfl⟩
                 have hkl : k < perm3.length := by omega
                 have gk : (rows perm3)[k]? = some (ownL perm3[k]) := by rw [rows_get, List.getElem?_eq_getElem hkl]; rfl
                 have lk := (hL.pm _ (List.getElem_mem hkl)).2
                 have h4 := h67 perm3[k] perm3[m] (by omega)
                 have hsix := hL.six
                 simp [hkl, gk]
                 refine callR h4 rfl rfl (fun _ => rfl) ?_
                 by_cases he : perm3[k] = perm3[m]
                 · simp [he]
                   exact ⟨by unfold roomy; omega, by omega, q ++ [(k : Int)], ⟨by simp [x1], snoc_in x2 (by omega)⟩, by simp only [ownL, List.map_append, List.map_cons, List.map_nil]⟩
                 · have hne : k ≠ m := fun h => he (by subst h; rfl)
                   simp [he]
                   exact ⟨by omega, k + 1, by omega, by omega, rfl⟩
               · rintro e ⟨q, ⟨x1, x2⟩, rfl⟩
                 simp
                 have hsix := hL.six
                 exact ⟨by unfold roomy; omega, by omega, t ++ [q], TabN.snoc ⟨w1, w2⟩ ⟨x1, x2⟩, by simp only [ownTb, rows, List.map_append, List.map_cons, List.map_nil]⟩
             · rintro e ⟨t, w, rfl⟩
               simp
               exact hfin sK perm3.length t k5 hL.pos (by have := hL.six; omega) w
         · have hm6' : ¬ (6 : Int) ≤ most := by omega
           simp [hk3, hm6']
           obtain ⟨s4, u, ⟨v1, v2⟩, hcu⟩ := h336.at k3 (n := n) hn0
           obtain ⟨g, hg, hg0, hgn, hgu⟩ : ∃ g : Nat, mmI true 1 (u : Int) = g ∧ 0 < g ∧ g ≤ 12 ∧ (u ≠ 0 → g = u) := by
            by_cases hu : u = 0
            · exact ⟨1, by simp [mmI, hu], by omega, by omega, fun h => (h hu).elim⟩
            · exact ⟨u, by simp [mmI]; omega, by omega, by omega, fun _ => rfl⟩
           obtain ⟨g1, hg1⟩ : ∃ g1 : Nat, (g : Int) - 1 = g1 := ⟨g - 1, by omega⟩
           obtain ⟨g2, hg2, hg2'⟩ := tmodX (a := 2) hg0
           have hg2 : (2 : Int).tmod g = g2 := hg2
           obtain ⟨d, hd⟩ : ∃ d : Nat, (n : Int) - u = d := ⟨n - u, by omega⟩
           have hd0 : 0 < d := by omega
           obtain ⟨d1, hd1, hd1'⟩ := tmodX (a := 1) hd0
           have hd1 : (1 : Int).tmod d = d1 := hd1
           obtain ⟨A, hA, hcA⟩ := h455 g g1 g2 (by omega) (by omega) (by omega)
           obtain ⟨D, hD, hcD⟩ := h455 d d1 0 (by omega) (by omega) (by omega)
           obtain ⟨s5, p, ⟨v3, v4, v5⟩, hcp⟩ := h338 c s4 d v1 (by omega)
           have hgz : ¬ g = 0 := by omega
           have hdz : ¬ d = 0 := by omega
           refine callS (ts' := [rawB c, I s4.1, H64 s4.2]) (r := I u) (by simpa using hcu) ?_
           simp [hg, hgz, hg1, hg2, -tmod_nat]
           refine ⟨by omega, ?_⟩
           refine callR hcA rfl rfl (fun _ => by simp) ?_
           simp [hd, hdz, hd1, -tmod_nat]
           refine ⟨by omega, ?_⟩
           refine callR hcD rfl rfl (fun _ => by simp) ?_
           by_cases hu0 : u = 0
           · simp [hu0]
             have hdn : d = n := by omega
             subst hdn
             exact hfin s4 d D v1 hn0 hnm hD
           · simp [hu0, hd]
             refine ⟨by omega, ?_⟩
             refine callS (ts' := [rawB c, I s5.1, H64 s5.2]) (r := ownL p) (by simpa using hcp) ?_
             simp
             refine wpLoop_count (fun k e => ∃ t : List (List Int), (t.length = k ∧ ∀ r ∈ t, RowIn n r) ∧ e = fr [(0, some (.val (src c s5))), (1, some (.val (I most))), (5, some (.val (I n))), (18, some (.val (I u))), (19, some (.val (ownTb A))), (20, some (.val (ownTb D))), (21, some (.val (ownL p))), (22, some (.val (ownTb t))), (23, some (.val (I k)))]) n ?_ ?_ 0 _ (by omega) ⟨[], ⟨rfl, by simp⟩, rfl⟩
             · rintro k e hk ⟨t, ⟨w1, w2⟩, rfl⟩
               simp [hk]
               refine wpLoop_count (fun j e => ∃ q : List Int, (q.length = j ∧ ∀ v ∈ q, 0 ≤ v ∧ v < n) ∧ e = fr [(0, some (.val (src c s5))), (1, some (.val (I most))), (5, some (.val (I n))), (18, some (.val (I u))), (19, some (.val (ownTb A))), (20, some (.val (ownTb D))), (21, some (.val (ownL p))), (22, some (.val (ownTb t))), (23, some (.val (I k))), (24, some (.val (ownL q))), (25, some (.val (I j)))]) n ?_ ?_ 0 _ (by omega) ⟨[], ⟨rfl, by simp⟩, rfl⟩
               · rintro j e hj ⟨q, ⟨x1, x2⟩, rfl⟩
                 by_cases hku : k < u
                 · by_cases hju : j < u
                   · have hgu' := hgu hu0
                     subst hgu'
                     obtain ⟨y1, y2, y3, y4, y5⟩ := hA.at hku hju
                     simp [hj, hku, hju]
                     have hgr : (rows A)[k]? = some (ownL A[k]) := by rw [rows_get, List.getElem?_eq_getElem y1]; rfl
                     simp [y1, hgr, y2]
                     exact ⟨by unfold roomy; omega, by omega, q ++ [(A[k])[j]], ⟨by simp [x1], snoc_in x2 (by omega)⟩, by simp only [ownL, List.map_append, List.map_cons, List.map_nil]⟩
                   · have hju' : u ≤ j := by omega
                     have hku' : ¬ u ≤ k := by omega
                     simp [hj, hku, hju, hku', undefV]
                     exact ⟨by unfold roomy; omega, by omega, q ++ [(j : Int)], ⟨by simp [x1], snoc_in x2 (by omega)⟩, by simp only [ownL, List.map_append, List.map_cons, List.map_nil]⟩
                 · have hku' : u ≤ k := by omega
                   by_cases hju : j < u
                   · have hju' : ¬ u ≤ j := by omega
                     simp [hj, hku, hku', hju', undefV]
                     exact ⟨by unfold roomy; omega, by omega, q ++ [(j : Int)], ⟨by simp [x1], snoc_in x2 (by omega)⟩, by simp only [ownL, List.map_append, List.map_cons, List.map_nil]⟩
                   · have hju' : u ≤ j := by omega
                     simp [hj, hku, hku', hju', undefV]
                     obtain ⟨ku, eku⟩ : ∃ ku : Nat, (k : Int) - u = ku := ⟨k - u, by omega⟩
                     obtain ⟨ju, eju⟩ : ∃ ju : Nat, (j : Int) - u = ju := ⟨j - u, by omega⟩
                     obtain ⟨y1, y2, y3, y4, y5⟩ := hD.at (i := ku) (j := ju) (by omega) (by omega)
                     have hgr : (rows D)[ku]? = some (ownL D[ku]) := by rw [rows_get, List.getElem?_eq_getElem y1]; rfl
                     obtain ⟨z, ez⟩ : ∃ z : Nat, (D[ku])[ju] = z := ⟨((D[ku])[ju]).toNat, by omega⟩
                     have hpl := v4.1
                     have hz : z < p.length := by omega
                     have hpz := v4.2 _ (List.getElem_mem hz)
                     have kk : k - u = ku := by omega
                     have jj : j - u = ju := by omega
                     simp [eku, eju, kk, jj, y1, hgr, y2, ez, hz]
                     exact ⟨by omega, by omega, by omega, by unfold roomy; omega, by omega, q ++ [(u : Int) + p[z]], ⟨by simp [x1], snoc_in x2 (by omega)⟩, by simp only [ownL, List.map_append, List.map_cons, List.map_nil]⟩
               · rintro e ⟨q, ⟨x1, x2⟩, rfl⟩
                 simp
                 exact ⟨by unfold roomy; omega, by omega, t ++ [q], TabN.snoc ⟨w1, w2⟩ ⟨x1, x2⟩, by simp only [ownTb, rows, List.map_append, List.map_cons, List.map_nil]⟩
             · rintro e ⟨t, w, rfl⟩
               simp
               exact hfin s5 n t v3 hn0 hnm w
       · have e1 : ¬ (kd : Int) = 1 := by omega
         have e2 : ¬ (kd : Int) = 2 := by omega
         have e3 : ¬ (kd : Int) = 3 := by omega
         simp [hk0, e1, e2, e3]
         obtain ⟨s4, u, ⟨v1, v2⟩, hcu⟩ := h336.at k3 (n := n) hn0
         obtain ⟨g, hg, hg0, hgn, hgu⟩ : ∃ g : Nat, mmI true 1 (u : Int) = g ∧ 0 < g ∧ g ≤ 12 ∧ (u ≠ 0 → g = u) := by
          by_cases hu : u = 0
          · exact ⟨1, by simp [mmI, hu], by omega, by omega, fun h => (h hu).elim⟩
          · exact ⟨u, by simp [mmI]; omega, by omega, by omega, fun _ => rfl⟩
         obtain ⟨g1, hg1⟩ : ∃ g1 : Nat, (g : Int) - 1 = g1 := ⟨g - 1, by omega⟩
         obtain ⟨g2, hg2, hg2'⟩ := tmodX (a := 2) hg0
         have hg2 : (2 : Int).tmod g = g2 := hg2
         obtain ⟨d, hd⟩ : ∃ d : Nat, (n : Int) - u = d := ⟨n - u, by omega⟩
         have hd0 : 0 < d := by omega
         obtain ⟨d1, hd1, hd1'⟩ := tmodX (a := 1) hd0
         have hd1 : (1 : Int).tmod d = d1 := hd1
         obtain ⟨A, hA, hcA⟩ := h455 g g1 g2 (by omega) (by omega) (by omega)
         obtain ⟨D, hD, hcD⟩ := h455 d d1 0 (by omega) (by omega) (by omega)
         obtain ⟨s5, p, ⟨v3, v4, v5⟩, hcp⟩ := h338 c s4 d v1 (by omega)
         have hgz : ¬ g = 0 := by omega
         have hdz : ¬ d = 0 := by omega
         refine callS (ts' := [rawB c, I s4.1, H64 s4.2]) (r := I u) (by simpa using hcu) ?_
         simp [hg, hgz, hg1, hg2, -tmod_nat]
         refine ⟨by omega, ?_⟩
         refine callR hcA rfl rfl (fun _ => by simp) ?_
         simp [hd, hdz, hd1, -tmod_nat]
         refine ⟨by omega, ?_⟩
         refine callR hcD rfl rfl (fun _ => by simp) ?_
         by_cases hu0 : u = 0
         · simp [hu0]
           have hdn : d = n := by omega
           subst hdn
           exact hfin s4 d D v1 hn0 hnm hD
         · simp [hu0, hd]
           refine ⟨by omega, ?_⟩
           refine callS (ts' := [rawB c, I s5.1, H64 s5.2]) (r := ownL p) (by simpa using hcp) ?_
           simp
           refine wpLoop_count (fun k e => ∃ t : List (List Int), (t.length = k ∧ ∀ r ∈ t, RowIn n r) ∧ e = fr [(0, some (.val (src c s5))), (1, some (.val (I most))), (5, some (.val (I n))), (18, some (.val (I u))), (19, some (.val (ownTb A))), (20, some (.val (ownTb D))), (21, some (.val (ownL p))), (22, some (.val (ownTb t))), (23, some (.val (I k)))]) n ?_ ?_ 0 _ (by omega) ⟨[], ⟨rfl, by simp⟩, rfl⟩
           · rintro k e hk ⟨t, ⟨w1, w2⟩, rfl⟩
             simp [hk]
             refine wpLoop_count (fun j e => ∃ q : List Int, (q.length = j ∧ ∀ v ∈ q, 0 ≤ v ∧ v < n) ∧ e = fr [(0, some (.val (src c s5))), (1, some (.val (I most))), (5, some (.val (I n))), (18, some (.val (I u))), (19, some (.val (ownTb A))), (20, some (.val (ownTb D))), (21, some (.val (ownL p))), (22, some (.val (ownTb t))), (23, some (.val (I k))), (24, some (.val (ownL q))), (25, some (.val (I j)))]) n ?_ ?_ 0 _ (by omega) ⟨[], ⟨rfl, by simp⟩, rfl⟩
             · rintro j e hj ⟨q, ⟨x1, x2⟩, rfl⟩
               by_cases hku : k < u
               · by_cases hju : j < u
                 · have hgu' := hgu hu0
                   subst hgu'
                   obtain ⟨y1, y2, y3, y4, y5⟩ := hA.at hku hju
                   simp [hj, hku, hju]
                   have hgr : (rows A)[k]? = some (ownL A[k]) := by rw [rows_get, List.getElem?_eq_getElem y1]; rfl
                   simp [y1, hgr, y2]
                   exact ⟨by unfold roomy; omega, by omega, q ++ [(A[k])[j]], ⟨by simp [x1], snoc_in x2 (by omega)⟩, by simp only [ownL, List.map_append, List.map_cons, List.map_nil]⟩
                 · have hju' : u ≤ j := by omega
                   have hku' : ¬ u ≤ k := by omega
                   simp [hj, hku, hju, hku', undefV]
                   exact ⟨by unfold roomy; omega, by omega, q ++ [(j : Int)], ⟨by simp [x1], snoc_in x2 (by omega)⟩, by simp only [ownL, List.map_append, List.map_cons, List.map_nil]⟩
               · have hku' : u ≤ k := by omega
                 by_cases hju : j < u
                 · have hju' : ¬ u ≤ j := by omega
                   simp [hj, hku, hku', hju', undefV]
                   exact ⟨by unfold roomy; omega, by omega, q ++ [(j : Int)], ⟨by simp [x1], snoc_in x2 (by omega)⟩, by simp only [ownL, List.map_append, List.map_cons, List.map_nil]⟩
                 · have hju' : u ≤ j := by omega
                   simp [hj, hku, hku', hju', undefV]
                   obtain ⟨ku, eku⟩ : ∃ ku : Nat, (k : Int) - u = ku := ⟨k - u, by omega⟩
                   obtain ⟨ju, eju⟩ : ∃ ju : Nat, (j : Int) - u = ju := ⟨j - u, by omega⟩
                   obtain ⟨y1, y2, y3, y4, y5⟩ := hD.at (i := ku) (j := ju) (by omega) (by omega)
                   have hgr : (rows D)[ku]? = some (ownL D[ku]) := by rw [rows_get, List.getElem?_eq_getElem y1]; rfl
                   obtain ⟨z, ez⟩ : ∃ z : Nat, (D[ku])[ju] = z := ⟨((D[ku])[ju]).toNat, by omega⟩
                   have hpl := v4.1
                   have hz : z < p.length := by omega
                   have hpz := v4.2 _ (List.getElem_mem hz)
                   have kk : k - u = ku := by omega
                   have jj : j - u = ju := by omega
                   simp [eku, eju, kk, jj, y1, hgr, y2, ez, hz]
                   exact ⟨by omega, by omega, by omega, by unfold roomy; omega, by omega, q ++ [(u : Int) + p[z]], ⟨by simp [x1], snoc_in x2 (by omega)⟩, by simp only [ownL, List.map_append, List.map_cons, List.map_nil]⟩
             · rintro e ⟨q, ⟨x1, x2⟩, rfl⟩
               simp
               exact ⟨by unfold roomy; omega, by omega, t ++ [q], TabN.snoc ⟨w1, w2⟩ ⟨x1, x2⟩, by simp only [ownTb, rows, List.map_append, List.map_cons, List.map_nil]⟩
           · rintro e ⟨t, w, rfl⟩
             simp
             exact hfin s5 n t v3 hn0 hnm w
end Go.Mch
namespace Go.Mch
def S_d3 (pg : Pg) : Prop := ∀ (c : Rw Int) (s : Int × Int) (most : Nat), Sr c s → 0 < most → most ≤ 12 → ∃ (s' : Int × Int) (n : Nat) (t : List (List Int)), (Sr c s' ∧ 0 < n ∧ n ≤ most ∧ TabN n t) ∧ Call pg 401 [src c s, I most] [src c s', I most] (ownC t)
set_option maxRecDepth 10000 in
theorem t_d3 {pg : Pg} (hp : pg.fn 401 = some c_spec_l03Draw) (h336 : S_nxt pg) (h444 : S_dtb pg) (h338 : S_dpm pg) (h303 : S_image pg 303) : S_d3 pg := by
 intro c s most hs m0 m12
 have hfind := Call.findA (α := (Int × Int) × Nat × List (List Int)) (Q := fun Y => Sr c Y.1 ∧ 0 < Y.2.1 ∧ Y.2.1 ≤ most ∧ TabN Y.2.1 Y.2.2) (args := [src c s, I most]) (args' := fun Y => [src c Y.1, I most]) (r := fun Y => ownC Y.2.2) hp rfl (by simp [F.lets, c_spec_l03Draw, List.range, List.range.loop]) (by simp [kindOf]) ?_
 · obtain ⟨Y, h1, h2⟩ := hfind
   exact ⟨_, _, _, h1, h2⟩
 show wp _ _ c_spec_l03Draw.body (postX _ _ _ _ _) _
 generalize hR : postX (fun Y : (Int × Int) × Nat × List (List Int) => Sr c Y.1 ∧ 0 < Y.2.1 ∧ Y.2.1 ≤ most ∧ TabN Y.2.1 Y.2.2) c_spec_l03Draw.rs [src c s, I most] (fun Y => [src c Y.1, I most]) (fun Y => ownC Y.2.2) = R
 have hfin : ∀ (s' : Int × Int) (k : Nat) (t : List (List Int)), Sr c s' → 0 < k → k ≤ most → TabN k t → R .ret (fr [(0, some (.val (src c s'))), (1, some (.val (I most))), (4, some (.val (.mem .own none [ownTb t])))]) := by
  intro s' k X a1 a2 a3 a4
  subst hR
  exact ⟨(s', k, X), ⟨a1, a2, a3, a4⟩, by simp [post, c_spec_l03Draw]⟩
 obtain ⟨s1, n, t, ⟨k1, k2, k3, k4⟩, hc1⟩ := h444 c s most hs m0 m12
 obtain ⟨s2, r, ⟨k5, _⟩, hc2⟩ := h336.at k1 (n := 2) (by omega)
 obtain ⟨s3, p, ⟨k6, k7, k8⟩, hc3⟩ := h338 c s2 n k5 (by omega)
 have hpm := pm_of k7 k8 k2 (by omega)
 have hl1 := k4.1
 have hc4 := h303 t p k4.tab hpm (by rw [k7.1, hl1])
 subst hl1
 simp [c_spec_l03Draw]
 refine callS (ts' := [rawB c, I s1.1, H64 s1.2]) (r := ownTb t) (by simpa using hc1) ?_
 simp
 refine callS (ts' := [rawB c, I s2.1, H64 s2.2]) (r := I r) (by simpa using hc2) ?_
 by_cases hr : r = 0
 · simp [hr]
   refine callS (ts' := [rawB c, I s3.1, H64 s3.2]) (r := ownL p) (by simpa using hc3) ?_
   simp
   refine callR hc4 rfl rfl (fun _ => by simp) ?_
   simp
   exact hfin s3 _ (imT t p) k6 k2 k3 (imT_tabN k4 hpm k7.1)
 · simp [hr]
   exact hfin s2 _ t k5 k2 k3 k4
def S_d3a (pg : Pg) : Prop := ∀ (c : Rw Int) (s : Int × Int) (most : Nat), Sr c s → 0 < most → most ≤ 12 → ∃ (s' : Int × Int) (t : List (List Int)), (Sr c s' ∧ Bd t) ∧ Call pg 322 [src c s, I most] [src c s', I most] (ownC t)
set_option maxRecDepth 10000 in
theorem t_d3a {pg : Pg} (hp : pg.fn 322 = some c_spec_l03DrawAny) (h336 : S_nxt pg) (h401 : S_d3 pg) (h338 : S_dpm pg) : S_d3a pg := by
 intro c s most hs m0 m12
 have hfind := Call.findA (α := (Int × Int) × List (List Int)) (Q := fun Y => Sr c Y.1 ∧ Bd Y.2) (args := [src c s, I most]) (args' := fun Y => [src c Y.1, I most]) (r := fun Y => ownC Y.2) hp rfl (by simp [F.lets, c_spec_l03DrawAny, List.range, List.range.loop]) (by simp [kindOf]) ?_
 · obtain ⟨Y, h1, h2⟩ := hfind
   exact ⟨_, _, h1, h2⟩
 show wp _ _ c_spec_l03DrawAny.body (postX _ _ _ _ _) _
 generalize hR : postX (fun Y : (Int × Int) × List (List Int) => Sr c Y.1 ∧ Bd Y.2) c_spec_l03DrawAny.rs [src c s, I most] (fun Y => [src c Y.1, I most]) (fun Y => ownC Y.2) = R
 have hfin : ∀ (s' : Int × Int) (t : List (List Int)), Sr c s' → Bd t → R .ret (fr [(0, some (.val (src c s'))), (1, some (.val (I most))), (4, some (.val (.mem .own none [ownTb t])))]) := by
  intro s' X a1 a4
  subst hR
  exact ⟨(s', X), ⟨a1, a4⟩, by simp [post, c_spec_l03DrawAny]⟩
 obtain ⟨s1, n, t, ⟨k1, k2, k3, k4⟩, hc1⟩ := h401 c s most hs m0 m12
 obtain ⟨s2, kd, ⟨k5, k6⟩, hc2⟩ := h336.at k1 (n := 24) (by omega)
 have hl1 := k4.1
 have hbd := k4.bd (by omega)
 subst hl1
 simp [c_spec_l03DrawAny]
 refine callS (ts' := [rawB c, I s1.1, H64 s1.2]) (r := ownC t) (by simpa using hc1) ?_
 simp
 refine callS (ts' := [rawB c, I s2.1, H64 s2.2]) (r := I kd) (by simpa using hc2) ?_
 by_cases hk0 : kd = 0
 · obtain ⟨s3, r, ⟨j1, j2⟩, hc3⟩ := h336.at k5 (n := t.length) k2
   obtain ⟨s4, p, ⟨j3, j4, j5⟩, hc4⟩ := h338 c s3 t.length j1 (by omega)
   simp [hk0]
   refine callS (ts' := [rawB c, I s3.1, H64 s3.2]) (r := I r) (by simpa using hc3) ?_
   simp
   refine callS (ts' := [rawB c, I s4.1, H64 s4.2]) (r := ownL p) (by simpa using hc4) ?_
   simp [j2]
   have := hfin s4 (t.set r p) j3 (hbd.set (by have := j4.1; omega))
   exact ⟨by omega, by simpa only [ownTb, ← rows_set1, ownL] using this⟩
 · by_cases hk1 : kd = 1
   · obtain ⟨s3, i, ⟨j1, j2⟩, hc3⟩ := h336.at k5 (n := t.length) k2
     obtain ⟨s4, j, ⟨j3, j4⟩, hc4⟩ := h336.at j1 (n := t.length) k2
     obtain ⟨s5, v, ⟨j5, j6⟩, hc5⟩ := h336.at j3 (n := t.length + 1) (by omega)
     obtain ⟨y1, y2, y3, _, _⟩ := k4.at j2 j4
     simp [hk1]
     refine callS (ts' := [rawB c, I s3.1, H64 s3.2]) (r := I i) (by simpa using hc3) ?_
     simp [j2]
     refine callS (ts' := [rawB c, I s4.1, H64 s4.2]) (r := I j) (by simpa using hc4) ?_
     simp
     refine ⟨by omega, ?_⟩
     refine callS (ts' := [rawB c, I s5.1, H64 s5.2]) (r := I v) (by simpa using hc5) ?_
     simp [j2, y2]
     have := hfin s5 (t.set i (t[i].set j (v : Int))) j5 (hbd.set (by simp; omega))
     exact ⟨by omega, by simpa only [ownTb, ← rows_set1, ownL, List.map_set] using this⟩
   · by_cases hk2 : kd = 2
     · have hw : win (rows t) 1 (t.length - 1) = rows (t.drop 1) := by
        rw [win, rows, rows, List.map_drop]
        exact List.take_of_length_le (by simp)
       have := hfin s2 (t.drop 1) k5 ⟨by have := hbd.1; simp; omega, fun r hr => hbd.2 r (List.mem_of_mem_drop hr)⟩
       simp [hk2]
       refine ⟨by omega, by omega, ?_⟩
       rw [hw]
       exact this
     · have e1 : ¬ (kd : Int) = 1 := by omega
       have e2 : ¬ (kd : Int) = 2 := by omega
       simp [hk0, e1, e2]
       exact hfin s2 t k5 hbd
def S_kink (pg : Pg) : Prop := ∀ t : List (List Int), t.length ≤ 20 → (∀ i (h : i < t.length), i < (t[i]).length) → Call pg 337 [cyT t] [cyT t] (ownL ((List.range t.length).map fun i => v2 t i i))
set_option maxRecDepth 10000 in
theorem t_kink {pg : Pg} (hp : pg.fn 337 = some c_spec_l03Kink) : S_kink pg := by
 intro t hl hd
 refine Call.intro hp rfl (by simp) ?_
 show wp _ _ c_spec_l03Kink.body (post [.t 2] _ _ _) _
 simp [c_spec_l03Kink]
 refine wpLoop_count (fun k e => e = fr [(1, some (.val (.mem .own none [tb t]))), (3, some (.val (ownL ((List.range k).map fun i => v2 t i i)))), (4, some (.val (I k)))]) t.length ?_ ?_ 0 _ (by omega) rfl
 · rintro k e hk rfl
   have hk2 := hd k hk
   have e1 := get_v2 hk hk2
   simp [hk, hk2, e1, List.range_succ]
   exact ⟨by unfold roomy; omega, by omega, by simp only [ownL, List.map_append, List.map_cons, List.map_nil, List.map_map]⟩
 · rintro e rfl
   simp
end Go.Mch
namespace Go.Mch
def S_drT (pg : Pg) (f : Nat) : Prop := ∀ c : Rw Int, okB c → ∃ (t : List (List Int)) (p : List Int), (Bd t ∧ p.length ≤ 64) ∧ Call pg f [rawB c] [rawB c] (.tup [ownC t, ownL p])
set_option maxRecDepth 10000 in
theorem t_dTw {pg : Pg} (hp : pg.fn 207 = some c_spec_DrawTwistedSolution) (h269 : S_from pg) (h336 : S_nxt pg) (h322 : S_d3a pg) (h28 : S_isRk pg 28) (h337 : S_kink pg) (h279 : S_then pg 279) (h338 : S_dpm pg) : S_drT pg 207 := by
 intro c hc
 obtain ⟨s, hs, hc1⟩ := h269 c hc
 have hfind := Call.find (α := List (List Int) × List Int) (Q := fun Y => Bd Y.1 ∧ Y.2.length ≤ 64) (args := [rawB c]) (r := fun Y => .tup [ownC Y.1, ownL Y.2]) hp rfl (by simp) ?_
 · obtain ⟨Y, h1, h2⟩ := hfind
   exact ⟨_, _, h1, h2⟩
 show wp _ _ c_spec_DrawTwistedSolution.body _ _
 generalize hR : (fun (x : X) (e : Env) => ∃ Y : List (List Int) × List Int, (Bd Y.1 ∧ Y.2.length ≤ 64) ∧ post c_spec_DrawTwistedSolution.rs [rawB c] [rawB c] (.tup [ownC Y.1, ownL Y.2]) x e) = R
 have hfin : ∀ (t : List (List Int)) (p : List Int), Bd t → p.length ≤ 64 → R .ret (fr [(2, some (.val (.mem .own none [ownTb t]))), (3, some (.val (ownL p)))]) := by
  intro t p a1 a2
  subst hR
  exact ⟨(t, p), ⟨a1, a2⟩, by simp [post, c_spec_DrawTwistedSolution]⟩
 obtain ⟨s1, t, ⟨k1, k2⟩, hc2⟩ := h322 c s 7 hs (by omega) (by omega)
 have hl := k2.1
 obtain ⟨s2, r2, ⟨k3, k4⟩, hc3⟩ := h336.at k1 (n := 3) (by omega)
 simp [c_spec_DrawTwistedSolution]
 refine callR hc1 rfl rfl (fun h => by simp at h) ?_
 simp
 refine callS (ts' := [rawB c, I s1.1, H64 s1.2]) (r := ownC t) (by simpa using hc2) ?_
 simp
 refine callR (h28 t ⟨by omega, fun r hr => by have := k2.2 r hr; omega⟩) rfl rfl (fun _ => rfl) ?_
 by_cases hrk : isRk t
 · simp [dec_true hrk]
   refine callS (ts' := [rawB c, I s2.1, H64 s2.2]) (r := I r2) (by simpa using hc3) ?_
   by_cases hr2 : r2 = 0
   · simp [hr2]
     obtain ⟨s3, z, ⟨j1, j2⟩, hcz⟩ := h336.at k3 (n := 24) (by omega)
     obtain ⟨m, hm⟩ : ∃ m : Nat, (t.length : Int) + (z : Int) / 23 = m := ⟨t.length + z / 23, by omega⟩
     have hm2 : m ≤ 22 := by omega
     obtain ⟨s4, p, ⟨j3, j4, j5⟩, hcp⟩ := h338 c s3 m j1 (by omega)
     refine callS (ts' := [rawB c, I s3.1, H64 s3.2]) (r := I z) (by simpa using hcz) ?_
     simp [hm]
     refine ⟨by omega, by omega, ?_⟩
     refine callS (ts' := [rawB c, I s4.1, H64 s4.2]) (r := ownL p) (by simpa using hcp) ?_
     simp
     exact hfin t p k2 (by have := j4.1; omega)
   · have hr2' : 0 < r2 := by omega
     obtain ⟨s3, r3, ⟨j1, j2⟩, hc4⟩ := h336.at k3 (n := 2) (by omega)
     have htab := hrk.1.2.2
     obtain ⟨Z, hZl, hZr, hc5⟩ : ∃ Z : List Int, Z.length = t.length ∧ (∀ v ∈ Z, 0 ≤ v ∧ v < t.length) ∧ Call pg 337 [cyT t] [cyT t] (ownL Z) := ⟨_, by simp, fun v hv => by
      obtain ⟨i, hi, rfl⟩ := List.mem_map.1 hv
      have hi' := List.mem_range.1 hi
      have hrow := htab.row hi'
      rw [← get_v2 hi' (by omega)]
      exact (htab _ (List.getElem_mem hi')).2 _ (List.getElem_mem _), h337 t hl fun i hi => by rw [htab.row hi]; exact hi⟩
     simp [hr2']
     refine callR hc5 rfl rfl (fun _ => by simp) ?_
     simp
     refine callS (ts' := [rawB c, I s3.1, H64 s3.2]) (r := I r3) (by simpa using hc4) ?_
     by_cases hr3 : r3 = 0
     · obtain ⟨s4, i, ⟨j3, j4⟩, hc6⟩ := h336.at j1 (n := t.length) hrk.1.1
       have hrow := htab.row j4
       have hc7 := h279 Z t[i] (by omega) (fun v hv => by have := hZr v hv; omega)
       simp [hr3]
       refine callS (ts' := [rawB c, I s4.1, H64 s4.2]) (r := I i) (by simpa using hc6) ?_
       simp [j4]
       refine callR hc7 rfl rfl (fun _ => by simp) ?_
       simp
       exact hfin t (thenL Z t[i]) k2 (by simp; omega)
     · simp [hr3]
       exact hfin t Z k2 (by omega)
 · simp [dec_false hrk, undefV]
   obtain ⟨s3, z, ⟨j1, j2⟩, hcz⟩ := h336.at k1 (n := 24) (by omega)
   obtain ⟨m, hm⟩ : ∃ m : Nat, (t.length : Int) + (z : Int) / 23 = m := ⟨t.length + z / 23, by omega⟩
   have hm2 : m ≤ 22 := by omega
   obtain ⟨s4, p, ⟨j3, j4, j5⟩, hcp⟩ := h338 c s3 m j1 (by omega)
   refine callS (ts' := [rawB c, I s3.1, H64 s3.2]) (r := I z) (by simpa using hcz) ?_
   simp [hm]
   refine ⟨by omega, by omega, ?_⟩
   refine callS (ts' := [rawB c, I s4.1, H64 s4.2]) (r := ownL p) (by simpa using hcp) ?_
   simp
   exact hfin t p k2 (by have := j4.1; omega)
end Go.Mch
namespace Go.Mch
theorem S_likeI.ix {pg : Pg} (h : S_likeI pg) (X Y : List Int) (hs : X.length ≤ 1048576) : Call pg 141 [ix X, ix Y] [ix X, ix Y] (B (decide (X = Y))) := h (.of X) (.of Y) hs
end Go.Mch
namespace Go.Mch
def S_sol9 (pg : Pg) : Prop := ∀ X Y Z W : List (List Int), smallT X → smallT Y → Call pg 193 [sol X Y, sol Z W] [sol X Y, sol Z W] (B (decide (X = Z ∧ Y = W)))
set_option maxRecDepth 10000 in
theorem t_sol9 {pg : Pg} (hp : pg.fn 193 = some c_laws_solution9) (h178 : S_same9 pg) : S_sol9 pg := by
 intro X Y Z W hX hY
 refine Call.intro hp rfl (by simp) ?_
 show wp _ _ c_laws_solution9.body (post [.t 4] _ _ _) _
 simp [c_laws_solution9]
 refine callR (h178.tb X Z hX) rfl rfl (fun _ => rfl) ?_
 by_cases h : X = Z
 · simp [h]
   refine callR (h178.tb Y W hY) rfl rfl (fun _ => rfl) ?_
   simp
 · simp [h, undefV]
def S_sol90 (pg : Pg) : Prop := Call pg 193 [.agg [nil, nil], .agg [nil, nil]] [.agg [nil, nil], .agg [nil, nil]] (B true)
theorem t_sol90 {pg : Pg} (hp : pg.fn 193 = some c_laws_solution9) (h178 : S_same9 pg) : S_sol90 pg := by
 have h0 : Call pg 178 [nil, nil] [nil, nil] (B true) := by
  have := h178 .no .no ⟨by simp, by simp⟩
  simpa [rawT] using this
 refine Call.intro hp rfl (by simp) ?_
 show wp _ _ c_laws_solution9.body (post [.t 4] _ _ _) _
 simp [c_laws_solution9]
 refine callR h0 rfl rfl (fun _ => rfl) ?_
 simp
 refine callR h0 rfl rfl (fun _ => rfl) ?_
 simp
end Go.Mch
namespace Go.Mch

theorem perm_of {p : List Int} (h : isPerm p) : isPermuted p := by
 refine (perm_permuted h.1 h.2.1 fun x hx => ?_).1 h
 refine Classical.byContradiction fun hn => ?_
 have hx2 : x ∉ nums p.length := fun hm => hn (mem_nums.1 hm)
 have := len_le_of_sub (x :: nums p.length) p (List.nodup_cons.2 ⟨hx2, nums_nodup _⟩) fun y hy => by
  rcases List.mem_cons.1 hy with rfl | hy
  · exact hx
  · have hr := mem_nums.1 hy
    have := h.2.2 y.toNat (by omega)
    rw [show ((y.toNat : Nat) : Int) = y by omega] at this
    exact this
 simp [nums] at this
 omega
set_option maxRecDepth 10000 in
theorem t_tw_impl {pg : Pg} (hp : pg.fn 171 = some c_impl_TwistedSolution) (h33 : S_isRk pg 33) (h66 : S_isPermuted pg) (h306 : S_image pg 306) (h305 : S_eqTb pg 305) (h307 : S_inv pg 307) (h308 : S_solBy pg) (h309 : S_tw1 pg) : S_tw pg 171 := by
 intro t p hf hpl
 refine Call.intro hp rfl (by simp) ?_
 show wp _ _ c_impl_TwistedSolution.body (post [.cell 4 (some 2), .t 5] _ _ _) _
 simp [c_impl_TwistedSolution]
 refine callR (h33 t hf) rfl rfl (fun _ => rfl) ?_
 by_cases h1 : isRk t
 · have ht : Tab t := h1.1.2.2
   have hn0 := h1.1.1
   have hn1 := h1.1.2.1
   simp [dec_true h1]
   by_cases hl : p.length = t.length
   · simp [hl]
     refine callR (h66 p hpl) rfl rfl (fun _ => rfl) ?_
     by_cases h2 : isPermuted p
     · have hpm : Pm p := ⟨h2, by omega, by omega⟩
       simp [h2]
       refine callR (h306 t p ht hpm hl) rfl rfl (fun _ => by simp) ?_
       simp
       refine callR (h305 (imT t p) t ⟨by simp [imT]; omega, fun r hr => by rw [tabL_row hr]; omega⟩) rfl rfl (fun _ => rfl) ?_
       by_cases h3 : imT t p = t
       · have hb := h308 p.length (twG p) (twH t p) 309 [.mem .old none [ix p], .mem .old none [ix (invL p)], .mem .old none [tb t]] hpl (by simp) (by simp) fun x y hx hy => h309 t p x y ht hpm hl hx hy
         have hiv := h307 p hpm
         generalize invL p = V at *
         simp [h3]
         refine callR hiv rfl rfl (fun _ => by simp) ?_
         simp
         refine callR hb rfl rfl (fun _ => by simp) ?_
         simp [twR, twC, h1, hl, h2, h3, solT, twF, twS]
       · simp [h3, twR, twC, h1, hl, h2, solT]
     · simp [h2, twR, twC, h1, hl, solT]
   · have hl' : ¬ (p.length : Int) = t.length := by omega
     simp [hl, hl', twR, twC, h1, solT, undefV]
 · simp [twR, twC, h1, solT]
set_option maxRecDepth 10000 in
theorem t_tw_spec {pg : Pg} (hp : pg.fn 170 = some c_spec_TwistedSolution) (h28 : S_isRk pg 28) (h47 : S_perm pg 47) (h303 : S_image pg 303) (h302 : S_eqTb pg 302) (h304 : S_inv pg 304) : S_tw pg 170 := by
 intro t p hf hpl
 refine Call.intro hp rfl (by simp) ?_
 show wp _ _ c_spec_TwistedSolution.body (post [.cell 4 (some 2), .t 5] _ _ _) _
 simp [c_spec_TwistedSolution]
 refine callR (h28 t hf) rfl rfl (fun _ => rfl) ?_
 by_cases h1 : isRk t
 · have ht : Tab t := h1.1.2.2
   have hn0 := h1.1.1
   have hn1 := h1.1.2.1
   simp [dec_true h1]
   refine callR (h47 p hpl) rfl rfl (fun _ => rfl) ?_
   by_cases h2 : isPerm p
   · simp [h2]
     by_cases hl : p.length = t.length
     · have hpm : Pm p := ⟨perm_of h2, by omega, by omega⟩
       simp [hl]
       refine callR (h303 t p ht hpm hl) rfl rfl (fun _ => by simp) ?_
       simp
       refine callR (h302 (imT t p) t ⟨by simp [imT]; omega, fun r hr => by rw [tabL_row hr]; omega⟩) rfl rfl (fun _ => rfl) ?_
       by_cases h3 : imT t p = t
       · have hiv := h304 p hpm
         simp [h3]
         refine callR hiv rfl rfl (fun _ => by simp) ?_
         simp
         refine wpLoop_count (fun i e => e = fr [(1, some (.val (ix p))), (2, some (.val (.mem .own none [tb t]))), (4, some (.val (.mem .own none [nil, nil]))), (6, some (.val (.mem .own (some 1) ((invL p).map I)))), (7, some (.val (.mem .own none [rowN ((twF p).take i), rowN ((twS t p).take i)]))), (8, some (.val (I i)))]) p.length ?_ ?_ 0 _ (by omega) ?_
         · rintro i e hi rfl
           have hF : (twF p).take (i + 1) = (twF p).take i ++ [rowG (twG p) i p.length] := tabL_take (twG p) hi
           have hS : (twS t p).take (i + 1) = (twS t p).take i ++ [rowG (twH t p) i p.length] := tabL_take (twH t p) hi
           have hFl : ((twF p).take i).length ≤ i := by simp; omega
           have hSl : ((twS t p).take i).length ≤ i := by simp; omega
           rw [hF, hS, rowN_snoc, rowN_snoc]
           generalize (twF p).take i = X at *
           generalize (twS t p).take i = Y at *
           clear hF hS
           simp [hi]
           refine wpLoop_count (fun j e => e = fr [(1, some (.val (ix p))), (2, some (.val (.mem .own none [tb t]))), (4, some (.val (.mem .own none [nil, nil]))), (6, some (.val (.mem .own (some 1) ((invL p).map I)))), (7, some (.val (.mem .own none [rowN X, rowN Y]))), (8, some (.val (I i))), (9, some (.val (.mem .own (some 1) ((rowG (twG p) i j).map I)))), (10, some (.val (.mem .own (some 1) ((rowG (twH t p) i j).map I)))), (11, some (.val (I j)))]) p.length ?_ ?_ 0 _ (by omega) ?_
           · rintro j e hj rfl
             have hGl := rowG_length (twG p) i j
             have hHl := rowG_length (twH t p) i j
             rw [rowG_succ, rowG_succ]
             generalize rowG (twG p) i j = P at *
             generalize rowG (twH t p) i j = Q at *
             have hr := hpm.inL _ (List.getElem_mem hj)
             have e1 : p.getD j 0 = p[j] := by simp [hj]
             unfold twH twG
             rw [e1]
             generalize hb : p[j] = b at *
             have hbt : b.toNat < t.length := by omega
             have hbt2 : b < t.length := by omega
             have hrow := ht.row hbt
             have hbr : i < (t[b.toNat]).length := by omega
             have hv := get_v2 hbt hbr
             have hv1 := ht.nonneg b.toNat i
             have hv2 := ht.lt (by omega) b.toNat i
             generalize v2 t b.toNat i = v at *
             have hvl : v.toNat < (invL p).length := by rw [invL_length]; omega
             have hvl2 : v < (invL p).length := by rw [invL_length]; omega
             have hg := invL_get hvl
             generalize invQ p v.toNat = w at *
             generalize invL p = V at *
             simp [hj, hb, hr, hbt, hbt2, hbr, hv, hv1, hvl, hvl2, hg, hGl, hHl, roomy]
             omega
           · rintro e rfl
             have hPl := rowG_length (twG p) i p.length
             have hQl := rowG_length (twH t p) i p.length
             generalize rowG (twG p) i p.length = P at *
             generalize rowG (twH t p) i p.length = Q at *
             by_cases hX : X = []
             · by_cases hY : Y = []
               · subst hX hY
                 simp [rowN, roomy, rows]
                 omega
               · subst hX
                 simp [rowN, hY, roomy, rows]
                 omega
             · by_cases hY : Y = []
               · subst hY
                 simp [rowN, hX, roomy, rows]
                 omega
               · simp [rowN, hX, hY, roomy]
                 omega
           · simp [rowG]
         · rintro e rfl
           have hF : (twF p).take p.length = twF p := List.take_of_length_le (by simp [twF])
           have hS : (twS t p).take p.length = twS t p := List.take_of_length_le (by simp [twS])
           have hFn : twF p ≠ [] := tabL_ne hpm.pos
           have hSn : twS t p ≠ [] := tabL_ne hpm.pos
           have hpp := perm_of h2
           rw [hF, hS, rowN_ne hFn, rowN_ne hSn]
           simp [twR, twC, h1, hl, hpp, h3, solT]
         · simp [rowN]
       · simp [h3, twR, twC, h1, hl, perm_of h2, solT]
     · have hl' : ¬ (p.length : Int) = t.length := by omega
       simp [hl, hl', twR, twC, h1, solT]
   · have hno : p.length = t.length → ¬ isPermuted p := fun hl hpp => h2 ((perm_permuted (by omega) (by omega) hpp.1).2 hpp)
     have hno2 : ¬ (p.length = t.length ∧ isPermuted p) := fun hh => hno hh.1 hh.2
     have hno3 : ¬ (p.length = t.length ∧ isPermuted p ∧ imT t p = t) := fun hh => hno hh.1 hh.2.1
     simp [h2, twR, twC, h1, hno2, hno3, solT, undefV]
 · simp [twR, twC, h1, solT]
end Go.Mch
namespace Go.Mch
def SqS (X : S2) : Prop := ∃ m, 0 < m ∧ m ≤ 12 ∧ (X.1.length = m ∧ ∀ r ∈ X.1, r.length = m) ∧ (X.2.length = m ∧ ∀ r ∈ X.2, r.length = m)
theorem SqS.bd {X : S2} (h : SqS X) : Bd X.1 ∧ Bd X.2 := by
 obtain ⟨m, h0, h12, ⟨a1, a2⟩, b1, b2⟩ := h
 exact ⟨⟨by omega, fun r hr => by have := a2 r hr; omega⟩, by omega, fun r hr => by have := b2 r hr; omega⟩
end Go.Mch
namespace Go.Mch
theorem tab_sm {f s : List (List Int)} (h : PM f s) : smallT f ∧ smallT s := by
 have h12 := h.small
 have hl := h.len
 exact ⟨⟨by omega, fun r hr => by have := (h.tf r hr).1; omega⟩, ⟨by omega, fun r hr => by have := (h.ts r hr).1; omega⟩⟩
theorem tab_fit {f s : List (List Int)} (h : PM f s) : fits f ∧ fits s := by
 have h12 := h.small
 have hl := h.len
 exact ⟨⟨by omega, fun r hr => by have := (h.tf r hr).1; omega⟩, ⟨by omega, fun r hr => by have := (h.ts r hr).1; omega⟩⟩
theorem Bd.fits {t : List (List Int)} (h : Bd t) : fits t := ⟨by have := h.1; omega, fun r hr => by have := h.2 r hr; omega⟩
theorem Bd.sm {t : List (List Int)} (h : Bd t) : smallT t := ⟨by have := h.1; omega, fun r hr => by have := h.2 r hr; omega⟩
def S_law101 (pg : Pg) : Prop := ∀ c : Rw Int, okB c → ∃ args', Call pg 101 [rawB c] args' (B true)
set_option maxHeartbeats 2000000 in
set_option maxRecDepth 20000 in
theorem t_law101 {pg : Pg} (hp : pg.fn 101 = some c_laws_FnTwistedSolutions) (h128 : S_big pg) (h207 : S_drT pg 207) (h171 : S_tw pg 171) (h170 : S_tw pg 170) (h193 : S_sol9 pg) (h193z : S_sol90 pg) (h159 : S_ndI pg) (h148 : S_dr pg 148) (h42 : S_isSol pg 42) (h178 : S_same9 pg) : S_law101 pg := by
 intro c hc
 obtain ⟨t, p, ⟨hX, hpl⟩, hd⟩ := h207 c hc
 have ht := hX.fits
 refine ⟨[rawB c], Call.intro hp rfl (by simp) ?_⟩
 show wp _ _ c_laws_FnTwistedSolutions.body (post [.t 2] _ _ _) _
 simp [c_laws_FnTwistedSolutions]
 refine callR (h128 c) rfl rfl (fun _ => rfl) ?_
 by_cases hbig : (4096 : Int) < (lst c).length
 · simp [hbig]
 · simp [hbig]
   refine callR hd rfl rfl (fun _ => by simp) ?_
   have hc1 := h171 t p ht (by omega)
   have hc2 := h170 t p ht (by omega)
   by_cases hgo : isRk t ∧ p.length = t.length ∧ isPermuted p ∧ imT t p = t
   · obtain ⟨h, hl, hpp, he⟩ := id hgo
     obtain ⟨hr, hra⟩ := tw_reg h hl hpp he
     have hpm := PM.of hr.1.1
     obtain ⟨sf, ss⟩ := tab_sm hpm
     obtain ⟨ff, fs⟩ := tab_fit hpm
     have c0 : twC t p = 0 := by simp [twC, h, hl, hpp, he]
     have e0 : twR t p = some (twF p, twS t p) := by simp only [twR, if_pos hgo]
     rw [c0, e0] at hc1 hc2
     have hc3 := h193 (twF p) (twS t p) (twF p) (twS t p) sf ss
     have hc4 := h159 (twF p) (twS t p) hr.1.1
     have hc5 := h148 (twF p) (twS t p) ff fs
     have d1 : drC (twF p) (twS t p) = 0 := by simp [drC, dec_true hr.1, hr.2]
     have d2 : drR (twF p) (twS t p) = some t := by simp [drR, dec_true hr, hra]
     rw [d1, d2] at hc5
     have hc6 := h42 (twF p) (twS t p) ff fs
     have hc7 := h178.tb t t hX.sm
     simp only [dec_true hr.1] at hc6
     have hnd := hr.2
     generalize twF p = F at *
     generalize twS t p = S at *
     simp only [solT, ownT] at hc1 hc2 hc5
     simp
     refine callR hc1 rfl rfl (fun _ => by simp) ?_
     simp
     refine callR hc2 rfl rfl (fun _ => by simp) ?_
     simp
     refine callR hc3 rfl rfl (fun _ => rfl) ?_
     simp
     refine callR hc4 rfl rfl (fun _ => rfl) ?_
     simp
     refine callR hc5 rfl rfl (fun _ => by simp) ?_
     simp
     refine callR hc6 rfl rfl (fun _ => rfl) ?_
     simp [hnd]
     refine callR hc7 rfl rfl (fun _ => rfl) ?_
     simp
   · have c0 : twC t p ≠ 0 := by
      unfold twC
      split
      · split
        · rename_i h1 h2
          rw [if_neg fun h3 => hgo ⟨h1, h2.1, h2.2, h3⟩]
          decide
        · decide
      · decide
     have e0 : twR t p = none := by simp only [twR, if_neg hgo]
     rw [e0] at hc1 hc2
     generalize twC t p = cd at *
     simp only [solT] at hc1 hc2
     simp
     refine callR hc1 rfl rfl (fun _ => by simp) ?_
     simp
     refine callR hc2 rfl rfl (fun _ => by simp) ?_
     simp
     refine callR h193z rfl rfl (fun _ => rfl) ?_
     simp [c0]
end Go.Mch
