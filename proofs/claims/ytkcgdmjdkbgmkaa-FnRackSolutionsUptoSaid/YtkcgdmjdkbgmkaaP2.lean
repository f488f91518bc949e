/- Our texts YlX YlY YlN YmA YmC YnB YnE YnF, end to end. -/
import Derived.Test.YtkcgdmjdkbgmkaaP1
namespace Go.Mch
def exch3 : List (List Int) := [[0, 2, 1], [1, 0, 2], [2, 1, 0]]
structure Cnj (L : List (List Int)) : Prop where
 pos : 0 < L.length
 six : L.length ≤ 6
 pm : ∀ p ∈ L, Pm p ∧ p.length = 3
 cl : ∀ i j (hi : i < L.length) (hj : j < L.length), ∃ m, ∃ h : m < L.length, L[m] = thenL (thenL (invL L[i]) L[j]) L[i]
theorem cnj_of {L : List (List Int)} (h1 : 0 < L.length) (h2 : L.length ≤ 6) (h3 : ∀ p ∈ L, (∀ x ∈ p, 0 ≤ x ∧ x < (p.length : Int)) ∧ p.Nodup ∧ p.length = 3) (h4 : ∀ i < L.length, ∀ j < L.length, ∃ m, m < L.length ∧ L.getD m [] = thenL (thenL (invL (L.getD i [])) (L.getD j [])) (L.getD i [])) : Cnj L := by
 refine ⟨h1, h2, fun p hp => ⟨⟨⟨(h3 p hp).1, (h3 p hp).2.1⟩, by have := (h3 p hp).2.2; omega, by have := (h3 p hp).2.2; omega⟩, (h3 p hp).2.2⟩, fun i j hi hj => ?_⟩
 obtain ⟨m, hm, e⟩ := h4 i hi j hj
 refine ⟨m, hm, ?_⟩
 simpa [hi, hj, hm] using e
theorem cnj_perm : Cnj perm3 := cnj_of (by decide) (by decide) (by decide) (by decide)
theorem cnj_exch : Cnj exch3 := cnj_of (by decide) (by decide) (by decide) (by decide)
theorem tmodX {a n : Nat} (h : 0 < n) : ∃ m : Nat, ((a : Nat) : Int).tmod n = m ∧ m < n := ⟨a % n, by rw [Int.tmod_eq_emod_of_nonneg (by omega), Int.natCast_emod], Nat.mod_lt _ h⟩
def S_dtb (pg : Pg) : Prop := ∀ (c : Rw Int) (s : Int × Int) (most : Nat), Sr c s → 0 < most → most ≤ 12 → ∃ (s' : Int × Int) (n : Nat) (t : List (List Int)), (Sr c s' ∧ 0 < n ∧ n ≤ most ∧ TabN n t) ∧ Call pg 444 [src c s, I most] [src c s', I most] (ownTb t)
set_option maxHeartbeats 2000000 in
set_option maxRecDepth 10000 in
theorem t_dtb {pg : Pg} (hp : pg.fn 444 = some c_spec_l03DrawTable) (h336 : S_nxt pg) (h338 : S_dpm pg) (h31 : S_own pg) (h455 : S_alx pg) (h456 : S_cop pg) (h457 : S_perms3 pg) (h304 : S_inv pg 304) (h279 : S_then pg 279) (h67 : S_same pg) : S_dtb pg := by
 intro c s most hs m0 m12
 have hfind := Call.findA (α := (Int × Int) × Nat × List (List Int)) (Q := fun Y => Sr c Y.1 ∧ 0 < Y.2.1 ∧ Y.2.1 ≤ most ∧ TabN Y.2.1 Y.2.2) (args := [src c s, I most]) (args' := fun Y => [src c Y.1, I most]) (r := fun Y => ownTb Y.2.2) hp rfl (by simp [F.lets, c_spec_l03DrawTable, List.range, List.range.loop]) (by simp [kindOf]) ?_
 · obtain ⟨Y, h1, h2⟩ := hfind
   exact ⟨_, _, _, h1, h2⟩
 show wp _ _ c_spec_l03DrawTable.body (postX _ _ _ _ _) _
 generalize hR : postX (fun Y : (Int × Int) × Nat × List (List Int) => Sr c Y.1 ∧ 0 < Y.2.1 ∧ Y.2.1 ≤ most ∧ TabN Y.2.1 Y.2.2) c_spec_l03DrawTable.rs [src c s, I most] (fun Y => [src c Y.1, I most]) (fun Y => ownTb Y.2.2) = R
 have hfin : ∀ (s' : Int × Int) (k : Nat) (t : List (List Int)), Sr c s' → 0 < k → k ≤ most → TabN k t → R .ret (fr [(0, some (.val (src c s'))), (1, some (.val (I most))), (4, some (.val (ownTb t)))]) := by
  intro s' k X a1 a2 a3 a4
  subst hR
  exact ⟨(s', k, X), ⟨a1, a2, a3, a4⟩, by simp [post, c_spec_l03DrawTable]⟩
 obtain ⟨s1, r1, ⟨k1, k2⟩, hc1⟩ := h336.at hs (n := most) m0
 obtain ⟨s2, kd, ⟨k3, k4⟩, hc2⟩ := h336.at k1 (n := 5) (by omega)
 obtain ⟨n, hn⟩ : ∃ n : Nat, (1 : Int) + r1 = n := ⟨1 + r1, by omega⟩
 have hn0 : 0 < n := by omega
 have hnm : n ≤ most := by omega
 have hnn : ¬ n = 0 := by omega
 simp [c_spec_l03DrawTable]
 refine callS (ts' := [rawB c, I s1.1, H64 s1.2]) (r := I r1) (by simpa using hc1) ?_
 simp [hn]
 refine ⟨by omega, ?_⟩
 refine callS (ts' := [rawB c, I s2.1, H64 s2.2]) (r := I kd) (by simpa using hc2) ?_
 by_cases hk0 : kd = 0
 · obtain ⟨s3, p, ⟨j1, j2, j3⟩, hc3⟩ := h338 c s2 n k3 (by omega)
   simp [hk0]
   refine callS (ts' := [rawB c, I s3.1, H64 s3.2]) (r := ownL p) (by simpa using hc3) ?_
   simp
   refine wpLoop_count (fun k e => ∃ t : List (List Int), (t.length = k ∧ ∀ r ∈ t, RowIn n r) ∧ e = fr [(0, some (.val (src c s3))), (1, some (.val (I most))), (5, some (.val (I n))), (6, some (.val (ownL p))), (7, some (.val (ownTb t))), (8, some (.val (I k)))]) n ?_ ?_ 0 _ (by omega) ⟨[], ⟨rfl, by simp⟩, rfl⟩
   · rintro k e hk ⟨t, ⟨g1, g2⟩, rfl⟩
     have hpl := j2.1
     simp [hk]
     refine callR (h31 p (by omega)) rfl rfl (fun _ => by simp) ?_
     simp
     exact ⟨by unfold roomy; omega, by omega, t ++ [p], TabN.snoc ⟨g1, g2⟩ j2, by simp only [ownTb, rows, List.map_append, List.map_cons, List.map_nil]⟩
   · rintro e ⟨t, g, rfl⟩
     simp
     exact hfin s3 n t j1 hn0 hnm g
 · by_cases hk1 : kd = 1
   · obtain ⟨a2, ha2, ha2'⟩ := tmodX (a := 2) hn0
     have ha3 : (2 : Int).tmod n = a2 := ha2
     obtain ⟨n1, hn1⟩ : ∃ n1 : Nat, (n : Int) - 1 = n1 := ⟨n - 1, by omega⟩
     obtain ⟨t, ht, hc3⟩ := h455 n n1 a2 (by omega) (by omega) (by omega)
     simp [hk1, hnn, ha3, hn1]
     refine ⟨by omega, ?_⟩
     refine callR hc3 rfl rfl (fun _ => by simp) ?_
     simp
     exact hfin s2 n t k3 hn0 hnm ht
   · by_cases hk2 : kd = 2
     · simp [hk2]
       refine wpLoop_count (fun k e => ∃ s' : Int × Int, Sr c s' ∧ e = fr [(0, some (.val (src c s'))), (1, some (.val (I most))), (5, some (.val (I n))), (9, some (.val (I k)))]) 6 ?_ ?_ 0 _ (by omega) ⟨s2, k3, rfl⟩
       · rintro k e hk ⟨s3, g1, rfl⟩
         obtain ⟨s4, a, ⟨j1, j2⟩, hd1⟩ := h336.at g1 (n := n) hn0
         obtain ⟨b, hcb⟩ := h456 a n (by omega) (by omega)
         obtain ⟨z, hz⟩ : ∃ z : Nat, (1 : Int) - a + n = z := ⟨1 + n - a, by omega⟩
         obtain ⟨y, hy, hy'⟩ := tmodX (a := z) hn0
         obtain ⟨t, ht, hct⟩ := h455 n a y (by omega) (by omega) (by omega)
         have hk' : (k : Int) < 6 := by omega
         simp [hk']
         refine callS (ts' := [rawB c, I s4.1, H64 s4.2]) (r := I a) (by simpa using hd1) ?_
         simp
         refine callR hcb rfl rfl (fun _ => rfl) ?_
         cases b with
         | true =>
          simp [hz, hnn, hy, -tmod_nat]
          refine ⟨by omega, by omega, ?_⟩
          refine callR hct rfl rfl (fun _ => by simp) ?_
          simp
          exact hfin s4 n t j1 hn0 hnm ht
         | false =>
          simp
          exact ⟨by omega, s4.1, s4.2, j1, rfl⟩
       · rintro e ⟨s3, g1, rfl⟩
         simp
         obtain ⟨s4, u, ⟨v1, v2⟩, hcu⟩ := h336.at g1 (n := n) hn0
         obtain ⟨g, hg, hg0, hgn, hgu⟩ : ∃ g : Nat, mmI true 1 (u : Int) = g ∧ 0 < g ∧ g ≤ 12 ∧ (u ≠ 0 → g = u) := by
          by_cases hu : u = 0
          · exact ⟨1, by simp [mmI, hu], by omega, by omega, fun h => (h hu).elim⟩
          · exact ⟨u, by simp [mmI]; omega, by omega, by omega, fun _ => rfl⟩
         obtain ⟨g1, hg1⟩ : ∃ g1 : Nat, (g : Int) - 1 = g1 := ⟨g - 1, by omega⟩
         obtain ⟨g2, hg2, hg2'⟩ := tmodX (a := 2) hg0
         have hg2 : (2 : Int).tmod g = g2 := hg2
         obtain ⟨d, hd⟩ : ∃ d : Nat, (n : Int) - u = d := ⟨n - u, by omega⟩
         have hd0 : 0 < d := by omega
         obtain ⟨d1, hd1, hd1'⟩ := tmodX (a := 1) hd0
         have hd1 : (1 : Int).tmod d = d1 := hd1
         obtain ⟨A, hA, hcA⟩ := h455 g g1 g2 (by omega) (by omega) (by omega)
         obtain ⟨D, hD, hcD⟩ := h455 d d1 0 (by omega) (by omega) (by omega)
         obtain ⟨s5, p, ⟨v3, v4, v5⟩, hcp⟩ := h338 c s4 d v1 (by omega)
         have hgz : ¬ g = 0 := by omega
         have hdz : ¬ d = 0 := by omega
         refine callS (ts' := [rawB c, I s4.1, H64 s4.2]) (r := I u) (by simpa using hcu) ?_
         simp [hg, hgz, hg1, hg2, -tmod_nat]
         refine ⟨by omega, ?_⟩
         refine callR hcA rfl rfl (fun _ => by simp) ?_
         simp [hd, hdz, hd1, -tmod_nat]
         refine ⟨by omega, ?_⟩
         refine callR hcD rfl rfl (fun _ => by simp) ?_
         by_cases hu0 : u = 0
         · simp [hu0]
           have hdn : d = n := by omega
           subst hdn
           exact hfin s4 d D v1 hn0 hnm hD
         · simp [hu0, hd]
           refine ⟨by omega, ?_⟩
           refine callS (ts' := [rawB c, I s5.1, H64 s5.2]) (r := ownL p) (by simpa using hcp) ?_
           simp
           refine wpLoop_count (fun k e => ∃ t : List (List Int), (t.length = k ∧ ∀ r ∈ t, RowIn n r) ∧ e = fr [(0, some (.val (src c s5))), (1, some (.val (I most))), (5, some (.val (I n))), (18, some (.val (I u))), (19, some (.val (ownTb A))), (20, some (.val (ownTb D))), (21, some (.val (ownL p))), (22, some (.val (ownTb t))), (23, some (.val (I k)))]) n ?_ ?_ 0 _ (by omega) ⟨[], ⟨rfl, by simp⟩, rfl⟩
           · rintro k e hk ⟨t, ⟨w1, w2⟩, rfl⟩
             simp [hk]
             refine wpLoop_count (fun j e => ∃ q : List Int, (q.length = j ∧ ∀ v ∈ q, 0 ≤ v ∧ v < n) ∧ e = fr [(0, some (.val (src c s5))), (1, some (.val (I most))), (5, some (.val (I n))), (18, some (.val (I u))), (19, some (.val (ownTb A))), (20, some (.val (ownTb D))), (21, some (.val (ownL p))), (22, some (.val (ownTb t))), (23, some (.val (I k))), (24, some (.val (ownL q))), (25, some (.val (I j)))]) n ?_ ?_ 0 _ (by omega) ⟨[], ⟨rfl, by simp⟩, rfl⟩
             · rintro j e hj ⟨q, ⟨x1, x2⟩, rfl⟩
               by_cases hku : k < u
               · by_cases hju : j < u
                 · have hgu' := hgu hu0
                   subst hgu'
                   obtain ⟨y1, y2, y3, y4, y5⟩ := hA.at hku hju
                   simp [hj, hku, hju]
                   have hgr : (rows A)[k]? = some (ownL A[k]) := by rw [rows_get, List.getElem?_eq_getElem y1]; rfl
                   simp [y1, hgr, y2]
                   exact ⟨by unfold roomy; omega, by omega, q ++ [(A[k])[j]], ⟨by simp [x1], snoc_in x2 (by omega)⟩, by simp only [ownL, List.map_append, List.map_cons, List.map_nil]⟩
                 · have hju' : u ≤ j := by omega
                   have hku' : ¬ u ≤ k := by omega
                   simp [hj, hku, hju, hku', undefV]
                   exact ⟨by unfold roomy; omega, by omega, q ++ [(j : Int)], ⟨by simp [x1], snoc_in x2 (by omega)⟩, by simp only [ownL, List.map_append, List.map_cons, List.map_nil]⟩
               · have hku' : u ≤ k := by omega
                 by_cases hju : j < u
                 · have hju' : ¬ u ≤ j := by omega
                   simp [hj, hku, hku', hju', undefV]
                   exact ⟨by unfold roomy; omega, by omega, q ++ [(j : Int)], ⟨by simp [x1], snoc_in x2 (by omega)⟩, by simp only [ownL, List.map_append, List.map_cons, List.map_nil]⟩
                 · have hju' : u ≤ j := by omega
                   simp [hj, hku, hku', hju', undefV]
                   obtain ⟨ku, eku⟩ : ∃ ku : Nat, (k : Int) - u = ku := ⟨k - u, by omega⟩
                   obtain ⟨ju, eju⟩ : ∃ ju : Nat, (j : Int) - u = ju := ⟨j - u, by omega⟩
                   obtain ⟨y1, y2, y3, y4, y5⟩ := hD.at (i := ku) (j := ju) (by omega) (by omega)
                   have hgr : (rows D)[ku]? = some (ownL D[ku]) := by rw [rows_get, List.getElem?_eq_getElem y1]; rfl
                   obtain ⟨z, ez⟩ : ∃ z : Nat, (D[ku])[ju] = z := ⟨((D[ku])[ju]).toNat, by omega⟩
                   have hpl := v4.1
                   have hz : z < p.length := by omega
                   have hpz := v4.2 _ (List.getElem_mem hz)
                   have kk : k - u = ku := by omega
                   have jj : j - u = ju := by omega
                   simp [eku, eju, kk, jj, y1, hgr, y2, ez, hz]
                   exact ⟨by omega, by omega, by omega, by unfold roomy; omega, by omega, q ++ [(u : Int) + p[z]], ⟨by simp [x1], snoc_in x2 (by omega)⟩, by simp only [ownL, List.map_append, List.map_cons, List.map_nil]⟩
             · rintro e ⟨q, ⟨x1, x2⟩, rfl⟩
               simp
               exact ⟨by unfold roomy; omega, by omega, t ++ [q], TabN.snoc ⟨w1, w2⟩ ⟨x1, x2⟩, by simp only [ownTb, rows, List.map_append, List.map_cons, List.map_nil]⟩
           · rintro e ⟨t, w, rfl⟩
             simp
             exact hfin s5 n t v3 hn0 hnm w
     · by_cases hk3 : kd = 3
       · by_cases hm6 : 6 ≤ most
         · have hm6' : (6 : Int) ≤ most := by omega
           obtain ⟨sK, z, ⟨k5, k6⟩, hcz⟩ := h336.at k3 (n := 2) (by omega)
           simp [hk3, hm6']
           refine callR h457 rfl rfl (fun _ => by simp) ?_
           simp
           refine callS (ts' := [rawB c, I sK.1, H64 sK.2]) (r := I z) (by simpa using hcz) ?_
           by_cases hz : z = 0
           · have hL := cnj_exch
             simp [hz]
             refine wpLoop_count (fun i e => ∃ t : List (List Int), (t.length = i ∧ ∀ r ∈ t, RowIn exch3.length r) ∧ e = fr [(0, some (.val (src c sK))), (1, some (.val (I most))), (11, some (.val (ownTb exch3))), (12, some (.val (ownTb t))), (13, some (.val (I i)))]) exch3.length ?_ ?_ 0 _ (by omega) ⟨[], ⟨rfl, by simp⟩, rfl⟩
             · rintro i e hi ⟨t, ⟨w1, w2⟩, rfl⟩
               simp [hi]
               refine wpLoop_count (fun j e => ∃ q : List Int, (q.length = j ∧ ∀ v ∈ q, 0 ≤ v ∧ v < exch3.length) ∧ e = fr [(0, some (.val (src c sK))), (1, some (.val (I most))), (11, some (.val (ownTb exch3))), (12, some (.val (ownTb t))), (13, some (.val (I i))), (14, some (.val (ownL q))), (15, some (.val (I j)))]) exch3.length ?_ ?_ 0 _ (by omega) ⟨[], ⟨rfl, by simp⟩, rfl⟩
               · rintro j e hj ⟨q, ⟨x1, x2⟩, rfl⟩
                 obtain ⟨m, hm, em⟩ := hL.cl i j hi hj
                 obtain ⟨pi, li⟩ := hL.pm _ (List.getElem_mem hi)
                 obtain ⟨pj, lj⟩ := hL.pm _ (List.getElem_mem hj)
                 have gi : (rows exch3)[i]? = some (ownL exch3[i]) := by rw [rows_get, List.getElem?_eq_getElem hi]; rfl
                 have gj : (rows exch3)[j]? = some (ownL exch3[j]) := by rw [rows_get, List.getElem?_eq_getElem hj]; rfl
                 have h1 := h304 exch3[i] pi
                 have h2 := h279 (invL exch3[i]) exch3[j] (by simp; omega) (by
                  have := (invL_ok pi).1.2
                  intro x hx
                  have := this x hx
                  omega)
                 have h3 := h279 (thenL (invL exch3[i]) exch3[j]) exch3[i] (by simp; omega) (by
                  intro x hx
                  rw [thenL, List.mem_map] at hx
                  obtain ⟨y, hy, rfl⟩ := hx
                  have hy2 := (invL_ok pi).1.2 y hy
                  have hyl : y.toNat < (exch3[j]).length := by omega
                  rw [List.getD_eq_getElem?_getD, List.getElem?_eq_getElem hyl, Option.getD_some]
                  have := pj.1.1 _ (List.getElem_mem hyl)
                  omega)
                 rw [← em] at h3
                 simp [hi, hj, gi, gj]
                 refine callR h1 rfl rfl (fun _ => by simp) ?_
                 simp [hj, gj]
                 refine callR h2 rfl rfl (fun _ => by simp) ?_
                 simp [hi, gi]
                 refine callR h3 rfl rfl (fun _ => by simp) ?_
                 simp
                 refine wpLoop_lower (α := Nat) (fun k => exch3.length - k) (fun k e => k ≤ m ∧ e = fr [(0, some (.val (src c sK))), (1, some (.val (I most))), (11, some (.val (ownTb exch3))), (12, some (.val (ownTb t))), (13, some (.val (I i))), (14, some (.val (ownL q))), (15, some (.val (I j))), (16, some (.val (ownL exch3[m]))), (17, some (.val (I k)))]) ?_ 0 _ ⟨by omega, rfl⟩
                 rintro k e ⟨hkm, rfl⟩
                 have hkl : k < exch3.length := by omega
                 have gk : (rows exch3)[k]? = some (ownL exch3[k]) := by rw [rows_get, List.getElem?_eq_getElem hkl]; rfl
                 have lk := (hL.pm _ (List.getElem_mem hkl)).2
                 have h4 := h67 exch3[k] exch3[m] (by omega)
                 have hsix := hL.six
                 simp [hkl, gk]
                 refine callR h4 rfl rfl (fun _ => rfl) ?_
                 by_cases he : exch3[k] = exch3[m]
                 · simp [he]
                   exact ⟨by unfold roomy; omega, by omega, q ++ [(k : Int)], ⟨by simp [x1], snoc_in x2 (by omega)⟩, by simp only [ownL, List.map_append, List.map_cons, List.map_nil]⟩
                 · have hne : k ≠ m := fun h => he (by subst h; rfl)
                   simp [he]
                   exact ⟨by omega, k + 1, by omega, by omega, rfl⟩
               · rintro e ⟨q, ⟨x1, x2⟩, rfl⟩
                 simp
                 have hsix := hL.six
                 exact ⟨by unfold roomy; omega, by omega, t ++ [q], TabN.snoc ⟨w1, w2⟩ ⟨x1, x2⟩, by simp only [ownTb, rows, List.map_append, List.map_cons, List.map_nil]⟩
             · rintro e ⟨t, w, rfl⟩
               simp
               exact hfin sK exch3.length t k5 hL.pos (by have := hL.six; omega) w
           · have hL := cnj_perm
             simp [hz]
             refine wpLoop_count (fun i e => ∃ t : List (List Int), (t.length = i ∧ ∀ r ∈ t, RowIn perm3.length r) ∧ e = fr [(0, some (.val (src c sK))), (1, some (.val (I most))), (11, some (.val (ownTb perm3))), (12, some (.val (ownTb t))), (13, some (.val (I i)))]) perm3.length ?_ ?_ 0 _ (by omega) ⟨[], ⟨rfl, by simp⟩, rfl⟩
             · rintro i e hi ⟨t, ⟨w1, w2⟩, rfl⟩
               simp [hi]
               refine wpLoop_count (fun j e => ∃ q : List Int, (q.length = j ∧ ∀ v ∈ q, 0 ≤ v ∧ v < perm3.length) ∧ e = fr [(0, some (.val (src c sK))), (1, some (.val (I most))), (11, some (.val (ownTb perm3))), (12, some (.val (ownTb t))), (13, some (.val (I i))), (14, some (.val (ownL q))), (15, some (.val (I j)))]) perm3.length ?_ ?_ 0 _ (by omega) ⟨[], ⟨rfl, by simp⟩, rfl⟩
               · rintro j e hj ⟨q, ⟨x1, x2⟩, rfl⟩
                 obtain ⟨m, hm, em⟩ := hL.cl i j hi hj
                 obtain ⟨pi, li⟩ := hL.pm _ (List.getElem_mem hi)
                 obtain ⟨pj, lj⟩ := hL.pm _ (List.getElem_mem hj)
                 have gi : (rows perm3)[i]? = some (ownL perm3[i]) := by rw [rows_get, List.getElem?_eq_getElem hi]; rfl
                 have gj : (rows perm3)[j]? = some (ownL perm3[j]) := by rw [rows_get, List.getElem?_eq_getElem hj]; rfl
                 have h1 := h304 perm3[i] pi
                 have h2 := h279 (invL perm3[i]) perm3[j] (by simp; omega) (by
                  have := (invL_ok pi).1.2
                  intro x hx
                  have := this x hx
                  omega)
                 have h3 := h279 (thenL (invL perm3[i]) perm3[j]) perm3[i] (by simp; omega) (by
                  intro x hx
                  rw [thenL, List.mem_map] at hx
                  obtain ⟨y, hy, rfl⟩ := hx
                  have hy2 := (invL_ok pi).1.2 y hy
                  have hyl : y.toNat < (perm3[j]).length := by omega
                  rw [List.getD_eq_getElem?_getD, List.getElem?_eq_getElem hyl, Option.getD_some]
                  have := pj.1.1 _ (List.getElem_mem hyl)
                  omega)
                 rw [← em] at h3
                 simp [hi, hj, gi, gj]
                 refine callR h1 rfl rfl (fun _ => by simp) ?_
                 simp [hj, gj]
                 refine callR h2 rfl rfl (fun _ => by simp) ?_
                 simp [hi, gi]
                 refine callR h3 rfl rfl (fun _ => by simp) ?_
                 simp
                 refine wpLoop_lower (α := Nat) (fun k => perm3.length - k) (fun k e => k ≤ m ∧ e = fr [(0, some (.val (src c sK))), (1, some (.val (I most))), (11, some (.val (ownTb perm3))), (12, some (.val (ownTb t))), (13, some (.val (I i))), (14, some (.val (ownL q))), (15, some (.val (I j))), (16, some (.val (ownL perm3[m]))), (17, some (.val (I k)))]) ?_ 0 _ ⟨by omega, rfl⟩
                 rintro k e ⟨hkm, rfl⟩
                 have hkl : k < perm3.length := by omega
                 have gk : (rows perm3)[k]? = some (ownL perm3[k]) := by rw [rows_get, List.getElem?_eq_getElem hkl]; rfl
                 have lk := (hL.pm _ (List.getElem_mem hkl)).2
                 have h4 := h67 perm3[k] perm3[m] (by omega)
                 have hsix := hL.six
                 simp [hkl, gk]
                 refine callR h4 rfl rfl (fun _ => rfl) ?_
                 by_cases he : perm3[k] = perm3[m]
                 · simp [he]
                   exact ⟨by unfold roomy; omega, by omega, q ++ [(k : Int)], ⟨by simp [x1], snoc_in x2 (by omega)⟩, by simp only [ownL, List.map_append, List.map_cons, List.map_nil]⟩
                 · have hne : k ≠ m := fun h => he (by subst h; rfl)
                   simp [he]
                   exact ⟨by omega, k + 1, by omega, by omega, rfl⟩
               · rintro e ⟨q, ⟨x1, x2⟩, rfl⟩
                 simp
                 have hsix := hL.six
                 exact ⟨by unfold roomy; omega, by omega, t ++ [q], TabN.snoc ⟨w1, w2⟩ ⟨x1, x2⟩, by simp only [ownTb, rows, List.map_append, List.map_cons, List.map_nil]⟩
             · rintro e ⟨t, w, rfl⟩
               simp
               exact hfin sK perm3.length t k5 hL.pos (by have := hL.six; omega) w
         · have hm6' : ¬ (6 : Int) ≤ most := by omega
           simp [hk3, hm6']
           obtain ⟨s4, u, ⟨v1, v2⟩, hcu⟩ := h336.at k3 (n := n) hn0
           obtain ⟨g, hg, hg0, hgn, hgu⟩ : ∃ g : Nat, mmI true 1 (u : Int) = g ∧ 0 < g ∧ g ≤ 12 ∧ (u ≠ 0 → g = u) := by
            by_cases hu : u = 0
            · exact ⟨1, by simp [mmI, hu], by omega, by omega, fun h => (h hu).elim⟩
            · exact ⟨u, by simp [mmI]; omega, by omega, by omega, fun _ => rfl⟩
           obtain ⟨g1, hg1⟩ : ∃ g1 : Nat, (g : Int) - 1 = g1 := ⟨g - 1, by omega⟩
           obtain ⟨g2, hg2, hg2'⟩ := tmodX (a := 2) hg0
           have hg2 : (2 : Int).tmod g = g2 := hg2
           obtain ⟨d, hd⟩ : ∃ d : Nat, (n : Int) - u = d := ⟨n - u, by omega⟩
           have hd0 : 0 < d := by omega
           obtain ⟨d1, hd1, hd1'⟩ := tmodX (a := 1) hd0
           have hd1 : (1 : Int).tmod d = d1 := hd1
           obtain ⟨A, hA, hcA⟩ := h455 g g1 g2 (by omega) (by omega) (by omega)
           obtain ⟨D, hD, hcD⟩ := h455 d d1 0 (by omega) (by omega) (by omega)
           obtain ⟨s5, p, ⟨v3, v4, v5⟩, hcp⟩ := h338 c s4 d v1 (by omega)
           have hgz : ¬ g = 0 := by omega
           have hdz : ¬ d = 0 := by omega
           refine callS (ts' := [rawB c, I s4.1, H64 s4.2]) (r := I u) (by simpa using hcu) ?_
           simp [hg, hgz, hg1, hg2, -tmod_nat]
           refine ⟨by omega, ?_⟩
           refine callR hcA rfl rfl (fun _ => by simp) ?_
           simp [hd, hdz, hd1, -tmod_nat]
           refine ⟨by omega, ?_⟩
           refine callR hcD rfl rfl (fun _ => by simp) ?_
           by_cases hu0 : u = 0
           · simp [hu0]
             have hdn : d = n := by omega
             subst hdn
             exact hfin s4 d D v1 hn0 hnm hD
           · simp [hu0, hd]
             refine ⟨by omega, ?_⟩
             refine callS (ts' := [rawB c, I s5.1, H64 s5.2]) (r := ownL p) (by simpa using hcp) ?_
             simp
             refine wpLoop_count (fun k e => ∃ t : List (List Int), (t.length = k ∧ ∀ r ∈ t, RowIn n r) ∧ e = fr [(0, some (.val (src c s5))), (1, some (.val (I most))), (5, some (.val (I n))), (18, some (.val (I u))), (19, some (.val (ownTb A))), (20, some (.val (ownTb D))), (21, some (.val (ownL p))), (22, some (.val (ownTb t))), (23, some (.val (I k)))]) n ?_ ?_ 0 _ (by omega) ⟨[], ⟨rfl, by simp⟩, rfl⟩
             · rintro k e hk ⟨t, ⟨w1, w2⟩, rfl⟩
               simp [hk]
               refine wpLoop_count (fun j e => ∃ q : List Int, (q.length = j ∧ ∀ v ∈ q, 0 ≤ v ∧ v < n) ∧ e = fr [(0, some (.val (src c s5))), (1, some (.val (I most))), (5, some (.val (I n))), (18, some (.val (I u))), (19, some (.val (ownTb A))), (20, some (.val (ownTb D))), (21, some (.val (ownL p))), (22, some (.val (ownTb t))), (23, some (.val (I k))), (24, some (.val (ownL q))), (25, some (.val (I j)))]) n ?_ ?_ 0 _ (by omega) ⟨[], ⟨rfl, by simp⟩, rfl⟩
               · rintro j e hj ⟨q, ⟨x1, x2⟩, rfl⟩
                 by_cases hku : k < u
                 · by_cases hju : j < u
                   · have hgu' := hgu hu0
                     subst hgu'
                     obtain ⟨y1, y2, y3, y4, y5⟩ := hA.at hku hju
                     simp [hj, hku, hju]
                     have hgr : (rows A)[k]? = some (ownL A[k]) := by rw [rows_get, List.getElem?_eq_getElem y1]; rfl
                     simp [y1, hgr, y2]
                     exact ⟨by unfold roomy; omega, by omega, q ++ [(A[k])[j]], ⟨by simp [x1], snoc_in x2 (by omega)⟩, by simp only [ownL, List.map_append, List.map_cons, List.map_nil]⟩
                   · have hju' : u ≤ j := by omega
                     have hku' : ¬ u ≤ k := by omega
                     simp [hj, hku, hju, hku', undefV]
                     exact ⟨by unfold roomy; omega, by omega, q ++ [(j : Int)], ⟨by simp [x1], snoc_in x2 (by omega)⟩, by simp only [ownL, List.map_append, List.map_cons, List.map_nil]⟩
                 · have hku' : u ≤ k := by omega
                   by_cases hju : j < u
                   · have hju' : ¬ u ≤ j := by omega
                     simp [hj, hku, hku', hju', undefV]
                     exact ⟨by unfold roomy; omega, by omega, q ++ [(j : Int)], ⟨by simp [x1], snoc_in x2 (by omega)⟩, by simp only [ownL, List.map_append, List.map_cons, List.map_nil]⟩
                   · have hju' : u ≤ j := by omega
                     simp [hj, hku, hku', hju', undefV]
                     obtain ⟨ku, eku⟩ : ∃ ku : Nat, (k : Int) - u = ku := ⟨k - u, by omega⟩
                     obtain ⟨ju, eju⟩ : ∃ ju : Nat, (j : Int) - u = ju := ⟨j - u, by omega⟩
                     obtain ⟨y1, y2, y3, y4, y5⟩ := hD.at (i := ku) (j := ju) (by omega) (by omega)
                     have hgr : (rows D)[ku]? = some (ownL D[ku]) := by rw [rows_get, List.getElem?_eq_getElem y1]; rfl
                     obtain ⟨z, ez⟩ : ∃ z : Nat, (D[ku])[ju] = z := ⟨((D[ku])[ju]).toNat, by omega⟩
                     have hpl := v4.1
                     have hz : z < p.length := by omega
                     have hpz := v4.2 _ (List.getElem_mem hz)
                     have kk : k - u = ku := by omega
                     have jj : j - u = ju := by omega
                     simp [eku, eju, kk, jj, y1, hgr, y2, ez, hz]
                     exact ⟨by omega, by omega, by omega, by unfold roomy; omega, by omega, q ++ [(u : Int) + p[z]], ⟨by simp [x1], snoc_in x2 (by omega)⟩, by simp only [ownL, List.map_append, List.map_cons, List.map_nil]⟩
               · rintro e ⟨q, ⟨x1, x2⟩, rfl⟩
                 simp
                 exact ⟨by unfold roomy; omega, by omega, t ++ [q], TabN.snoc ⟨w1, w2⟩ ⟨x1, x2⟩, by simp only [ownTb, rows, List.map_append, List.map_cons, List.map_nil]⟩
             · rintro e ⟨t, w, rfl⟩
               simp
               exact hfin s5 n t v3 hn0 hnm w
       · have e1 : ¬ (kd : Int) = 1 := by omega
         have e2 : ¬ (kd : Int) = 2 := by omega
         have e3 : ¬ (kd : Int) = 3 := by omega
         simp [hk0, e1, e2, e3]
         obtain ⟨s4, u, ⟨v1, v2⟩, hcu⟩ := h336.at k3 (n := n) hn0
         obtain ⟨g, hg, hg0, hgn, hgu⟩ : ∃ g : Nat, mmI true 1 (u : Int) = g ∧ 0 < g ∧ g ≤ 12 ∧ (u ≠ 0 → g = u) := by
          by_cases hu : u = 0
          · exact ⟨1, by simp [mmI, hu], by omega, by omega, fun h => (h hu).elim⟩
          · exact ⟨u, by simp [mmI]; omega, by omega, by omega, fun _ => rfl⟩
         obtain ⟨g1, hg1⟩ : ∃ g1 : Nat, (g : Int) - 1 = g1 := ⟨g - 1, by omega⟩
         obtain ⟨g2, hg2, hg2'⟩ := tmodX (a := 2) hg0
         have hg2 : (2 : Int).tmod g = g2 := hg2
         obtain ⟨d, hd⟩ : ∃ d : Nat, (n : Int) - u = d := ⟨n - u, by omega⟩
         have hd0 : 0 < d := by omega
         obtain ⟨d1, hd1, hd1'⟩ := tmodX (a := 1) hd0
         have hd1 : (1 : Int).tmod d = d1 := hd1
         obtain ⟨A, hA, hcA⟩ := h455 g g1 g2 (by omega) (by omega) (by omega)
         obtain ⟨D, hD, hcD⟩ := h455 d d1 0 (by omega) (by omega) (by omega)
         obtain ⟨s5, p, ⟨v3, v4, v5⟩, hcp⟩ := h338 c s4 d v1 (by omega)
         have hgz : ¬ g = 0 := by omega
         have hdz : ¬ d = 0 := by omega
         refine callS (ts' := [rawB c, I s4.1, H64 s4.2]) (r := I u) (by simpa using hcu) ?_
         simp [hg, hgz, hg1, hg2, -tmod_nat]
         refine ⟨by omega, ?_⟩
         refine callR hcA rfl rfl (fun _ => by simp) ?_
         simp [hd, hdz, hd1, -tmod_nat]
         refine ⟨by omega, ?_⟩
         refine callR hcD rfl rfl (fun _ => by simp) ?_
         by_cases hu0 : u = 0
         · simp [hu0]
           have hdn : d = n := by omega
           subst hdn
           exact hfin s4 d D v1 hn0 hnm hD
         · simp [hu0, hd]
           refine ⟨by omega, ?_⟩
           refine callS (ts' := [rawB c, I s5.1, H64 s5.2]) (r := ownL p) (by simpa using hcp) ?_
           simp
           refine wpLoop_count (fun k e => ∃ t : List (List Int), (t.length = k ∧ ∀ r ∈ t, RowIn n r) ∧ e = fr [(0, some (.val (src c s5))), (1, some (.val (I most))), (5, some (.val (I n))), (18, some (.val (I u))), (19, some (.val (ownTb A))), (20, some (.val (ownTb D))), (21, some (.val (ownL p))), (22, some (.val (ownTb t))), (23, some (.val (I k)))]) n ?_ ?_ 0 _ (by omega) ⟨[], ⟨rfl, by simp⟩, rfl⟩
           · rintro k e hk ⟨t, ⟨w1, w2⟩, rfl⟩
             simp [hk]
             refine wpLoop_count (fun j e => ∃ q : List Int, (q.length = j ∧ ∀ v ∈ q, 0 ≤ v ∧ v < n) ∧ e = fr [(0, some (.val (src c s5))), (1, some (.val (I most))), (5, some (.val (I n))), (18, some (.val (I u))), (19, some (.val (ownTb A))), (20, some (.val (ownTb D))), (21, some (.val (ownL p))), (22, some (.val (ownTb t))), (23, some (.val (I k))), (24, some (.val (ownL q))), (25, some (.val (I j)))]) n ?_ ?_ 0 _ (by omega) ⟨[], ⟨rfl, by simp⟩, rfl⟩
             · rintro j e hj ⟨q, ⟨x1, x2⟩, rfl⟩
               by_cases hku : k < u
               · by_cases hju : j < u
                 · have hgu' := hgu hu0
                   subst hgu'
                   obtain ⟨y1, y2, y3, y4, y5⟩ := hA.at hku hju
                   simp [hj, hku, hju]
                   have hgr : (rows A)[k]? = some (ownL A[k]) := by rw [rows_get, List.getElem?_eq_getElem y1]; rfl
                   simp [y1, hgr, y2]
                   exact ⟨by unfold roomy; omega, by omega, q ++ [(A[k])[j]], ⟨by simp [x1], snoc_in x2 (by omega)⟩, by simp only [ownL, List.map_append, List.map_cons, List.map_nil]⟩
                 · have hju' : u ≤ j := by omega
                   have hku' : ¬ u ≤ k := by omega
                   simp [hj, hku, hju, hku', undefV]
                   exact ⟨by unfold roomy; omega, by omega, q ++ [(j : Int)], ⟨by simp [x1], snoc_in x2 (by omega)⟩, by simp only [ownL, List.map_append, List.map_cons, List.map_nil]⟩
               · have hku' : u ≤ k := by omega
                 by_cases hju : j < u
                 · have hju' : ¬ u ≤ j := by omega
                   simp [hj, hku, hku', hju', undefV]
                   exact ⟨by unfold roomy; omega, by omega, q ++ [(j : Int)], ⟨by simp [x1], snoc_in x2 (by omega)⟩, by simp only [ownL, List.map_append, List.map_cons, List.map_nil]⟩
                 · have hju' : u ≤ j := by omega
                   simp [hj, hku, hku', hju', undefV]
                   obtain ⟨ku, eku⟩ : ∃ ku : Nat, (k : Int) - u = ku := ⟨k - u, by omega⟩
                   obtain ⟨ju, eju⟩ : ∃ ju : Nat, (j : Int) - u = ju := ⟨j - u, by omega⟩
                   obtain ⟨y1, y2, y3, y4, y5⟩ := hD.at (i := ku) (j := ju) (by omega) (by omega)
                   have hgr : (rows D)[ku]? = some (ownL D[ku]) := by rw [rows_get, List.getElem?_eq_getElem y1]; rfl
                   obtain ⟨z, ez⟩ : ∃ z : Nat, (D[ku])[ju] = z := ⟨((D[ku])[ju]).toNat, by omega⟩
                   have hpl := v4.1
                   have hz : z < p.length := by omega
                   have hpz := v4.2 _ (List.getElem_mem hz)
                   have kk : k - u = ku := by omega
                   have jj : j - u = ju := by omega
                   simp [eku, eju, kk, jj, y1, hgr, y2, ez, hz]
                   exact ⟨by omega, by omega, by omega, by unfold roomy; omega, by omega, q ++ [(u : Int) + p[z]], ⟨by simp [x1], snoc_in x2 (by omega)⟩, by simp only [ownL, List.map_append, List.map_cons, List.map_nil]⟩
             · rintro e ⟨q, ⟨x1, x2⟩, rfl⟩
               simp
               exact ⟨by unfold roomy; omega, by omega, t ++ [q], TabN.snoc ⟨w1, w2⟩ ⟨x1, x2⟩, by simp only [ownTb, rows, List.map_append, List.map_cons, List.map_nil]⟩
           · rintro e ⟨t, w, rfl⟩
             simp
             exact hfin s5 n t v3 hn0 hnm w
end Go.Mch
namespace Go.Mch
def S_d3 (pg : Pg) : Prop := ∀ (c : Rw Int) (s : Int × Int) (most : Nat), Sr c s → 0 < most → most ≤ 12 → ∃ (s' : Int × Int) (n : Nat) (t : List (List Int)), (Sr c s' ∧ 0 < n ∧ n ≤ most ∧ TabN n t) ∧ Call pg 401 [src c s, I most] [src c s', I most] (ownC t)
set_option maxRecDepth 10000 in
theorem t_d3 {pg : Pg} (hp : pg.fn 401 = some c_spec_l03Draw) (h336 : S_nxt pg) (h444 : S_dtb pg) (h338 : S_dpm pg) (h303 : S_image pg 303) : S_d3 pg := by
 intro c s most hs m0 m12
 have hfind := Call.findA (α := (Int × Int) × Nat × List (List Int)) (Q := fun Y => Sr c Y.1 ∧ 0 < Y.2.1 ∧ Y.2.1 ≤ most ∧ TabN Y.2.1 Y.2.2) (args := [src c s, I most]) (args' := fun Y => [src c Y.1, I most]) (r := fun Y => ownC Y.2.2) hp rfl (by simp [F.lets, c_spec_l03Draw, List.range, List.range.loop]) (by simp [kindOf]) ?_
 · obtain ⟨Y, h1, h2⟩ := hfind
   exact ⟨_, _, _, h1, h2⟩
 show wp _ _ c_spec_l03Draw.body (postX _ _ _ _ _) _
 generalize hR : postX (fun Y : (Int × Int) × Nat × List (List Int) => Sr c Y.1 ∧ 0 < Y.2.1 ∧ Y.2.1 ≤ most ∧ TabN Y.2.1 Y.2.2) c_spec_l03Draw.rs [src c s, I most] (fun Y => [src c Y.1, I most]) (fun Y => ownC Y.2.2) = R
 have hfin : ∀ (s' : Int × Int) (k : Nat) (t : List (List Int)), Sr c s' → 0 < k → k ≤ most → TabN k t → R .ret (fr [(0, some (.val (src c s'))), (1, some (.val (I most))), (4, some (.val (.mem .own none [ownTb t])))]) := by
  intro s' k X a1 a2 a3 a4
  subst hR
  exact ⟨(s', k, X), ⟨a1, a2, a3, a4⟩, by simp [post, c_spec_l03Draw]⟩
 obtain ⟨s1, n, t, ⟨k1, k2, k3, k4⟩, hc1⟩ := h444 c s most hs m0 m12
 obtain ⟨s2, r, ⟨k5, _⟩, hc2⟩ := h336.at k1 (n := 2) (by omega)
 obtain ⟨s3, p, ⟨k6, k7, k8⟩, hc3⟩ := h338 c s2 n k5 (by omega)
 have hpm := pm_of k7 k8 k2 (by omega)
 have hl1 := k4.1
 have hc4 := h303 t p k4.tab hpm (by rw [k7.1, hl1])
 subst hl1
 simp [c_spec_l03Draw]
 refine callS (ts' := [rawB c, I s1.1, H64 s1.2]) (r := ownTb t) (by simpa using hc1) ?_
 simp
 refine callS (ts' := [rawB c, I s2.1, H64 s2.2]) (r := I r) (by simpa using hc2) ?_
 by_cases hr : r = 0
 · simp [hr]
   refine callS (ts' := [rawB c, I s3.1, H64 s3.2]) (r := ownL p) (by simpa using hc3) ?_
   simp
   refine callR hc4 rfl rfl (fun _ => by simp) ?_
   simp
   exact hfin s3 _ (imT t p) k6 k2 k3 (imT_tabN k4 hpm k7.1)
 · simp [hr]
   exact hfin s2 _ t k5 k2 k3 k4
def S_d3a (pg : Pg) : Prop := ∀ (c : Rw Int) (s : Int × Int) (most : Nat), Sr c s → 0 < most → most ≤ 12 → ∃ (s' : Int × Int) (t : List (List Int)), (Sr c s' ∧ Bd t) ∧ Call pg 322 [src c s, I most] [src c s', I most] (ownC t)
set_option maxRecDepth 10000 in
theorem t_d3a {pg : Pg} (hp : pg.fn 322 = some c_spec_l03DrawAny) (h336 : S_nxt pg) (h401 : S_d3 pg) (h338 : S_dpm pg) : S_d3a pg := by
 intro c s most hs m0 m12
 have hfind := Call.findA (α := (Int × Int) × List (List Int)) (Q := fun Y => Sr c Y.1 ∧ Bd Y.2) (args := [src c s, I most]) (args' := fun Y => [src c Y.1, I most]) (r := fun Y => ownC Y.2) hp rfl (by simp [F.lets, c_spec_l03DrawAny, List.range, List.range.loop]) (by simp [kindOf]) ?_
 · obtain ⟨Y, h1, h2⟩ := hfind
   exact ⟨_, _, h1, h2⟩
 show wp _ _ c_spec_l03DrawAny.body (postX _ _ _ _ _) _
 generalize hR : postX (fun Y : (Int × Int) × List (List Int) => Sr c Y.1 ∧ Bd Y.2) c_spec_l03DrawAny.rs [src c s, I most] (fun Y => [src c Y.1, I most]) (fun Y => ownC Y.2) = R
 have hfin : ∀ (s' : Int × Int) (t : List (List Int)), Sr c s' → Bd t → R .ret (fr [(0, some (.val (src c s'))), (1, some (.val (I most))), (4, some (.val (.mem .own none [ownTb t])))]) := by
  intro s' X a1 a4
  subst hR
  exact ⟨(s', X), ⟨a1, a4⟩, by simp [post, c_spec_l03DrawAny]⟩
 obtain ⟨s1, n, t, ⟨k1, k2, k3, k4⟩, hc1⟩ := h401 c s most hs m0 m12
 obtain ⟨s2, kd, ⟨k5, k6⟩, hc2⟩ := h336.at k1 (n := 24) (by omega)
 have hl1 := k4.1
 have hbd := k4.bd (by omega)
 subst hl1
 simp [c_spec_l03DrawAny]
 refine callS (ts' := [rawB c, I s1.1, H64 s1.2]) (r := ownC t) (by simpa using hc1) ?_
 simp
 refine callS (ts' := [rawB c, I s2.1, H64 s2.2]) (r := I kd) (by simpa using hc2) ?_
 by_cases hk0 : kd = 0
 · obtain ⟨s3, r, ⟨j1, j2⟩, hc3⟩ := h336.at k5 (n := t.length) k2
   obtain ⟨s4, p, ⟨j3, j4, j5⟩, hc4⟩ := h338 c s3 t.length j1 (by omega)
   simp [hk0]
   refine callS (ts' := [rawB c, I s3.1, H64 s3.2]) (r := I r) (by simpa using hc3) ?_
   simp
   refine callS (ts' := [rawB c, I s4.1, H64 s4.2]) (r := ownL p) (by simpa using hc4) ?_
   simp [j2]
   have := hfin s4 (t.set r p) j3 (hbd.set (by have := j4.1; omega))
   exact ⟨by omega, by simpa only [ownTb, ← rows_set1, ownL] using this⟩
 · by_cases hk1 : kd = 1
   · obtain ⟨s3, i, ⟨j1, j2⟩, hc3⟩ := h336.at k5 (n := t.length) k2
     obtain ⟨s4, j, ⟨j3, j4⟩, hc4⟩ := h336.at j1 (n := t.length) k2
     obtain ⟨s5, v, ⟨j5, j6⟩, hc5⟩ := h336.at j3 (n := t.length + 1) (by omega)
     obtain ⟨y1, y2, y3, _, _⟩ := k4.at j2 j4
     simp [hk1]
     refine callS (ts' := [rawB c, I s3.1, H64 s3.2]) (r := I i) (by simpa using hc3) ?_
     simp [j2]
     refine callS (ts' := [rawB c, I s4.1, H64 s4.2]) (r := I j) (by simpa using hc4) ?_
     simp
     refine ⟨by omega, ?_⟩
     refine callS (ts' := [rawB c, I s5.1, H64 s5.2]) (r := I v) (by simpa using hc5) ?_
     simp [j2, y2]
     have := hfin s5 (t.set i (t[i].set j (v : Int))) j5 (hbd.set (by simp; omega))
     exact ⟨by omega, by simpa only [ownTb, ← rows_set1, ownL, List.map_set] using this⟩
   · by_cases hk2 : kd = 2
     · have hw : win (rows t) 1 (t.length - 1) = rows (t.drop 1) := by
        rw [win, rows, rows, List.map_drop]
        exact List.take_of_length_le (by simp)
       have := hfin s2 (t.drop 1) k5 ⟨by have := hbd.1; simp; omega, fun r hr => hbd.2 r (List.mem_of_mem_drop hr)⟩
       simp [hk2]
       refine ⟨by omega, by omega, ?_⟩
       rw [hw]
       exact this
     · have e1 : ¬ (kd : Int) = 1 := by omega
       have e2 : ¬ (kd : Int) = 2 := by omega
       simp [hk0, e1, e2]
       exact hfin s2 t k5 hbd
end Go.Mch
namespace Go.Mch
theorem S_likeI.ix {pg : Pg} (h : S_likeI pg) (X Y : List Int) (hs : X.length ≤ 1048576) : Call pg 141 [ix X, ix Y] [ix X, ix Y] (B (decide (X = Y))) := h (.of X) (.of Y) hs
end Go.Mch
namespace Go.Mch
def S_sol9 (pg : Pg) : Prop := ∀ X Y Z W : List (List Int), smallT X → smallT Y → Call pg 193 [sol X Y, sol Z W] [sol X Y, sol Z W] (B (decide (X = Z ∧ Y = W)))
set_option maxRecDepth 10000 in
theorem t_sol9 {pg : Pg} (hp : pg.fn 193 = some c_laws_solution9) (h178 : S_same9 pg) : S_sol9 pg := by
 intro X Y Z W hX hY
 refine Call.intro hp rfl (by simp) ?_
 show wp _ _ c_laws_solution9.body (post [.t 4] _ _ _) _
 simp [c_laws_solution9]
 refine callR (h178.tb X Z hX) rfl rfl (fun _ => rfl) ?_
 by_cases h : X = Z
 · simp [h]
   refine callR (h178.tb Y W hY) rfl rfl (fun _ => rfl) ?_
   simp
 · simp [h, undefV]
def S_sol90 (pg : Pg) : Prop := Call pg 193 [.agg [nil, nil], .agg [nil, nil]] [.agg [nil, nil], .agg [nil, nil]] (B true)
theorem t_sol90 {pg : Pg} (hp : pg.fn 193 = some c_laws_solution9) (h178 : S_same9 pg) : S_sol90 pg := by
 have h0 : Call pg 178 [nil, nil] [nil, nil] (B true) := by
  have := h178 .no .no ⟨by simp, by simp⟩
  simpa [rawT] using this
 refine Call.intro hp rfl (by simp) ?_
 show wp _ _ c_laws_solution9.body (post [.t 4] _ _ _) _
 simp [c_laws_solution9]
 refine callR h0 rfl rfl (fun _ => rfl) ?_
 simp
 refine callR h0 rfl rfl (fun _ => rfl) ?_
 simp
end Go.Mch
namespace Go.Mch
def SqS (X : S2) : Prop := ∃ m, 0 < m ∧ m ≤ 12 ∧ (X.1.length = m ∧ ∀ r ∈ X.1, r.length = m) ∧ (X.2.length = m ∧ ∀ r ∈ X.2, r.length = m)
theorem SqS.bd {X : S2} (h : SqS X) : Bd X.1 ∧ Bd X.2 := by
 obtain ⟨m, h0, h12, ⟨a1, a2⟩, b1, b2⟩ := h
 exact ⟨⟨by omega, fun r hr => by have := a2 r hr; omega⟩, by omega, fun r hr => by have := b2 r hr; omega⟩
def S_drR (pg : Pg) (f : Nat) : Prop := ∀ c : Rw Int, okB c → ∃ t : List (List Int), Bd t ∧ Call pg f [rawB c] [rawB c] (ownC t)
set_option maxRecDepth 10000 in
theorem t_dRS {pg : Pg} (hp : pg.fn 190 = some c_spec_DrawRackSolution) (h269 : S_from pg) (h322 : S_d3a pg) : S_drR pg 190 := by
 intro c hc
 obtain ⟨s, hs, hc1⟩ := h269 c hc
 obtain ⟨s1, t, ⟨k1, k2⟩, hc2⟩ := h322 c s 12 hs (by omega) (by omega)
 refine ⟨t, k2, Call.intro hp rfl (by simp) ?_⟩
 show wp _ _ c_spec_DrawRackSolution.body (post [.cell 2 (some 1)] _ _ _) _
 simp [c_spec_DrawRackSolution]
 refine callR hc1 rfl rfl (fun h => by simp at h) ?_
 simp
 refine callM (ts' := [src c s1, I 12]) (r := ownC t) ?_ ?_ ?_ ?_
 · simp
 · simpa using hc2
 · simp
 simp
end Go.Mch
namespace Go.Mch
theorem tab_sm {f s : List (List Int)} (h : PM f s) : smallT f ∧ smallT s := by
 have h12 := h.small
 have hl := h.len
 exact ⟨⟨by omega, fun r hr => by have := (h.tf r hr).1; omega⟩, ⟨by omega, fun r hr => by have := (h.ts r hr).1; omega⟩⟩
theorem tab_fit {f s : List (List Int)} (h : PM f s) : fits f ∧ fits s := by
 have h12 := h.small
 have hl := h.len
 exact ⟨⟨by omega, fun r hr => by have := (h.tf r hr).1; omega⟩, ⟨by omega, fun r hr => by have := (h.ts r hr).1; omega⟩⟩
theorem Bd.fits {t : List (List Int)} (h : Bd t) : fits t := ⟨by have := h.1; omega, fun r hr => by have := h.2 r hr; omega⟩
theorem Bd.sm {t : List (List Int)} (h : Bd t) : smallT t := ⟨by have := h.1; omega, fun r hr => by have := h.2 r hr; omega⟩
end Go.Mch
namespace Go.Mch


def rsS (n : Nat) : List (List Int) := tabL n fun x _ => (x : Int)
def S_rso (pg : Pg) (n : Nat) : Prop := ∀ t : List (List Int), Tab t → 0 < t.length → t.length ≤ 12 → Call pg n [rk t] [rk t] (.agg [ownTb t, ownTb (rsS t.length)])
set_option maxRecDepth 10000 in
theorem t_rs324 {pg : Pg} (hp : pg.fn 324 = some c_spec_l03Solution) (h280 : S_copyT pg 280) : S_rso pg 324 := by
 intro t ht h0 h12
 refine Call.intro hp rfl (by simp) ?_
 show wp _ _ c_spec_l03Solution.body (post [.cell 2 (some 2)] _ _ _) _
 have hc1 := h280 t ⟨by omega, fun r hr => by have := (ht r hr).1; omega⟩
 simp [c_spec_l03Solution]
 refine callR hc1 rfl rfl (fun _ => by simp) ?_
 simp
 refine wpLoop_count (fun k e => e = fr [(1, some (.val (.mem .own none [tb t]))), (2, some (.val (.mem .own none [nil, nil]))), (3, some (.val (.mem .own none [ownTb t, ownN2 ((rsS t.length).take k)]))), (4, some (.val (I k)))]) t.length ?_ ?_ 0 _ (by omega) rfl
 · rintro k e hk rfl
   simp [hk]
   refine wpLoop_count (fun j e => e = fr [(1, some (.val (.mem .own none [tb t]))), (2, some (.val (.mem .own none [nil, nil]))), (3, some (.val (.mem .own none [ownTb t, ownN2 ((rsS t.length).take k)]))), (4, some (.val (I k))), (5, some (.val (ownL (rowG (fun x _ => (x : Int)) k j)))), (6, some (.val (I j)))]) t.length ?_ ?_ 0 _ (by omega) rfl
   · rintro j e hj rfl
     rw [rowG_succ]
     have hl := rowG_length (fun x _ => (x : Int)) k j
     generalize rowG (fun x _ => (x : Int)) k j = G at *
     simp [hj]
     exact ⟨by unfold roomy; omega, by omega, by simp only [ownL, List.map_append, List.map_cons, List.map_nil]⟩
   · rintro e rfl
     have hl : ((rsS t.length).take k).length = k := by simp [rsS]; omega
     rw [rsS, tabL_take _ hk, ← rsS]
     generalize (rsS t.length).take k = A at *
     generalize rowG (fun x _ => (x : Int)) k t.length = q at *
     by_cases hk0 : k = 0
     · subst hk0
       obtain rfl : A = [] := List.length_eq_zero_iff.1 hl
       simp
       exact ⟨by unfold roomy; omega, rfl⟩
     · rw [ownN2_ne hl (by omega)]
       simp
       exact ⟨by unfold roomy; omega, by omega, by simp only [ownN2_snoc]⟩
 · rintro e rfl
   have hF : (rsS t.length).take t.length = rsS t.length := List.take_of_length_le (by simp [rsS])
   have hl : (rsS t.length).length = t.length := by simp [rsS]
   rw [hF, ownN2_ne hl h0]
   simp
def S_rso1 (pg : Pg) : Prop := ∀ (t : List (List Int)) (x y : Nat), Tab t → x < t.length → y < t.length → Call pg 402 [I x, I y, .mem .old none [tb t]] [I x, I y, .mem .old none [tb t]] (.tup [I (v2 t x y), I x])
theorem t_rso1 {pg : Pg} (hp : pg.fn 402 = some c_impl_rackSolution_1) : S_rso1 pg := by
 intro t x y ht hx hy
 refine Call.intro hp rfl (by simp) ?_
 show wp _ _ c_impl_rackSolution_1.body (post [.t 5, .t 6] _ _ _) _
 have hrow := ht.row hx
 have hyr : y < (t[x]).length := by omega
 have hv := get_v2 hx hyr
 simp [c_impl_rackSolution_1, hx, hrow, hy, hv]
theorem t_rs323 {pg : Pg} (hp : pg.fn 323 = some c_impl_rackSolution) (h308 : S_solBy pg) (h402 : S_rso1 pg) : S_rso pg 323 := by
 intro t ht h0 h12
 refine Call.intro hp rfl (by simp) ?_
 show wp _ _ c_impl_rackSolution.body (post [.cell 2 (some 2)] _ _ _) _
 simp [c_impl_rackSolution]
 have hb := h308 t.length (v2 t) (fun x _ => (x : Int)) 402 [.mem .old none [tb t]] (by omega) (by simp) (by simp) fun x y hx hy => h402 t x y ht hx hy
 have ht2 : tabL t.length (v2 t) = t := (tab_eq (t := t) (n := t.length) rfl fun r hr => (ht r hr).1).symm
 rw [ht2] at hb
 refine callR hb rfl rfl (fun _ => by simp) ?_
 simp [rsS]
noncomputable def rkC (t : List (List Int)) : Int := if dec (isRk t) then 0 else 1
noncomputable def rkR (t : List (List Int)) : Option (List (List Int) × List (List Int)) := if dec (isRk t) then some (t, rsS t.length) else none
def S_rks (pg : Pg) (n : Nat) : Prop := ∀ t : List (List Int), fits t → Call pg n [rk t] [rk t] (.tup [solT (rkR t), I (rkC t)])
theorem t_rks192 {pg : Pg} (hp : pg.fn 192 = some c_spec_RackSolution) (h28 : S_isRk pg 28) (h324 : S_rso pg 324) : S_rks pg 192 := by
 intro t ht
 refine Call.intro hp rfl (by simp) ?_
 show wp _ _ c_spec_RackSolution.body (post [.cell 2 (some 2), .t 3] _ _ _) _
 simp [c_spec_RackSolution]
 refine callR (h28 t ht) rfl rfl (fun _ => rfl) ?_
 by_cases h : isRk t
 · simp [dec_true h, rkC, rkR]
   refine callR (h324 t h.1.2.2 (by have := h.1.1; omega) (by have := h.1.2.1; omega)) rfl rfl (fun _ => by simp) ?_
   simp [solT]
 · simp [dec_false h, rkC, rkR, solT]
theorem t_rks191 {pg : Pg} (hp : pg.fn 191 = some c_impl_RackSolution) (h33 : S_isRk pg 33) (h323 : S_rso pg 323) : S_rks pg 191 := by
 intro t ht
 refine Call.intro hp rfl (by simp) ?_
 show wp _ _ c_impl_RackSolution.body (post [.cell 2 (some 2), .t 3] _ _ _) _
 simp [c_impl_RackSolution]
 refine callR (h33 t ht) rfl rfl (fun _ => rfl) ?_
 by_cases h : isRk t
 · simp [dec_true h, rkC, rkR]
   refine callR (h323 t h.1.2.2 (by have := h.1.1; omega) (by have := h.1.2.1; omega)) rfl rfl (fun _ => by simp) ?_
   simp [solT]
 · simp [dec_false h, rkC, rkR, solT]


def sqF (f s : List (List Int)) : Prop := ∀ x, x < f.length → v2 f x x = x ∧ v2 s x x = x
def S_sqF (pg : Pg) : Prop := ∀ f s : List (List Int), isPairMap f s → Call pg 194 [sol f s] [sol f s] (.tup [B (dec (sqF f s)), I 0])
set_option maxRecDepth 10000 in
theorem t_sqF {pg : Pg} (hp : pg.fn 194 = some c_impl_IsSquareFree) (h59 : S_pairMap pg 59) : S_sqF pg := by
 intro f s hpm
 have h := PM.of hpm
 have h12 := h.small
 have hls := h.len
 obtain ⟨ff, fs⟩ := tab_fit h
 refine Call.intro hp rfl (by simp) ?_
 show wp _ _ c_impl_IsSquareFree.body (post [.t 2, .t 3] _ _ _) _
 simp [c_impl_IsSquareFree]
 refine callR (h59 f s ff fs) rfl rfl (fun _ => rfl) ?_
 simp [hpm]
 refine wpLoop_lower (α := Nat) (fun k => f.length - k) (fun k e => k ≤ f.length ∧ (∀ x, x < k → v2 f x x = x ∧ v2 s x x = x) ∧ e = fr [(1, some (.val (.mem .own none [tb f, tb s]))), (10, some (.val (I f.length))), (11, some (.val (I k)))]) ?_ 0 _ ⟨by omega, fun x hx => by omega, by simp⟩
 rintro k e ⟨hkl, g, rfl⟩
 by_cases hk : k < f.length
 · have hks : k < s.length := by omega
   have r1 := h.tf.row hk
   have r2 := h.ts.row hks
   have e1 : (f[k])[k]'(by omega) = v2 f k k := get_v2 _ _
   have e2 : (s[k])[k]'(by omega) = v2 s k k := get_v2 _ _
   by_cases h1 : v2 f k k = k
   · by_cases h2 : v2 s k k = k
     · have g' : ∀ x, x < k + 1 → v2 f x x = x ∧ v2 s x x = x := fun x hx => by
        by_cases hxk : x = k
        · subst hxk; exact ⟨h1, h2⟩
        · exact g x (by omega)
       clear g
       simp [hk, r1, r2, hls, e1, e2, h1, h2]
       refine ⟨by omega, k + 1, by omega, by omega, g', by simp⟩
     · have hn : ¬ sqF f s := fun hh => h2 (hh k hk).2
       simp [hk, r1, r2, hls, e1, e2, h1, h2, dec_false hn]
   · have hn : ¬ sqF f s := fun hh => h1 (hh k hk).1
     simp [hk, r1, e1, h1, dec_false hn, undefV]
 · obtain rfl : k = f.length := by omega
   have hy : sqF f s := g
   simp [dec_true hy]
def knk (t : List (List Int)) (k : Nat) : List Int := (List.range k).map fun x => v2 t x x
@[simp] theorem knk_length (t : List (List Int)) (k : Nat) : (knk t k).length = k := by simp [knk]
def S_kink2 (pg : Pg) : Prop := ∀ t : List (List Int), Tab t → t.length ≤ 12 → Call pg 326 [rk t] [rk t] (ownL (knk t t.length))
theorem knk_set (t : List (List Int)) {k n : Nat} (hk : k < n) : (knk t k ++ List.replicate (n - k) 0).set k (v2 t k k) = knk t (k + 1) ++ List.replicate (n - (k + 1)) 0 := by
 rw [show n - k = n - (k + 1) + 1 by omega, List.replicate_succ, set_mid (by simp)]
 simp [knk, List.range_succ]
set_option maxRecDepth 10000 in
theorem t_kink2 {pg : Pg} (hp : pg.fn 326 = some c_impl_kinkOf) : S_kink2 pg := by
 intro t ht h12
 refine Call.intro hp rfl (by simp) ?_
 show wp _ _ c_impl_kinkOf.body (post [.t 2] _ _ _) _
 simp [c_impl_kinkOf]
 refine ⟨by unfold roomy; omega, ?_⟩
 refine wpLoop_count (fun k e => e = fr [(1, some (.val (.mem .own none [tb t]))), (3, some (.val (ownL (knk t k ++ List.replicate (t.length - k) 0)))), (10, some (.val (I t.length))), (11, some (.val (I k)))]) t.length ?_ ?_ 0 _ (by omega) (by simp [knk, ownL])
 · rintro k e hk rfl
   have r1 := ht.row hk
   have e1 : (t[k])[k]'(by omega) = v2 t k k := get_v2 _ _
   have e2 : (k : Int) < k + ((t.length - k : Nat) : Int) := by omega
   rw [← knk_set t hk]
   simp [hk, r1, e1, e2]
   refine ⟨by omega, ?_⟩
   simp only [ownL, List.map_set, List.map_append, List.map_replicate]
   exact ⟨by omega, trivial⟩
 · rintro e rfl
   simp
def S_isId (pg : Pg) : Prop := ∀ xs : List Int, xs.length ≤ 1048576 → Call pg 325 [ix xs] [ix xs] (B (dec (asc xs)))
theorem t_isId {pg : Pg} (hp : pg.fn 325 = some c_impl_isIdentity) (h403 : S_incr pg) : S_isId pg := by
 intro xs hl
 refine Call.intro hp rfl (by simp) ?_
 show wp _ _ c_impl_isIdentity.body (post [.t 2] _ _ _) _
 simp [c_impl_isIdentity]
 refine callR (h403 xs hl) rfl rfl (fun _ => rfl) ?_
 simp
def S_quan (pg : Pg) : Prop := ∀ t : List (List Int), isRk t → Call pg 195 [rk t] [rk t] (.tup [B (dec (asc (knk t t.length))), I 0])
theorem t_quan {pg : Pg} (hp : pg.fn 195 = some c_impl_IsQuandle) (h33 : S_isRk pg 33) (h326 : S_kink2 pg) (h325 : S_isId pg) : S_quan pg := by
 intro t h
 have h12 := h.1.2.1
 have ht : Tab t := h.1.2.2
 have hf : fits t := ⟨by omega, fun r hr => by have := (ht r hr).1; omega⟩
 refine Call.intro hp rfl (by simp) ?_
 show wp _ _ c_impl_IsQuandle.body (post [.t 2, .t 3] _ _ _) _
 simp [c_impl_IsQuandle]
 refine callR (h33 t hf) rfl rfl (fun _ => rfl) ?_
 simp [dec_true h]
 refine callR (h326 t ht (by omega)) rfl rfl (fun _ => by simp) ?_
 simp
 refine callR (h325 (knk t t.length) (by simp; omega)) rfl rfl (fun _ => by simp) ?_
 simp


def trT (n : Nat) : List (List Int) := tabL n fun _ y => (y : Int)
def S_rackBy (pg : Pg) : Prop := ∀ (n : Nat) (g : Nat → Nat → Int) (f : Nat) (caps : List T), n ≤ 1048576 → T.eryL .old caps = caps → T.noOwnL caps = true →
 (∀ x y : Nat, x < n → y < n → Call pg f (I x :: I y :: caps) (I x :: I y :: caps) (I (g x y))) → Call pg 327 [I n, .fn f caps] [I n, .fn f caps] (.agg [ownTb (tabL n g)])
def S_rackBy1 (pg : Pg) : Prop := ∀ (x y : Nat) (v : Int) (f : Nat) (caps : List T), T.eryL .old caps = caps → T.noOwnL caps = true →
 Call pg f (I x :: I y :: caps) (I x :: I y :: caps) (I v) → Call pg 404 (I x :: I y :: [.mem .old none [.fn f caps]]) (I x :: I y :: [.mem .old none [.fn f caps]]) (I v)
theorem t_rackBy1 {pg : Pg} (hp : pg.fn 404 = some c_impl_rackBy_1) : S_rackBy1 pg := by
 intro x y v f caps hc1 hc2 hc
 refine Call.intro hp rfl (by simp [hc2]) ?_
 show wp _ _ c_impl_rackBy_1.body (post [.t 5] _ _ _) _
 simp [c_impl_rackBy_1]
 refine callR (by simpa [hc1] using hc) rfl rfl (fun _ => rfl) ?_
 simp [hc2]
theorem t_rackBy {pg : Pg} (hp : pg.fn 327 = some c_impl_rackBy) (h376 : S_tableBy pg) (h404 : S_rackBy1 pg) : S_rackBy pg := by
 intro n g f caps hn hc1 hc2 hc
 refine Call.intro hp rfl (by simp [hc2]) ?_
 show wp _ _ c_impl_rackBy.body (post [.cell 4 (some 1)] _ _ _) _
 simp [c_impl_rackBy, hc1, hc2]
 have k1 : ∀ x y : Nat, x < n → y < n → Call pg 404 (I x :: I y :: [.mem .old none [.fn f caps]]) (I x :: I y :: [.mem .old none [.fn f caps]]) (I (g x y)) := fun x y hx hy => h404 x y (g x y) f caps hc1 hc2 (hc x y hx hy)
 refine callR (h376 n g 404 [.mem .old none [.fn f caps]] hn (by simp [hc1]) (by simp [hc2]) k1) rfl rfl (fun _ => by simp) ?_
 simp [hc2]
def S_triv1 (pg : Pg) : Prop := ∀ x y : Nat, Call pg 328 [I x, I y] [I x, I y] (I y)
theorem t_triv1 {pg : Pg} (hp : pg.fn 328 = some c_impl_TrivialRack_1) : S_triv1 pg := by
 intro x y
 refine Call.intro hp rfl (by simp) ?_
 show wp _ _ c_impl_TrivialRack_1.body (post [.t 4] _ _ _) _
 simp [c_impl_TrivialRack_1]
def S_triv (pg : Pg) : Prop := ∀ n : Nat, 0 < n → n ≤ 12 → Call pg 196 [I n] [I n] (.tup [.agg [ownTb (trT n)], I 0])
theorem t_triv {pg : Pg} (hp : pg.fn 196 = some c_impl_TrivialRack) (h35 : S_in pg 35) (h327 : S_rackBy pg) (h328 : S_triv1 pg) : S_triv pg := by
 intro n h0 h12
 have h1 : (1 : Int) ≤ n := by omega
 have h2 : (n : Int) ≤ 12 := by omega
 refine Call.intro hp rfl (by simp) ?_
 show wp _ _ c_impl_TrivialRack.body (post [.cell 2 (some 1), .t 3] _ _ _) _
 simp [c_impl_TrivialRack]
 refine callR (h35 n 1 12) rfl rfl (fun _ => rfl) ?_
 simp [h1, h2]
 refine callR (h327 n (fun _ y => (y : Int)) 328 [] (by omega) (by simp) (by simp) fun x y _ _ => h328 x y) rfl rfl (fun _ => by simp) ?_
 simp [trT]
end Go.Mch
namespace Go.Mch

theorem rs_nd {n : Nat} {T : Nat → Nat → Nat} (ht : Rck n T) : Nd n T (fun _ x => x) :=
 ⟨ht.r, fun _ _ _ hy => hy, ht.i, fun _ _ _ _ _ _ he => he, fun x w hx hw => surj_of_inj (fun y hy => ht.r x y hx hy) (fun y y' h1 h2 => ht.i x y y' hx h1 h2) w hw, fun _ w _ hw => ⟨w, hw, rfl⟩,
  fun x y z hx hy hz => (ht.sd x y z hx hy hz).symm, fun _ _ _ _ _ _ => rfl, fun _ _ _ _ _ _ => rfl⟩
theorem rs_tab {t : List (List Int)} (h : isRk t) : t = tabL t.length (fun x y => (σN t x y : Int)) := by
 have ht : Tab t := h.1.2.2
 have e := tab_eq (t := t) (n := t.length) rfl fun r hr => (ht r hr).1
 rw [show (fun x y => (σN t x y : Int)) = v2 t from by funext x y; exact (v2_int h x y).symm]
 exact e
theorem rs_at {t : List (List Int)} {x y : Nat} (hx : x < t.length) (hy : y < t.length) : v2 (rsS t.length) x y = x := v2_tabL hx hy
theorem rs_rg {t : List (List Int)} (h : isRk t) : Rg t (rsS t.length) := by
 have h0 := h.1.1
 have h12 := h.1.2.1
 have rg := rg_tab (rs_nd (rck_of h)) (by omega) (by omega)
 rw [← rs_tab h] at rg
 exact rg
theorem rs_reg {t : List (List Int)} (h : isRk t) : isReg t (rsS t.length) ∧ raT t (rsS t.length) = t := by
 have rg := rs_rg h
 have hk := rck_of h
 refine ⟨reg_of rg (inj_nd rg.1 fun x y x' y' hx hy hx' hy' e1 e2 => ?_), ?_⟩
 · unfold τN at e2
   rw [rs_at hx hy, rs_at hx' hy'] at e2
   have hxx : x = x' := by omega
   subst hxx
   exact ⟨rfl, hk.i x y y' hx hy hy' e1⟩
 · have ht : Tab t := h.1.2.2
   have e := tab_eq (t := t) (n := t.length) rfl fun r hr => (ht r hr).1
   conv => rhs; rw [e]
   refine tabL_congr fun x y hx hy => ?_
   have hz := ra_in rg.1 rg.2.2.1 hx hy
   unfold raV
   have ey : t.getD y [] = t[y] := by simp [hy]
   rw [ey, rs_at hy (by omega), Int.toNat_natCast]
theorem rs_free {t : List (List Int)} (h : isRk t) : sqF t (rsS t.length) ↔ asc (knk t t.length) := by
 have ht : Tab t := h.1.2.2
 have h0 := h.1.1
 have hl := knk_length t t.length
 have hg : ∀ k, k < t.length → (knk t t.length).getD k 0 = v2 t k k := fun k hk => by
  rw [List.getD_eq_getElem?_getD, List.getElem?_eq_getElem (by simpa using hk)]
  simp [knk]
 constructor
 · intro hf k hk
   rw [hl] at hk
   unfold ascAt
   rw [hg k (by omega), hg (k + 1) hk, (hf k (by omega)).1, (hf (k + 1) hk).1]
   omega
 · intro ha x hx
   refine ⟨?_, rs_at hx hx⟩
   have lo : ∀ k, k < t.length → (k : Int) ≤ v2 t k k := fun k => by
    induction k with
    | zero => intro _; exact ht.nonneg 0 0
    | succ k ih =>
     intro hk
     have h1 := ih (by omega)
     have h2 := ha k (by rw [hl]; exact hk)
     unfold ascAt at h2
     rw [hg k (by omega), hg (k + 1) hk] at h2
     omega
   have hi : ∀ j k, k + j + 1 = t.length → v2 t k k ≤ k := fun j => by
    induction j with
    | zero => intro k hk; have := ht.lt (by omega) k k; omega
    | succ j ih =>
     intro k hk
     have h1 := ih (k + 1) (by omega)
     have h2 := ha k (by rw [hl]; omega)
     unfold ascAt at h2
     rw [hg k (by omega), hg (k + 1) (by omega)] at h2
     omega
   have h1 := lo x hx
   have h2 := hi (t.length - x - 1) x (by omega)
   omega
theorem trT_iff {t : List (List Int)} (h : isRk t) : t = trT t.length ↔ ∀ x y, x < t.length → y < t.length → σN t x y = y := by
 constructor
 · intro he x y hx hy
   have e : v2 (trT t.length) x y = (y : Int) := v2_tabL hx hy
   rw [← he] at e
   unfold σN
   omega
 · intro he
   have e := rs_tab h
   conv => lhs; rw [e]
   refine tabL_congr fun x y hx hy => ?_
   rw [he x y hx hy]
theorem rs_inv {t : List (List Int)} (h : isRk t) : isInv t (rsS t.length) ↔ t = trT t.length := by
 have hk := rck_of h
 rw [trT_iff h]
 constructor
 · intro hi x y hx hy
   have h2 := (hi x hx y hy).2
   unfold τN at h2
   rw [rs_at hx hy, rs_at (hk.r x y hx hy) (by simpa using hx)] at h2
   omega
 · intro he x hx y hy
   unfold iv τN
   rw [rs_at hx hy, Int.toNat_natCast, he x y hx hy, rs_at hy hx, v2_int h, he y x hy hx]
   exact ⟨rfl, rfl⟩
def S_law95 (pg : Pg) : Prop := ∀ c : Rw Int, okB c → ∃ args', Call pg 95 [rawB c] args' (B true)
set_option maxHeartbeats 2000000 in
set_option maxRecDepth 20000 in
theorem t_law95 {pg : Pg} (hp : pg.fn 95 = some c_laws_FnRackSolutions) (h128 : S_big pg) (h190 : S_drR pg 190) (h191 : S_rks pg 191) (h192 : S_rks pg 192) (h193 : S_sol9 pg) (h193z : S_sol90 pg) (h159 : S_ndI pg) (h148 : S_dr pg 148) (h194 : S_sqF pg) (h160 : S_ivI pg) (h195 : S_quan pg) (h196 : S_triv pg) (h42 : S_isSol pg 42) (h178 : S_same9 pg) : S_law95 pg := by
 intro c hc
 obtain ⟨t, hX, hd⟩ := h190 c hc
 have ht := hX.fits
 refine ⟨[rawB c], Call.intro hp rfl (by simp) ?_⟩
 show wp _ _ c_laws_FnRackSolutions.body (post [.t 2] _ _ _) _
 simp [c_laws_FnRackSolutions]
 refine callR (h128 c) rfl rfl (fun _ => rfl) ?_
 by_cases hbig : (4096 : Int) < (lst c).length
 · simp [hbig]
 · simp [hbig]
   refine callR hd rfl rfl (fun _ => by simp) ?_
   have hc1 := h191 t ht
   have hc2 := h192 t ht
   by_cases h : isRk t
   · obtain ⟨hr, hra⟩ := rs_reg h
     have hpm := PM.of hr.1.1
     obtain ⟨sf, ss⟩ := tab_sm hpm
     obtain ⟨ff, fs⟩ := tab_fit hpm
     have c0 : rkC t = 0 := by simp [rkC, dec_true h]
     have e0 : rkR t = some (t, rsS t.length) := by simp [rkR, dec_true h]
     rw [c0, e0] at hc1 hc2
     have hc3 := h193 t (rsS t.length) t (rsS t.length) sf ss
     have hc4 := h159 t (rsS t.length) hr.1.1
     have hc5 := h148 t (rsS t.length) ff fs
     have d1 : drC t (rsS t.length) = 0 := by simp [drC, dec_true hr.1, hr.2]
     have d2 : drR t (rsS t.length) = some t := by simp [drR, dec_true hr, hra]
     rw [d1, d2] at hc5
     have hc6 := h42 t (rsS t.length) ff fs
     simp only [dec_true hr.1] at hc6
     have hc7 := h178.tb t t hX.sm
     have hc8 := h178.tb t (trT t.length) hX.sm
     have hc9 := h194 t (rsS t.length) hr.1.1
     have hc10 := h160 t (rsS t.length) hr.1.1
     have hc11 := h195 t h
     have hc12 := h196 t.length hpm.pos hpm.small
     have hnd := hr.2
     have q1 : dec (sqF t (rsS t.length)) = dec (asc (knk t t.length)) := by
      by_cases hh : asc (knk t t.length)
      · rw [dec_true hh, dec_true ((rs_free h).2 hh)]
      · rw [dec_false hh, dec_false fun g => hh ((rs_free h).1 g)]
     have q2 : dec (isInv t (rsS t.length)) = decide (t = trT t.length) := by
      by_cases hh : t = trT t.length
      · rw [dec_true ((rs_inv h).2 hh)]; exact (decide_eq_true hh).symm
      · rw [dec_false fun g => hh ((rs_inv h).1 g)]; exact (decide_eq_false hh).symm
     rw [q1] at hc9
     rw [q2] at hc10
     clear q1 q2 hd hc hr hra
     generalize dec (asc (knk t t.length)) = b1 at *
     generalize decide (t = trT t.length) = b2 at *
     generalize rsS t.length = S at *
     generalize trT t.length = W at *
     simp only [solT, ownT] at hc1 hc2 hc5
     simp
     refine callR hc1 rfl rfl (fun _ => by simp) ?_
     simp
     refine callR hc2 rfl rfl (fun _ => by simp) ?_
     simp
     refine callR hc3 rfl rfl (fun _ => rfl) ?_
     simp
     refine callR hc4 rfl rfl (fun _ => rfl) ?_
     simp
     refine callR hc5 rfl rfl (fun _ => by simp) ?_
     simp
     refine callR hc9 rfl rfl (fun _ => rfl) ?_
     simp
     refine callR hc10 rfl rfl (fun _ => rfl) ?_
     simp
     refine callR hc11 rfl rfl (fun _ => rfl) ?_
     simp
     refine callR hc12 rfl rfl (fun _ => by simp) ?_
     simp
     refine callR hc6 rfl rfl (fun _ => rfl) ?_
     simp [hnd]
     refine callR hc7 rfl rfl (fun _ => rfl) ?_
     simp
     refine callR hc8 rfl rfl (fun _ => rfl) ?_
     simp
   · have c0 : rkC t = 1 := by simp [rkC, dec_false h]
     have e0 : rkR t = none := by simp [rkR, dec_false h]
     rw [e0, c0] at hc1 hc2
     simp only [solT] at hc1 hc2
     simp
     refine callR hc1 rfl rfl (fun _ => by simp) ?_
     simp
     refine callR hc2 rfl rfl (fun _ => by simp) ?_
     simp
     refine callR h193z rfl rfl (fun _ => rfl) ?_
     simp
end Go.Mch
