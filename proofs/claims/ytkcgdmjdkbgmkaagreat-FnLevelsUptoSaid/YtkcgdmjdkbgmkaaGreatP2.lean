/- Our texts YlD YlE YlF YlG YlH YlI YlK YlM YnA YnC YgR YlP YoA YlX YmC YnB YgM YhD YjH YoB YoC, end to end. -/
import Derived.Test.YtkcgdmjdkbgmkaaGreatP1
import Derived.Test.YtkcgdmjdkbgmkaaGreatM1
namespace Go.Mch
def S_twst (pg : Pg) : Prop := ∀ (n : Nat) (p q : List Int), 0 < n → n ≤ 64 → RowIn n p → RowIn n q → ∃ X : List (List Int) × List (List Int), (PMN n X.1 X.2 ∧ ∀ r ∈ X.1, r = p) ∧ Call pg 425 [ix p, ix q] [ix p, ix q] (ownS X)
set_option maxRecDepth 10000 in
theorem t_twst {pg : Pg} (hp : pg.fn 425 = some c_spec_l02Twist) (h31 : S_own pg) : S_twst pg := by
 intro n p q h0 hn hP hQ
 have hpl := hP.1
 have hql := hQ.1
 refine Call.find hp rfl (by simp) ?_
 show wp _ _ c_spec_l02Twist.body _ _
 generalize hR : (fun (x : X) (e : Env) => ∃ l : List (List Int) × List (List Int), (PMN n l.1 l.2 ∧ ∀ r ∈ l.1, r = p) ∧ post c_spec_l02Twist.rs [ix p, ix q] [ix p, ix q] (ownS l) x e) = R
 simp [c_spec_l02Twist]
 refine wpLoop_count (fun k e => ∃ f s : List (List Int), ((f.length = k ∧ ∀ r ∈ f, r = p) ∧ s.length = k ∧ ∀ r ∈ s, RowIn n r) ∧ e = fr [(0, some (.val (ix p))), (1, some (.val (ix q))), (4, some (.val (.mem .own none [nil, nil]))), (5, some (.val (.mem .own none [ownN2 f, ownN2 s]))), (6, some (.val (I k)))]) n ?_ ?_ 0 _ (by omega) ⟨[], [], ⟨⟨rfl, by simp⟩, rfl, by simp⟩, rfl⟩
 · rintro k e hk ⟨f, s, ⟨⟨g1, g2⟩, g3, g4⟩, rfl⟩
   have hkq : k < q.length := by omega
   have hv := hQ.2 _ (List.getElem_mem hkq)
   simp [hk, hpl]
   refine wpLoop_count (fun j e => ∃ b : List Int, (b.length = j ∧ ∀ v ∈ b, 0 ≤ v ∧ v < n) ∧ e = fr [(0, some (.val (ix p))), (1, some (.val (ix q))), (4, some (.val (.mem .own none [nil, nil]))), (5, some (.val (.mem .own none [ownN2 f, ownN2 s]))), (6, some (.val (I k))), (7, some (.val (ownL b))), (8, some (.val (I j)))]) n ?_ ?_ 0 _ (by omega) ⟨[], ⟨rfl, by simp⟩, rfl⟩
   · rintro j e hj ⟨b, ⟨i3, i4⟩, rfl⟩
     simp [hj, hpl, hql, hk]
     exact ⟨by unfold roomy; omega, by omega, b ++ [q[k]], ⟨by simp [i3], snoc_in i4 hv⟩, by simp only [ownL, List.map_append, List.map_cons, List.map_nil]⟩
   · rintro e ⟨b, ⟨i3, i4⟩, rfl⟩
     by_cases hk0 : k = 0
     · subst hk0
       obtain rfl : f = [] := List.length_eq_zero_iff.1 g1
       obtain rfl : s = [] := List.length_eq_zero_iff.1 g3
       simp [hpl]
       refine callR (h31 p (by omega)) rfl rfl (fun _ => by simp) ?_
       simp
       exact ⟨by unfold roomy; omega, [p], [b], ⟨⟨rfl, by simp⟩, rfl, one_row ⟨i3, i4⟩⟩, rfl⟩
     · rw [ownN2_ne g1 (by omega), ownN2_ne g3 (by omega)]
       simp [hpl]
       refine callR (h31 p (by omega)) rfl rfl (fun _ => by simp) ?_
       simp
       exact ⟨by unfold roomy; omega, by unfold roomy; omega, by omega, f ++ [p], s ++ [b], ⟨⟨by simp [g1], fun r hr => by
        rcases List.mem_append.1 hr with h1 | h1
        · exact g2 r h1
        · exact List.mem_singleton.1 h1⟩, TabN.snoc ⟨g3, g4⟩ ⟨i3, i4⟩⟩, by simp only [ownN2_snoc]⟩
 · rintro e ⟨f, s, ⟨⟨g1, g2⟩, g3, g4⟩, rfl⟩
   rw [ownN2_ne g1 h0, ownN2_ne g3 h0]
   simp [hpl]
   subst hR
   exact ⟨(f, s), ⟨⟨⟨g1, fun r hr => by rw [g2 r hr]; exact hP⟩, g3, g4⟩, g2⟩, by simp [post, c_spec_l02Twist]⟩
def S_flp (pg : Pg) : Prop := ∀ n : Nat, 0 < n → n ≤ 64 → ∃ X : List (List Int) × List (List Int), (PMN n X.1 X.2 ∧ ∀ r ∈ X.1, r = idL n) ∧ Call pg 449 [I n] [I n] (ownS X)
theorem t_flp {pg : Pg} (hp : pg.fn 449 = some c_spec_l02Flip) (h334 : S_unit pg) (h425 : S_twst pg) : S_flp pg := by
 intro n h0 hn
 obtain ⟨X, hX, hc⟩ := h425 n (idL n) (idL n) h0 hn (idL_rowIn n).1 (idL_rowIn n).1
 refine ⟨X, hX, Call.intro hp rfl (by simp) ?_⟩
 show wp _ _ c_spec_l02Flip.body (post [.cell 2 (some 2)] _ _ _) _
 simp [c_spec_l02Flip]
 refine callR (h334 n (by omega)) rfl rfl (fun _ => by simp) ?_
 simp
 refine callR hc rfl rfl (fun _ => by simp) ?_
 simp
theorem tdivN (a m : Nat) : ((a : Int)).tdiv m = ((a / m : Nat) : Int) := by rw [Int.tdiv_eq_ediv_of_nonneg (by omega), Int.natCast_ediv]
theorem tmodN (a m : Nat) : ((a : Int)).tmod m = ((a % m : Nat) : Int) := by rw [Int.tmod_eq_emod_of_nonneg (by omega), Int.natCast_emod]
theorem TabN.at {n : Nat} {t : List (List Int)} (h : TabN n t) {i j : Nat} (hi : i < n) (hj : j < n) : ∃ (h1 : i < t.length) (h2 : j < (t[i]).length), (t[i]).length = n ∧ 0 ≤ (t[i])[j] ∧ (t[i])[j] < n := by
 have h1 : i < t.length := by rw [h.1]; exact hi
 have h2 := h.2 _ (List.getElem_mem h1)
 have h3 : j < (t[i]).length := by rw [h2.1]; exact hj
 exact ⟨h1, h3, h2.1, h2.2 _ (List.getElem_mem h3)⟩
theorem mul_lt {n m : Nat} {x y : Int} (h0 : 0 ≤ x) (h1 : x < n) (h2 : 0 ≤ y) (h3 : y < m) (hn : n * m ≤ 64) : 0 ≤ x * m + y ∧ x * m + y < (n * m : Nat) ∧ 0 ≤ x * m ∧ x * m ≤ 64 := by
 obtain ⟨x, rfl⟩ : ∃ x' : Nat, x = x' := ⟨x.toNat, by omega⟩
 obtain ⟨y, rfl⟩ : ∃ y' : Nat, y = y' := ⟨y.toNat, by omega⟩
 have h4 : (x + 1) * m ≤ n * m := Nat.mul_le_mul_right m (by omega)
 have h5 : (x + 1) * m = x * m + m := Nat.succ_mul x m
 have h6 : ((x * m : Nat) : Int) = (x : Int) * m := by simp
 omega
def S_prd (pg : Pg) : Prop := ∀ (n m : Nat) (f s f' s' : List (List Int)), 0 < n → 0 < m → n * m ≤ 64 → PMN n f s → PMN m f' s' → ∃ X : List (List Int) × List (List Int), PMN (n * m) X.1 X.2 ∧ Call pg 458 [sol f s, sol f' s'] [sol f s, sol f' s'] (ownS X)
set_option maxRecDepth 10000 in
theorem t_prd {pg : Pg} (hp : pg.fn 458 = some c_spec_l02Product) : S_prd pg := by
 intro n m f s f' s' hn0 hm0 hnm hA hB
 have hfl := hA.1.1
 have hsl := hA.2.1
 have hfl' := hB.1.1
 have hsl' := hB.2.1
 have hN : 0 < n * m := Nat.mul_pos hn0 hm0
 obtain ⟨N, hNe⟩ : ∃ N, N = n * m := ⟨_, rfl⟩
 have hNi : (n : Int) * m = N := by rw [hNe]; simp
 have hnl : n ≤ N := by rw [hNe]; exact Nat.le_mul_of_pos_right n hm0
 have hml : m ≤ N := by rw [hNe]; exact Nat.le_mul_of_pos_left m hn0
 rw [← hNe] at hN hnm ⊢
 have hdv : ∀ a, a < N → a / m < n := fun a ha => by rw [hNe, Nat.mul_comm] at ha; exact Nat.div_lt_of_lt_mul ha
 have hmd : ∀ a, a % m < m := fun a => Nat.mod_lt _ hm0
 have hm0' : ¬ (m : Int) = 0 := by omega
 have hm0'' : ¬ m = 0 := by omega
 refine Call.find hp rfl (by simp) ?_
 show wp _ _ c_spec_l02Product.body _ _
 generalize hR : (fun (x : X) (e : Env) => ∃ l : List (List Int) × List (List Int), PMN N l.1 l.2 ∧ post c_spec_l02Product.rs [sol f s, sol f' s'] [sol f s, sol f' s'] (ownS l) x e) = R
 simp [c_spec_l02Product]
 refine wpLoop_count (fun k e => ∃ F S : List (List Int), ((F.length = k ∧ ∀ r ∈ F, RowIn N r) ∧ S.length = k ∧ ∀ r ∈ S, RowIn N r) ∧ e = fr [(2, some (.val (.mem .own none [tb f, tb s]))), (3, some (.val (.mem .own none [tb f', tb s']))), (4, some (.val (.mem .own none [nil, nil]))), (5, some (.val (I n))), (6, some (.val (I m))), (7, some (.val (.mem .own none [ownN2 F, ownN2 S]))), (8, some (.val (I k)))]) N ?_ ?_ 0 _ (by omega) ⟨[], [], ⟨⟨rfl, by simp⟩, rfl, by simp⟩, by simp [hfl, hfl']⟩
 · rintro k e hk ⟨F, S, ⟨⟨g1, g2⟩, g3, g4⟩, rfl⟩
   simp [hk, hNi]
   refine ⟨by omega, ?_⟩
   refine wpLoop_count (fun j e => ∃ a b : List Int, ((a.length = j ∧ ∀ v ∈ a, 0 ≤ v ∧ v < N) ∧ b.length = j ∧ ∀ v ∈ b, 0 ≤ v ∧ v < N) ∧ e = fr [(2, some (.val (.mem .own none [tb f, tb s]))), (3, some (.val (.mem .own none [tb f', tb s']))), (4, some (.val (.mem .own none [nil, nil]))), (5, some (.val (I n))), (6, some (.val (I m))), (7, some (.val (.mem .own none [ownN2 F, ownN2 S]))), (8, some (.val (I k))), (9, some (.val (ownL a))), (10, some (.val (ownL b))), (11, some (.val (I j)))]) N ?_ ?_ 0 _ (by omega) ⟨[], [], ⟨⟨rfl, by simp⟩, rfl, by simp⟩, rfl⟩
   · rintro j e hj ⟨a, b, ⟨⟨i1, i2⟩, i3, i4⟩, rfl⟩
     have q1 := hdv k hk
     have q2 := hdv j hj
     have r1 := hmd k
     have r2 := hmd j
     have d1 := tdivN k m
     have d2 := tdivN j m
     have d3 := tmodN k m
     have d4 := tmodN j m
     generalize k / m = A at *
     generalize j / m = B at *
     generalize k % m = C at *
     generalize j % m = D at *
     obtain ⟨u1, u2, u3, u4, u5⟩ := hA.1.at q1 q2
     obtain ⟨v1, v2, v3, v4, v5⟩ := hA.2.at q1 q2
     obtain ⟨x1, x2, x3, x4, x5⟩ := hB.1.at r1 r2
     obtain ⟨y1, y2, y3, y4, y5⟩ := hB.2.at r1 r2
     have m1 := mul_lt u4 u5 x4 x5 (by omega)
     have m2 := mul_lt v4 v5 y4 y5 (by omega)
     rw [← hNe] at m1 m2
     simp [hj, hNi, d1, d2, d3, d4, hm0'', q1, q2, r1, r2, hfl, hsl, hfl', hsl', u3, v3, x3, y3]
     exact ⟨by omega, by omega, by omega, by omega, by omega, by unfold roomy; omega, by omega, by omega, by omega, by omega, by unfold roomy; omega, by omega, a ++ [f[A][B] * m + f'[C][D]], b ++ [s[A][B] * m + s'[C][D]], ⟨⟨by simp [i1], snoc_in i2 (by omega)⟩, by simp [i3], snoc_in i4 (by omega)⟩, by simp only [ownL, List.map_append, List.map_cons, List.map_nil]⟩
   · rintro e ⟨a, b, ⟨⟨i1, i2⟩, i3, i4⟩, rfl⟩
     by_cases hk0 : k = 0
     · subst hk0
       obtain rfl : F = [] := List.length_eq_zero_iff.1 g1
       obtain rfl : S = [] := List.length_eq_zero_iff.1 g3
       simp [hNi]
       exact ⟨by omega, by unfold roomy; omega, [a], [b], ⟨⟨rfl, one_row ⟨i1, i2⟩⟩, rfl, one_row ⟨i3, i4⟩⟩, rfl⟩
     · rw [ownN2_ne g1 (by omega), ownN2_ne g3 (by omega)]
       simp [hNi]
       exact ⟨by omega, by unfold roomy; omega, by unfold roomy; omega, by omega, F ++ [a], S ++ [b], ⟨TabN.snoc ⟨g1, g2⟩ ⟨i1, i2⟩, TabN.snoc ⟨g3, g4⟩ ⟨i3, i4⟩⟩, by simp only [ownN2_snoc]⟩
 · rintro e ⟨F, S, ⟨⟨g1, g2⟩, g3, g4⟩, rfl⟩
   rw [ownN2_ne g1 hN, ownN2_ne g3 hN]
   simp [hNi]
   refine ⟨by omega, ?_⟩
   subst hR
   exact ⟨(F, S), ⟨⟨g1, g2⟩, g3, g4⟩, by simp [post, c_spec_l02Product]⟩
def S_uni (pg : Pg) : Prop := ∀ (n m : Nat) (f s f' s' : List (List Int)), 0 < n → 0 < m → n + m ≤ 64 → PMN n f s → PMN m f' s' → ∃ X : List (List Int) × List (List Int), PMN (n + m) X.1 X.2 ∧ Call pg 460 [sol f s, sol f' s'] [sol f s, sol f' s'] (ownS X)
set_option maxRecDepth 10000 in
theorem t_uni {pg : Pg} (hp : pg.fn 460 = some c_spec_l02Union) : S_uni pg := by
 intro n m f s f' s' hn0 hm0 hnm hA hB
 have hfl := hA.1.1
 have hsl := hA.2.1
 have hfl' := hB.1.1
 have hsl' := hB.2.1
 obtain ⟨N, hNe⟩ : ∃ N, N = n + m := ⟨_, rfl⟩
 have hNi : (n : Int) + m = N := by rw [hNe]; simp
 rw [← hNe] at hnm ⊢
 have hN : 0 < N := by omega
 refine Call.find hp rfl (by simp) ?_
 show wp _ _ c_spec_l02Union.body _ _
 generalize hR : (fun (x : X) (e : Env) => ∃ l : List (List Int) × List (List Int), PMN N l.1 l.2 ∧ post c_spec_l02Union.rs [sol f s, sol f' s'] [sol f s, sol f' s'] (ownS l) x e) = R
 simp [c_spec_l02Union]
 refine wpLoop_count (fun k e => ∃ F S : List (List Int), ((F.length = k ∧ ∀ r ∈ F, RowIn N r) ∧ S.length = k ∧ ∀ r ∈ S, RowIn N r) ∧ e = fr [(2, some (.val (.mem .own none [tb f, tb s]))), (3, some (.val (.mem .own none [tb f', tb s']))), (4, some (.val (.mem .own none [nil, nil]))), (5, some (.val (I n))), (6, some (.val (I m))), (7, some (.val (.mem .own none [ownN2 F, ownN2 S]))), (8, some (.val (I k)))]) N ?_ ?_ 0 _ (by omega) ⟨[], [], ⟨⟨rfl, by simp⟩, rfl, by simp⟩, by simp [hfl, hfl']⟩
 · rintro k e hk ⟨F, S, ⟨⟨g1, g2⟩, g3, g4⟩, rfl⟩
   simp [hk, hNi]
   refine ⟨by omega, ?_⟩
   refine wpLoop_count (fun j e => ∃ a b : List Int, ((a.length = j ∧ ∀ v ∈ a, 0 ≤ v ∧ v < N) ∧ b.length = j ∧ ∀ v ∈ b, 0 ≤ v ∧ v < N) ∧ e = fr [(2, some (.val (.mem .own none [tb f, tb s]))), (3, some (.val (.mem .own none [tb f', tb s']))), (4, some (.val (.mem .own none [nil, nil]))), (5, some (.val (I n))), (6, some (.val (I m))), (7, some (.val (.mem .own none [ownN2 F, ownN2 S]))), (8, some (.val (I k))), (9, some (.val (ownL a))), (10, some (.val (ownL b))), (11, some (.val (I j)))]) N ?_ ?_ 0 _ (by omega) ⟨[], [], ⟨⟨rfl, by simp⟩, rfl, by simp⟩, rfl⟩
   · rintro j e hj ⟨a, b, ⟨⟨i1, i2⟩, i3, i4⟩, rfl⟩
     by_cases ck : k < n
     · by_cases cj : j < n
       · obtain ⟨u1, u2, u3, u4, u5⟩ := hA.1.at ck cj
         obtain ⟨v1, v2, v3, v4, v5⟩ := hA.2.at ck cj
         simp [hj, hNi, ck, cj, hfl, hsl, u3, v3]
         exact ⟨by omega, by unfold roomy; omega, by unfold roomy; omega, by omega, a ++ [f[k][j]], b ++ [s[k][j]], ⟨⟨by simp [i1], snoc_in i2 (by omega)⟩, by simp [i3], snoc_in i4 (by omega)⟩, by simp only [ownL, List.map_append, List.map_cons, List.map_nil]⟩
       · have ck' : ¬ n ≤ k := by omega
         simp [hj, hNi, ck, cj, ck', undefV]
         exact ⟨by omega, by unfold roomy; omega, by unfold roomy; omega, by omega, a ++ [(j : Int)], b ++ [(k : Int)], ⟨⟨by simp [i1], snoc_in i2 (by omega)⟩, by simp [i3], snoc_in i4 (by omega)⟩, by simp only [ownL, List.map_append, List.map_cons, List.map_nil]⟩
     · have ck' : n ≤ k := by omega
       by_cases cj : n ≤ j
       · obtain ⟨A, hAk⟩ : ∃ A : Nat, (k : Int) - n = A := ⟨k - n, by omega⟩
         obtain ⟨B, hBj⟩ : ∃ B : Nat, (j : Int) - n = B := ⟨j - n, by omega⟩
         have cA : A < m := by omega
         have cB : B < m := by omega
         obtain ⟨u1, u2, u3, u4, u5⟩ := hB.1.at cA cB
         obtain ⟨v1, v2, v3, v4, v5⟩ := hB.2.at cA cB
         simp [hj, hNi, ck, ck', cj, cA, cB, hfl', hsl', u3, v3, hAk, hBj, undefV]
         exact ⟨by omega, by omega, by omega, by omega, by unfold roomy; omega, by omega, by omega, by omega, by unfold roomy; omega, by omega, a ++ [f'[A][B] + n], b ++ [s'[A][B] + n], ⟨⟨by simp [i1], snoc_in i2 (by omega)⟩, by simp [i3], snoc_in i4 (by omega)⟩, by simp only [ownL, List.map_append, List.map_cons, List.map_nil]⟩
       · simp [hj, hNi, ck, cj, ck', undefV]
         exact ⟨by omega, by unfold roomy; omega, by unfold roomy; omega, by omega, a ++ [(j : Int)], b ++ [(k : Int)], ⟨⟨by simp [i1], snoc_in i2 (by omega)⟩, by simp [i3], snoc_in i4 (by omega)⟩, by simp only [ownL, List.map_append, List.map_cons, List.map_nil]⟩
   · rintro e ⟨a, b, ⟨⟨i1, i2⟩, i3, i4⟩, rfl⟩
     by_cases hk0 : k = 0
     · subst hk0
       obtain rfl : F = [] := List.length_eq_zero_iff.1 g1
       obtain rfl : S = [] := List.length_eq_zero_iff.1 g3
       simp [hNi]
       exact ⟨by omega, by unfold roomy; omega, [a], [b], ⟨⟨rfl, one_row ⟨i1, i2⟩⟩, rfl, one_row ⟨i3, i4⟩⟩, rfl⟩
     · rw [ownN2_ne g1 (by omega), ownN2_ne g3 (by omega)]
       simp [hNi]
       exact ⟨by omega, by unfold roomy; omega, by unfold roomy; omega, by omega, F ++ [a], S ++ [b], ⟨TabN.snoc ⟨g1, g2⟩ ⟨i1, i2⟩, TabN.snoc ⟨g3, g4⟩ ⟨i3, i4⟩⟩, by simp only [ownN2_snoc]⟩
 · rintro e ⟨F, S, ⟨⟨g1, g2⟩, g3, g4⟩, rfl⟩
   rw [ownN2_ne g1 hN, ownN2_ne g3 hN]
   simp [hNi]
   refine ⟨by omega, ?_⟩
   subst hR
   exact ⟨(F, S), ⟨⟨g1, g2⟩, g3, g4⟩, by simp [post, c_spec_l02Union]⟩
end Go.Mch
namespace Go.Mch
theorem zeroT_tabN {n : Nat} (h : 0 < n) : TabN n (zeroT n n) := by
 refine ⟨by simp [zeroT], fun r hr => ?_⟩
 simp only [zeroT, List.mem_replicate] at hr
 rw [hr.2]
 refine ⟨by simp, fun v hv => ?_⟩
 simp only [List.mem_replicate] at hv
 omega
theorem TabN.set2 {n i j : Nat} {t : List (List Int)} {v : Int} (h : TabN n t) (hi : i < t.length) (hv : 0 ≤ v ∧ v < n) : TabN n (t.set i (t[i].set j v)) := by
 refine ⟨by simpa using h.1, fun x hx => ?_⟩
 rcases List.mem_or_eq_of_mem_set hx with h1 | h1
 · exact h.2 x h1
 · rw [h1]; exact (h.2 _ (List.getElem_mem hi)).set hv
def S_invW (pg : Pg) : Prop := ∀ (n : Nat) (f s : List (List Int)), 0 < n → n ≤ 64 → PMN n f s → ∃ X : List (List Int) × List (List Int), PMN n X.1 X.2 ∧ Call pg 406 [sol f s] [sol f s] (ownS X)
set_option maxRecDepth 10000 in
theorem t_invW {pg : Pg} (hp : pg.fn 406 = some c_spec_l02Inverse) (h398 : S_empty pg) : S_invW pg := by
 intro n f s h0 hn hA
 have hfl := hA.1.1
 have hsl := hA.2.1
 refine Call.find hp rfl (by simp) ?_
 show wp _ _ c_spec_l02Inverse.body _ _
 generalize hR : (fun (x : X) (e : Env) => ∃ l : List (List Int) × List (List Int), PMN n l.1 l.2 ∧ post c_spec_l02Inverse.rs [sol f s] [sol f s] (ownS l) x e) = R
 simp [c_spec_l02Inverse]
 rw [hfl]
 refine callR (h398 n h0 (by omega)) rfl rfl (fun _ => by simp) ?_
 simp
 refine wpLoop_count (fun a e => ∃ F S : List (List Int), PMN n F S ∧ e = fr [(1, some (.val (.mem .own none [tb f, tb s]))), (2, some (.val (.mem .own none [nil, nil]))), (3, some (.val (I n))), (4, some (.val (.mem .own none [ownTb F, ownTb S]))), (5, some (.val (I a)))]) n ?_ ?_ 0 _ (by omega) ⟨zeroT n n, zeroT n n, ⟨zeroT_tabN h0, zeroT_tabN h0⟩, rfl⟩
 · rintro a e ha ⟨F, S, hX, rfl⟩
   simp [ha]
   refine wpLoop_count (fun b e => ∃ F S : List (List Int), PMN n F S ∧ e = fr [(1, some (.val (.mem .own none [tb f, tb s]))), (2, some (.val (.mem .own none [nil, nil]))), (3, some (.val (I n))), (4, some (.val (.mem .own none [ownTb F, ownTb S]))), (5, some (.val (I a))), (6, some (.val (I b)))]) n ?_ ?_ 0 _ (by omega) ⟨F, S, hX, by simp⟩
   · rintro b e hb ⟨F, S, hX, rfl⟩
     obtain ⟨u1, u2, u3, u4, u5⟩ := hA.1.at ha hb
     obtain ⟨v1, v2, v3, v4, v5⟩ := hA.2.at ha hb
     obtain ⟨P, hP⟩ : ∃ P : Nat, (f[a])[b] = P := ⟨((f[a])[b]).toNat, by omega⟩
     obtain ⟨Q, hQ⟩ : ∃ Q : Nat, (s[a])[b] = Q := ⟨((s[a])[b]).toNat, by omega⟩
     rw [hP] at u4 u5
     rw [hQ] at v4 v5
     have hPn : P < n := by omega
     have hQn : Q < n := by omega
     obtain ⟨x1, x2, x3, _⟩ := hX.1.at hPn hQn
     obtain ⟨y1, y2, y3, _⟩ := hX.2.at hPn hQn
     have w1 := hX.1.1
     have w2 := hX.2.1
     have hg1 : (rows F)[P]? = some (ownL F[P]) := by rw [rows_get, List.getElem?_eq_getElem x1]; rfl
     have hg2 : (rows S)[P]? = some (ownL S[P]) := by rw [rows_get, List.getElem?_eq_getElem y1]; rfl
     simp [hb, ha, hfl, hsl, u3, v3, hP, hQ, hPn, hQn, x3, y3, w1, w2]
     exact ⟨by omega, by omega, F.set P (F[P].set Q a), S.set P (S[P].set Q b), ⟨hX.1.set2 x1 ⟨by omega, by omega⟩, hX.2.set2 y1 ⟨by omega, by omega⟩⟩, by simp only [ownTb, ← rows_set2 x1, ← rows_set2 y1]⟩
   · rintro e ⟨F, S, hX, rfl⟩
     simp
     exact ⟨by omega, F, S, hX, rfl⟩
 · rintro e ⟨F, S, hX, rfl⟩
   simp
   subst hR
   exact ⟨(F, S), hX, by simp [post, c_spec_l02Inverse]⟩
def okR2 (n : Nat) (R : List (List Int)) : Prop := TabN n R ∧ ∀ x y, x < n → y < n → 0 ≤ ixOf (R.getD (v2 R x y).toNat []) x
def S_ivl (pg : Pg) : Prop := ∀ (n : Nat) (R : List (List Int)), 0 < n → n ≤ 64 → okR2 n R → ∃ X : List (List Int) × List (List Int), PMN n X.1 X.2 ∧ Call pg 461 [tb R] [tb R] (ownS X)
set_option maxRecDepth 10000 in
theorem t_ivl {pg : Pg} (hp : pg.fn 461 = some c_spec_l02Involutive) (h280 : S_copyT pg 280) (h69 : S_index pg) : S_ivl pg := by
 intro n R h0 hn ⟨hA, hI⟩
 have hRl := hA.1
 have hfit : fits R := ⟨by omega, fun r hr => by have := (hA.2 r hr).1; omega⟩
 refine Call.find hp rfl (by simp) ?_
 show wp _ _ c_spec_l02Involutive.body _ _
 generalize hR : (fun (x : X) (e : Env) => ∃ l : List (List Int) × List (List Int), PMN n l.1 l.2 ∧ post c_spec_l02Involutive.rs [tb R] [tb R] (ownS l) x e) = Rr
 simp [c_spec_l02Involutive]
 refine callR (h280 R hfit) rfl rfl (fun _ => by simp) ?_
 simp
 refine wpLoop_count (fun k e => ∃ s : List (List Int), (s.length = k ∧ ∀ r ∈ s, RowIn n r) ∧ e = fr [(0, some (.val (tb R))), (2, some (.val (.mem .own none [nil, nil]))), (3, some (.val (.mem .own none [ownTb R, ownN2 s]))), (4, some (.val (I k)))]) n ?_ ?_ 0 _ (by omega) ⟨[], ⟨rfl, by simp⟩, rfl⟩
 · rintro k e hk ⟨s, ⟨g3, g4⟩, rfl⟩
   simp [hk, hRl]
   refine wpLoop_count (fun j e => ∃ b : List Int, (b.length = j ∧ ∀ v ∈ b, 0 ≤ v ∧ v < n) ∧ e = fr [(0, some (.val (tb R))), (2, some (.val (.mem .own none [nil, nil]))), (3, some (.val (.mem .own none [ownTb R, ownN2 s]))), (4, some (.val (I k))), (5, some (.val (ownL b))), (6, some (.val (I j)))]) n ?_ ?_ 0 _ (by omega) ⟨[], ⟨rfl, by simp⟩, rfl⟩
   · rintro j e hj ⟨b, ⟨i3, i4⟩, rfl⟩
     obtain ⟨u1, u2, u3, u4, u5⟩ := hA.at hk hj
     have hv := get_v2 u1 u2
     have hii := hI k j hk hj
     rw [hv] at u4 u5
     obtain ⟨P, hP⟩ : ∃ P : Nat, v2 R k j = P := ⟨(v2 R k j).toNat, by omega⟩
     rw [hP] at hv u4 u5 hii
     have hPn : P < n := by omega
     have hPl : P < R.length := by omega
     have hrow := hA.2 _ (List.getElem_mem hPl)
     have hg : R.getD P [] = R[P] := by simp [hPl]
     rw [Int.toNat_natCast, hg] at hii
     have hle := (ixOf_le R[P] k).2
     have hc := h69 R[P] k (by have := hrow.1; omega)
     generalize ixOf R[P] k = z at *
     simp [hj, hRl, hk, u3, hv, hPn]
     refine callR hc rfl rfl (fun _ => rfl) ?_
     have hz := hrow.1
     simp
     exact ⟨by unfold roomy; omega, by omega, b ++ [z], ⟨by simp [i3], snoc_in i4 (by omega)⟩, by simp only [ownL, List.map_append, List.map_cons, List.map_nil]⟩
   · rintro e ⟨b, ⟨i3, i4⟩, rfl⟩
     by_cases hk0 : k = 0
     · subst hk0
       obtain rfl : s = [] := List.length_eq_zero_iff.1 g3
       simp [hRl]
       exact ⟨by unfold roomy; omega, [b], ⟨rfl, one_row ⟨i3, i4⟩⟩, rfl⟩
     · rw [ownN2_ne g3 (by omega)]
       simp [hRl]
       exact ⟨by unfold roomy; omega, by omega, s ++ [b], TabN.snoc ⟨g3, g4⟩ ⟨i3, i4⟩, by simp only [ownN2_snoc]⟩
 · rintro e ⟨s, ⟨g3, g4⟩, rfl⟩
   rw [ownN2_ne g3 h0]
   simp [hRl]
   subst hR
   exact ⟨(R, s), ⟨hA, g3, g4⟩, by simp [post, c_spec_l02Involutive]⟩
theorem thenL_rowIn {n : Nat} {p q : List Int} (hp : RowIn n p) (hq : RowIn n q) : RowIn n (thenL p q) := by
 refine ⟨by simp [thenL, hp.1], fun v hv => ?_⟩
 obtain ⟨x, hx, rfl⟩ := List.mem_map.1 hv
 have h1 := hp.2 x hx
 have h2 : x.toNat < q.length := by rw [hq.1]; omega
 rw [List.getD_eq_getElem?_getD, List.getElem?_eq_getElem h2]
 exact hq.2 _ (List.getElem_mem h2)
def S_twd (pg : Pg) : Prop := ∀ (c : Rw Int) (s : Int × Int) (n : Nat), Sr c s → 0 < n → n ≤ 64 → ∃ (s' : Int × Int) (X : List (List Int) × List (List Int)), (Sr c s' ∧ PMN n X.1 X.2) ∧ Call pg 459 [src c s, I n] [src c s', I n] (ownS X)
set_option maxRecDepth 10000 in
theorem t_twd {pg : Pg} (hp : pg.fn 459 = some c_spec_l02Twisted) (h336 : S_nxt pg) (h368 : S_drw pg) (h334 : S_unit pg) (h279 : S_then pg 279) (h425 : S_twst pg) : S_twd pg := by
 intro c s n hs h0 hn
 have hfind := Call.findA (α := (Int × Int) × (List (List Int) × List (List Int))) (Q := fun Y => Sr c Y.1 ∧ PMN n Y.2.1 Y.2.2) (args := [src c s, I n]) (args' := fun Y => [src c Y.1, I n]) (r := fun Y => ownS Y.2) hp rfl (by simp [F.lets, c_spec_l02Twisted, List.range, List.range.loop]) (by simp [kindOf]) ?_
 · obtain ⟨Y, h1, h2⟩ := hfind
   exact ⟨_, _, h1, h2⟩
 show wp _ _ c_spec_l02Twisted.body (postX _ _ _ _ _) _
 generalize hR : postX (fun Y : (Int × Int) × (List (List Int) × List (List Int)) => Sr c Y.1 ∧ PMN n Y.2.1 Y.2.2) c_spec_l02Twisted.rs [src c s, I n] (fun Y => [src c Y.1, I n]) (fun Y => ownS Y.2) = R
 obtain ⟨s1, p, ⟨k1, k2, _⟩, hc1⟩ := h368 c s n hs hn
 obtain ⟨s2, r, ⟨k3, k3'⟩, hc2⟩ := h336.at k1 (n := 4) (by omega)
 simp [c_spec_l02Twisted]
 refine callS (ts' := [rawB c, I s1.1, H64 s1.2]) (r := ownL p) (by simpa using hc1) ?_
 simp
 refine callR (h334 n (by omega)) rfl rfl (fun _ => by simp) ?_
 simp
 refine callS (ts' := [rawB c, I s2.1, H64 s2.2]) (r := I r) (by simpa using hc2) ?_
 simp
 refine wpLoop_lower (α := List Int × Nat) (fun z => z.2) (fun z e => (RowIn n z.1 ∧ z.2 ≤ 4) ∧ e = fr [(0, some (.val (src c s2))), (1, some (.val (I n))), (4, some (.val (.mem .own none [nil, nil]))), (5, some (.val (ownL p))), (6, some (.val (ownL z.1))), (7, some (.val (I z.2)))]) ?_ (idL n, r) _ ⟨⟨(idL_rowIn n).1, by simp only; omega⟩, rfl⟩
 rintro ⟨q, j⟩ e ⟨⟨g1, g2⟩, rfl⟩
 simp only at g1 g2
 by_cases hj : 0 < j
 · have hql := g1.1
   have hpl := k2.1
   have hc3 := h279 q p (by omega) (by unfold inN; rw [hpl]; exact g1.2)
   simp [hj]
   refine callR hc3 rfl rfl (fun _ => by simp) ?_
   simp
   exact ⟨by omega, thenL q p, j - 1, by omega, ⟨thenL_rowIn g1 k2, by omega⟩, by
    have : (j : Int) - 1 = ((j - 1 : Nat) : Int) := by omega
    rw [this]⟩
 · obtain rfl : j = 0 := by omega
   obtain ⟨s3, b, ⟨k4, _⟩, hc4⟩ := h336.at k3 (n := 2) (by omega)
   simp
   refine callS (ts' := [rawB c, I s3.1, H64 s3.2]) (r := I b) (by simpa using hc4) ?_
   by_cases hb : b = 0
   · obtain ⟨X, ⟨hX, _⟩, hc5⟩ := h425 n p q h0 hn k2 g1
     simp [hb]
     refine callR hc5 rfl rfl (fun _ => by simp) ?_
     simp
     subst hR
     exact ⟨(s3, X), ⟨k4, hX⟩, by simp [post, c_spec_l02Twisted]⟩
   · obtain ⟨X, ⟨hX, _⟩, hc5⟩ := h425 n q p h0 hn g1 k2
     simp [hb]
     refine callR hc5 rfl rfl (fun _ => by simp) ?_
     simp
     subst hR
     exact ⟨(s3, X), ⟨k4, hX⟩, by simp [post, c_spec_l02Twisted]⟩
end Go.Mch
namespace Go.Mch
abbrev S2 := List (List Int) × List (List Int)
def rw4 : List (List Int) := [[0, 1, 3, 2], [0, 1, 3, 2], [1, 0, 2, 3], [1, 0, 2, 3]]
def rw3 : List (List Int) := [[0, 1, 2], [0, 1, 2], [1, 0, 2]]
theorem rw4_ok : okR2 4 rw4 := by
 refine ⟨⟨rfl, fun r hr => ?_⟩, fun x y hx hy => ?_⟩
 · simp only [rw4, List.mem_cons, List.not_mem_nil, or_false] at hr
   rcases hr with rfl | rfl | rfl | rfl <;> exact ⟨rfl, by decide⟩
 · have : ∀ x < 4, ∀ y < 4, 0 ≤ ixOf (rw4.getD (v2 rw4 x y).toNat []) x := by decide
   exact this x hx y hy
theorem rw3_ok : okR2 3 rw3 := by
 refine ⟨⟨rfl, fun r hr => ?_⟩, fun x y hx hy => ?_⟩
 · simp only [rw3, List.mem_cons, List.not_mem_nil, or_false] at hr
   rcases hr with rfl | rfl | rfl <;> exact ⟨rfl, by decide⟩
 · have : ∀ x < 3, ∀ y < 3, 0 ≤ ixOf (rw3.getD (v2 rw3 x y).toNat []) x := by decide
   exact this x hx y hy
def S_anyM (pg : Pg) (most : Nat) : Prop := ∀ (c : Rw Int) (s : Int × Int), Sr c s → ∃ (s' : Int × Int) (n : Nat) (X : S2), (Sr c s' ∧ 0 < n ∧ n ≤ most ∧ PMN n X.1 X.2) ∧ Call pg 445 [src c s, I most] [src c s', I most] (ownS X)
def S_any (pg : Pg) : Prop := ∀ most : Nat, 0 < most → most ≤ 12 → S_anyM pg most
set_option maxRecDepth 10000 in
theorem t_any {pg : Pg} (hp : pg.fn 445 = some c_spec_l02Any) (h336 : S_nxt pg) (h449 : S_flp pg) (h423 : S_poly pg) (h458 : S_prd pg) (h459 : S_twd pg) (h460 : S_uni pg) (h461 : S_ivl pg) (h406 : S_invW pg) : S_any pg := by
 intro most
 induction most using Nat.strongRecOn with
 | _ most ih =>
 intro m0 m12 c s hs
 have hfind := Call.findA (α := (Int × Int) × Nat × S2) (Q := fun Y => Sr c Y.1 ∧ 0 < Y.2.1 ∧ Y.2.1 ≤ most ∧ PMN Y.2.1 Y.2.2.1 Y.2.2.2) (args := [src c s, I most]) (args' := fun Y => [src c Y.1, I most]) (r := fun Y => ownS Y.2.2) hp rfl (by simp [F.lets, c_spec_l02Any, List.range, List.range.loop]) (by simp [kindOf]) ?_
 · obtain ⟨Y, h1, h2⟩ := hfind
   exact ⟨_, _, _, h1, h2⟩
 show wp _ _ c_spec_l02Any.body (postX _ _ _ _ _) _
 generalize hR : postX (fun Y : (Int × Int) × Nat × S2 => Sr c Y.1 ∧ 0 < Y.2.1 ∧ Y.2.1 ≤ most ∧ PMN Y.2.1 Y.2.2.1 Y.2.2.2) c_spec_l02Any.rs [src c s, I most] (fun Y => [src c Y.1, I most]) (fun Y => ownS Y.2.2) = R
 have hfin : ∀ (s' : Int × Int) (k : Nat) (X : S2), Sr c s' → 0 < k → k ≤ most → PMN k X.1 X.2 → R .ret (fr [(0, some (.val (src c s'))), (1, some (.val (I most))), (4, some (.val (.mem .own none [ownTb X.1, ownTb X.2])))]) := by
  intro s' k X a1 a2 a3 a4
  subst hR
  exact ⟨(s', k, X), ⟨a1, a2, a3, a4⟩, by simp [post, c_spec_l02Any]⟩
 obtain ⟨s1, r1, ⟨k1, k2⟩, hc1⟩ := h336.at hs (n := most) m0
 obtain ⟨s2, kd, ⟨k3, k4⟩, hc2⟩ := h336.at k1 (n := 8) (by omega)
 obtain ⟨n, hn⟩ : ∃ n : Nat, (1 : Int) + r1 = n := ⟨1 + r1, by omega⟩
 have hn0 : 0 < n := by omega
 have hnm : n ≤ most := by omega
 simp [c_spec_l02Any]
 refine callS (ts' := [rawB c, I s1.1, H64 s1.2]) (r := I r1) (by simpa using hc1) ?_
 simp [hn]
 refine ⟨by omega, ?_⟩
 refine callS (ts' := [rawB c, I s2.1, H64 s2.2]) (r := I kd) (by simpa using hc2) ?_
 obtain ⟨sL, XL, ⟨jL1, jL2⟩, hcL⟩ := h459 c s2 n k3 hn0 (by omega)
 simp
 rcases (by omega : kd = 0 ∨ kd = 1 ∨ kd = 2 ∨ kd = 3 ∨ kd = 4 ∨ kd = 5 ∨ kd = 6 ∨ kd = 7) with rfl | rfl | rfl | rfl | rfl | rfl | rfl | rfl
 · obtain ⟨X, ⟨hX, _⟩, hc⟩ := h449 n hn0 (by omega)
   simp
   refine callR hc rfl rfl (fun _ => by simp) ?_
   simp
   exact hfin s2 n X k3 hn0 hnm hX
 · obtain ⟨X, hX, hc⟩ := h423 n hn0 (by omega)
   simp
   refine callR hc rfl rfl (fun _ => by simp) ?_
   simp
   exact hfin s2 n X k3 hn0 hnm hX
 · obtain ⟨q, hq, hq2⟩ : ∃ q : Nat, (n : Int) / 2 = q ∧ q = n / 2 := ⟨n / 2, by omega, rfl⟩
   have e1 : (n : Int).tmod 2 = (n : Int) % 2 := by rw [Int.tmod_eq_emod_of_nonneg (by omega)]
   by_cases h4 : 4 ≤ n
   · have h4' : (4 : Int) ≤ n := by omega
     by_cases hev : (n : Int) % 2 = 0
     · obtain ⟨s3, X, ⟨j1, j2⟩, hc3⟩ := h459 c s2 q k3 (by omega) (by omega)
       obtain ⟨s4, Y, ⟨j3, j4⟩, hc4⟩ := h459 c s3 2 j1 (by omega) (by omega)
       obtain ⟨Z, hZ, hc5⟩ := h458 q 2 X.1 X.2 Y.1 Y.2 (by omega) (by omega) (by omega) j2 j4
       rw [show q * 2 = n by omega] at hZ
       simp [h4', hev, e1, hq]
       refine ⟨by omega, ?_⟩
       refine callS (ts' := [rawB c, I s3.1, H64 s3.2]) (r := ownS X) (by simpa using hc3) ?_
       simp
       refine callS (ts' := [rawB c, I s4.1, H64 s4.2]) (r := ownS Y) (by simpa using hc4) ?_
       simp
       refine callR hc5 rfl rfl (fun _ => by simp) ?_
       simp
       exact hfin s4 n Z j3 hn0 hnm hZ
     · simp [h4', hev, e1]
       refine callS (ts' := [rawB c, I sL.1, H64 sL.2]) (r := ownS XL) (by simpa using hcL) ?_
       simp
       exact hfin sL n XL jL1 hn0 hnm jL2
   · have h4' : ¬ (4 : Int) ≤ n := by omega
     simp [h4', undefV]
     refine callS (ts' := [rawB c, I sL.1, H64 sL.2]) (r := ownS XL) (by simpa using hcL) ?_
     simp
     exact hfin sL n XL jL1 hn0 hnm jL2
 · by_cases h2 : 2 ≤ n
   · have h2' : (2 : Int) ≤ n := by omega
     obtain ⟨n1, hn1⟩ : ∃ n1 : Nat, (n : Int) - 1 = n1 := ⟨n - 1, by omega⟩
     obtain ⟨s3, r3, ⟨j1, j2⟩, hc3⟩ := h336.at k3 (n := n1) (by omega)
     obtain ⟨m, hm⟩ : ∃ m : Nat, (1 : Int) + r3 = m := ⟨1 + r3, by omega⟩
     obtain ⟨d, hd⟩ : ∃ d : Nat, (n : Int) - m = d := ⟨n - m, by omega⟩
     obtain ⟨s4, k, X, ⟨j3, j4, j5, j6⟩, hc4⟩ := ih m (by omega) (by omega) (by omega) c s3 j1
     obtain ⟨s5, Y, ⟨j7, j8⟩, hc5⟩ := h459 c s4 d j3 (by omega) (by omega)
     obtain ⟨Z, hZ, hc6⟩ := h460 k d X.1 X.2 Y.1 Y.2 j4 (by omega) (by omega) j6 j8
     simp [h2', hn1]
     refine ⟨by omega, ?_⟩
     refine callS (ts' := [rawB c, I s3.1, H64 s3.2]) (r := I r3) (by simpa using hc3) ?_
     simp [hm]
     refine ⟨by omega, ?_⟩
     refine callS (ts' := [rawB c, I s4.1, H64 s4.2]) (r := ownS X) (by simpa using hc4) ?_
     simp [hd]
     refine ⟨by omega, ?_⟩
     refine callS (ts' := [rawB c, I s5.1, H64 s5.2]) (r := ownS Y) (by simpa using hc5) ?_
     simp
     refine callR hc6 rfl rfl (fun _ => by simp) ?_
     simp
     exact hfin s5 (k + d) Z j7 (by omega) (by omega) hZ
   · have h2' : ¬ (2 : Int) ≤ n := by omega
     simp [h2']
     refine callS (ts' := [rawB c, I sL.1, H64 sL.2]) (r := ownS XL) (by simpa using hcL) ?_
     simp
     exact hfin sL n XL jL1 hn0 hnm jL2
 · by_cases h4 : 4 ≤ most
   · have h4' : (4 : Int) ≤ most := by omega
     obtain ⟨Z, hZ, hc6⟩ := h461 4 rw4 (by omega) (by omega) rw4_ok
     simp [h4']
     refine callR hc6 rfl rfl (fun _ => by simp) ?_
     simp
     exact hfin s2 4 Z k3 (by omega) (by omega) hZ
   · have h4' : ¬ (4 : Int) ≤ most := by omega
     simp [h4']
     refine callS (ts' := [rawB c, I sL.1, H64 sL.2]) (r := ownS XL) (by simpa using hcL) ?_
     simp
     exact hfin sL n XL jL1 hn0 hnm jL2
 · by_cases h2 : 2 ≤ n
   · have h2' : (2 : Int) ≤ n := by omega
     obtain ⟨X, hX, hc⟩ := h423 n hn0 (by omega)
     obtain ⟨Z, hZ, hc6⟩ := h406 n X.1 X.2 hn0 (by omega) hX
     simp [h2']
     refine callR hc rfl rfl (fun _ => by simp) ?_
     simp
     refine callR hc6 rfl rfl (fun _ => by simp) ?_
     simp
     exact hfin s2 n Z k3 hn0 hnm hZ
   · have h2' : ¬ (2 : Int) ≤ n := by omega
     simp [h2']
     refine callS (ts' := [rawB c, I sL.1, H64 sL.2]) (r := ownS XL) (by simpa using hcL) ?_
     simp
     exact hfin sL n XL jL1 hn0 hnm jL2
 · by_cases h4 : 3 ≤ most
   · have h4' : (3 : Int) ≤ most := by omega
     obtain ⟨Z, hZ, hc6⟩ := h461 3 rw3 (by omega) (by omega) rw3_ok
     simp [h4']
     refine callR hc6 rfl rfl (fun _ => by simp) ?_
     simp
     exact hfin s2 3 Z k3 (by omega) (by omega) hZ
   · have h4' : ¬ (3 : Int) ≤ most := by omega
     simp [h4']
     refine callS (ts' := [rawB c, I sL.1, H64 sL.2]) (r := ownS XL) (by simpa using hcL) ?_
     simp
     exact hfin sL n XL jL1 hn0 hnm jL2
 · simp
   refine callS (ts' := [rawB c, I sL.1, H64 sL.2]) (r := ownS XL) (by simpa using hcL) ?_
   simp
   exact hfin sL n XL jL1 hn0 hnm jL2
end Go.Mch
namespace Go.Mch
theorem TabN.tab {n : Nat} {t : List (List Int)} (h : TabN n t) : Tab t := fun r hr => ⟨by rw [(h.2 r hr).1, h.1], fun v hv => by rw [h.1]; exact (h.2 r hr).2 v hv⟩
theorem pm_of {n : Nat} {p : List Int} (h : RowIn n p) (hd : p.Nodup) (h0 : 0 < n) (h12 : n ≤ 12) : Pm p := by
 have hl := h.1
 exact ⟨⟨fun x hx => by rw [hl]; exact h.2 x hx, hd⟩, by omega, by omega⟩
def S_dr2 (pg : Pg) : Prop := ∀ (c : Rw Int) (s : Int × Int) (most : Nat), Sr c s → 0 < most → most ≤ 12 → ∃ (s' : Int × Int) (n : Nat) (X : S2), (Sr c s' ∧ 0 < n ∧ n ≤ most ∧ PMN n X.1 X.2) ∧ Call pg 412 [src c s, I most] [src c s', I most] (ownS X)
set_option maxRecDepth 10000 in
theorem t_dr2 {pg : Pg} (hp : pg.fn 412 = some c_spec_l02Draw) (h336 : S_nxt pg) (h445 : S_any pg) (h368 : S_drw pg) (h422 : S_renS pg) : S_dr2 pg := by
 intro c s most hs m0 m12
 have hfind := Call.findA (α := (Int × Int) × Nat × S2) (Q := fun Y => Sr c Y.1 ∧ 0 < Y.2.1 ∧ Y.2.1 ≤ most ∧ PMN Y.2.1 Y.2.2.1 Y.2.2.2) (args := [src c s, I most]) (args' := fun Y => [src c Y.1, I most]) (r := fun Y => ownS Y.2.2) hp rfl (by simp [F.lets, c_spec_l02Draw, List.range, List.range.loop]) (by simp [kindOf]) ?_
 · obtain ⟨Y, h1, h2⟩ := hfind
   exact ⟨_, _, _, h1, h2⟩
 show wp _ _ c_spec_l02Draw.body (postX _ _ _ _ _) _
 generalize hR : postX (fun Y : (Int × Int) × Nat × S2 => Sr c Y.1 ∧ 0 < Y.2.1 ∧ Y.2.1 ≤ most ∧ PMN Y.2.1 Y.2.2.1 Y.2.2.2) c_spec_l02Draw.rs [src c s, I most] (fun Y => [src c Y.1, I most]) (fun Y => ownS Y.2.2) = R
 have hfin : ∀ (s' : Int × Int) (k : Nat) (X : S2), Sr c s' → 0 < k → k ≤ most → PMN k X.1 X.2 → R .ret (fr [(0, some (.val (src c s'))), (1, some (.val (I most))), (4, some (.val (.mem .own none [ownTb X.1, ownTb X.2])))]) := by
  intro s' k X a1 a2 a3 a4
  subst hR
  exact ⟨(s', k, X), ⟨a1, a2, a3, a4⟩, by simp [post, c_spec_l02Draw]⟩
 obtain ⟨s1, n, X, ⟨k1, k2, k3, k4⟩, hc1⟩ := h445 most m0 m12 c s hs
 obtain ⟨s2, r, ⟨k5, _⟩, hc2⟩ := h336.at k1 (n := 4) (by omega)
 obtain ⟨s3, p, ⟨k6, k7, k8⟩, hc3⟩ := h368 c s2 n k5 (by omega)
 have hpm := pm_of k7 k8 k2 (by omega)
 have hl1 := k4.1.1
 have hc4 := h422 X.1 X.2 p k4.1.tab k4.2.tab hpm (by rw [k7.1, k4.1.1]) (by rw [k7.1, k4.2.1])
 simp [c_spec_l02Draw]
 refine callS (ts' := [rawB c, I s1.1, H64 s1.2]) (r := ownS X) (by simpa using hc1) ?_
 simp
 refine callS (ts' := [rawB c, I s2.1, H64 s2.2]) (r := I r) (by simpa using hc2) ?_
 by_cases hr : 0 < r
 · have hl2 := k4.2.1
   simp [hr, hl1, hl2]
   refine callS (ts' := [rawB c, I s3.1, H64 s3.2]) (r := ownL p) (by simpa using hc3) ?_
   simp [hl1, hl2]
   refine callR hc4 rfl rfl (fun _ => by simp) ?_
   simp
   exact hfin s3 n (imT X.1 p, imT X.2 p) k6 k2 k3 ⟨imT_tabN k4.1 hpm k7.1, imT_tabN k4.2 hpm k7.1⟩
 · simp [hr]
   exact hfin s2 n X k5 k2 k3 k4
theorem rows_set1 (t : List (List Int)) (i : Nat) (r : List Int) : (rows t).set i (ownL r) = rows (t.set i r) := by simp [rows, List.map_set]
def Bd (t : List (List Int)) : Prop := t.length ≤ 20 ∧ ∀ r ∈ t, r.length ≤ 20
theorem TabN.bd {n : Nat} {t : List (List Int)} (h : TabN n t) (hn : n ≤ 20) : Bd t := ⟨by rw [h.1]; exact hn, fun r hr => by rw [(h.2 r hr).1]; exact hn⟩
theorem Bd.set {t : List (List Int)} (h : Bd t) {i : Nat} {r : List Int} (hr : r.length ≤ 20) : Bd (t.set i r) := ⟨by simpa using h.1, fun x hx => by
 rcases List.mem_or_eq_of_mem_set hx with h1 | h1
 · exact h.2 x h1
 · rw [h1]; exact hr⟩
def S_bad (pg : Pg) : Prop := ∀ (c : Rw Int) (s : Int × Int) (n : Nat), Sr c s → 0 < n → n ≤ 12 → ∃ (s' : Int × Int) (t : List (List Int)), (Sr c s' ∧ Bd t) ∧ Call pg 413 [src c s, I n] [src c s', I n] (ownTb t)
set_option maxRecDepth 10000 in
theorem t_bad {pg : Pg} (hp : pg.fn 413 = some c_spec_l01Bad) (h336 : S_nxt pg) (h428 : S_tbs pg) (h334 : S_unit pg) (h292 : S_pick pg) : S_bad pg := by
 intro c s n hs n0 n12
 have hfind := Call.findA (α := (Int × Int) × List (List Int)) (Q := fun Y => Sr c Y.1 ∧ Bd Y.2) (args := [src c s, I n]) (args' := fun Y => [src c Y.1, I n]) (r := fun Y => ownTb Y.2) hp rfl (by simp [F.lets, c_spec_l01Bad, List.range, List.range.loop]) (by simp [kindOf]) ?_
 · obtain ⟨Y, h1, h2⟩ := hfind
   exact ⟨_, _, h1, h2⟩
 show wp _ _ c_spec_l01Bad.body (postX _ _ _ _ _) _
 generalize hR : postX (fun Y : (Int × Int) × List (List Int) => Sr c Y.1 ∧ Bd Y.2) c_spec_l01Bad.rs [src c s, I n] (fun Y => [src c Y.1, I n]) (fun Y => ownTb Y.2) = R
 have hfin : ∀ (s' : Int × Int) (t : List (List Int)), Sr c s' → Bd t → R .ret (fr [(0, some (.val (src c s'))), (1, some (.val (I n))), (4, some (.val (ownTb t)))]) := by
  intro s' X a1 a2
  subst hR
  exact ⟨(s', X), ⟨a1, a2⟩, by simp [post, c_spec_l01Bad]⟩
 obtain ⟨s1, t, ⟨k1, k2⟩, hc1⟩ := h428 c s n hs n0 (by omega)
 obtain ⟨s2, kd, ⟨k3, k3'⟩, hc2⟩ := h336.at k1 (n := 30) (by omega)
 have hbd := k2.bd (by omega)
 have htl := k2.1
 have ht0 : 0 < t.length := by omega
 have hrow0 := (k2.2 _ (List.getElem_mem ht0)).1
 have hg : (rows t)[0]? = some (ownL t[0]) := by rw [rows_get, List.getElem?_eq_getElem ht0]; rfl
 simp [c_spec_l01Bad]
 refine callS (ts' := [rawB c, I s1.1, H64 s1.2]) (r := ownTb t) (by simpa using hc1) ?_
 simp
 refine callS (ts' := [rawB c, I s2.1, H64 s2.2]) (r := I kd) (by simpa using hc2) ?_
 simp
 rcases (by omega : kd = 0 ∨ kd = 1 ∨ kd = 2 ∨ kd = 3 ∨ kd = 4 ∨ 5 ≤ kd) with rfl | rfl | rfl | rfl | rfl | hk
 · simp
   refine callR (h334 n (by omega)) rfl rfl (fun _ => by simp) ?_
   simp
   have := hfin s2 (t ++ [idL n]) k3 ⟨by simp; omega, fun r hr => by
    rcases List.mem_append.1 hr with h1 | h1
    · exact hbd.2 r h1
    · rw [List.mem_singleton.1 h1]; simp [idL]; omega⟩
   exact ⟨by unfold roomy; omega, by simpa only [ownTb, rows_snoc] using this⟩
 · simp [ht0]
   have := hfin s2 (t.set 0 (t[0] ++ [0])) k3 (hbd.set (by simp; omega))
   exact ⟨by unfold roomy; omega, by omega, by simpa only [ownTb, ← rows_set1, ownL, List.map_append, List.map_cons, List.map_nil] using this⟩
 · obtain ⟨s3, z, ⟨j1, _⟩, hc3⟩ := h292 c s2 [-1, n, 1099511627776] k3 (by simp) (by simp)
   simp [ht0]
   simp only [ix, List.map_cons, List.map_nil] at hc3
   refine callS (ts' := [rawB c, I s3.1, H64 s3.2]) (r := I z) (by simpa using hc3) ?_
   have ht00 : 0 < t[0].length := by omega
   simp [ht0, ht00]
   have := hfin s3 (t.set 0 (t[0].set 0 z)) j1 (hbd.set (by simp; omega))
   exact ⟨by omega, by simpa only [ownTb, ← rows_set1, ownL, List.map_set] using this⟩
 · simp
   exact hfin s2 [] k3 ⟨by simp, by simp⟩
 · obtain ⟨s3, t', ⟨j1, j2⟩, hc3⟩ := h428 c s2 13 k3 (by omega) (by omega)
   simp
   refine callS (ts' := [rawB c, I s3.1, H64 s3.2]) (r := ownTb t') (by simpa using hc3) ?_
   simp
   exact hfin s3 t' j1 (j2.bd (by omega))
 · have h1 : ¬ kd = 0 := by omega
   have h2 : ¬ (kd : Int) = 1 := by omega
   have h3 : ¬ (kd : Int) = 2 := by omega
   have h4 : ¬ (kd : Int) = 3 := by omega
   have h5 : ¬ (kd : Int) = 4 := by omega
   simp [h1, h2, h3, h4, h5]
   exact hfin s2 t k3 hbd
def S_spl (pg : Pg) (f : Nat) : Prop := ∀ (c : Rw Int) (s : Int × Int) (most : Nat), Sr c s → 0 < most → most ≤ 12 → ∃ (s' : Int × Int) (X : S2), (Sr c s' ∧ Bd X.1 ∧ Bd X.2) ∧ Call pg f [src c s, I most] [src c s', I most] (ownS X)
set_option maxRecDepth 10000 in
theorem t_spl {pg : Pg} (hp : pg.fn 379 = some c_spec_l02Spoil) (h336 : S_nxt pg) (h412 : S_dr2 pg) (h368 : S_drw pg) (h428 : S_tbs pg) (h413 : S_bad pg) : S_spl pg 379 := by
 intro c s most hs m0 m12
 have hfind := Call.findA (α := (Int × Int) × S2) (Q := fun Y => Sr c Y.1 ∧ Bd Y.2.1 ∧ Bd Y.2.2) (args := [src c s, I most]) (args' := fun Y => [src c Y.1, I most]) (r := fun Y => ownS Y.2) hp rfl (by simp [F.lets, c_spec_l02Spoil, List.range, List.range.loop]) (by simp [kindOf]) ?_
 · obtain ⟨Y, h1, h2⟩ := hfind
   exact ⟨_, _, h1, h2⟩
 show wp _ _ c_spec_l02Spoil.body (postX _ _ _ _ _) _
 generalize hR : postX (fun Y : (Int × Int) × S2 => Sr c Y.1 ∧ Bd Y.2.1 ∧ Bd Y.2.2) c_spec_l02Spoil.rs [src c s, I most] (fun Y => [src c Y.1, I most]) (fun Y => ownS Y.2) = R
 have hfin : ∀ (s' : Int × Int) (X : S2), Sr c s' → Bd X.1 → Bd X.2 → R .ret (fr [(0, some (.val (src c s'))), (1, some (.val (I most))), (4, some (.val (.mem .own none [ownTb X.1, ownTb X.2])))]) := by
  intro s' X a1 a2 a3
  subst hR
  exact ⟨(s', X), ⟨a1, a2, a3⟩, by simp [post, c_spec_l02Spoil]⟩
 obtain ⟨s1, n, X, ⟨k1, n0, nm, hX⟩, hc1⟩ := h412 c s most hs m0 m12
 obtain ⟨s2, kd, ⟨k3, k3'⟩, hc2⟩ := h336.at k1 (n := 24) (by omega)
 have hb1 := hX.1.bd (by omega)
 have hb2 := hX.2.bd (by omega)
 have hl1 := hX.1.1
 have hl2 := hX.2.1
 simp [c_spec_l02Spoil]
 refine callS (ts' := [rawB c, I s1.1, H64 s1.2]) (r := ownS X) (by simpa using hc1) ?_
 simp [hl1]
 refine callS (ts' := [rawB c, I s2.1, H64 s2.2]) (r := I kd) (by simpa using hc2) ?_
 simp
 rcases (by omega : kd = 0 ∨ kd = 1 ∨ kd = 2 ∨ kd = 3 ∨ kd = 4 ∨ 5 ≤ kd) with rfl | rfl | rfl | rfl | rfl | hk
 · obtain ⟨s3, a, ⟨j1, j2⟩, hc3⟩ := h336.at k3 (n := n) n0
   obtain ⟨s4, p, ⟨j3, j4, _⟩, hc4⟩ := h368 c s3 n j1 (by omega)
   simp [hl1]
   refine callS (ts' := [rawB c, I s3.1, H64 s3.2]) (r := I a) (by simpa using hc3) ?_
   simp
   refine callS (ts' := [rawB c, I s4.1, H64 s4.2]) (r := ownL p) (by simpa using hc4) ?_
   simp [hl1, j2]
   have := hfin s4 (X.1.set a p, X.2) j3 (hb1.set (by rw [j4.1]; omega)) hb2
   exact ⟨by omega, by simpa only [ownTb, ← rows_set1, ownL] using this⟩
 · obtain ⟨s3, a, ⟨j1, j2⟩, hc3⟩ := h336.at k3 (n := n) n0
   obtain ⟨s4, b, ⟨j3, j4⟩, hc4⟩ := h336.at j1 (n := n) n0
   obtain ⟨s5, z, ⟨j5, j6⟩, hc5⟩ := h336.at j3 (n := n) n0
   have ha : a < X.2.length := by omega
   have hrow := (hX.2.2 _ (List.getElem_mem ha)).1
   have hg : (rows X.2)[a]? = some (ownL X.2[a]) := by rw [rows_get, List.getElem?_eq_getElem ha]; rfl
   simp [hl2]
   refine callS (ts' := [rawB c, I s3.1, H64 s3.2]) (r := I a) (by simpa using hc3) ?_
   simp [hl2, j2, hrow]
   refine callS (ts' := [rawB c, I s4.1, H64 s4.2]) (r := I b) (by simpa using hc4) ?_
   simp
   refine callS (ts' := [rawB c, I s5.1, H64 s5.2]) (r := I z) (by simpa using hc5) ?_
   simp [hl2, j2, j4, hrow]
   have := hfin s5 (X.1, X.2.set a (X.2[a].set b z)) j5 hb1 (hb2.set (by rw [List.length_set, hrow]; omega))
   exact ⟨by omega, by simpa only [ownTb, ← rows_set1, ownL, List.map_set] using this⟩
 · obtain ⟨s3, f, ⟨j1, j2⟩, hc3⟩ := h428 c s2 n k3 n0 (by omega)
   obtain ⟨s4, g, ⟨j3, j4⟩, hc4⟩ := h428 c s3 n j1 n0 (by omega)
   simp
   refine callS (ts' := [rawB c, I s3.1, H64 s3.2]) (r := ownTb f) (by simpa using hc3) ?_
   simp
   refine callS (ts' := [rawB c, I s4.1, H64 s4.2]) (r := ownTb g) (by simpa using hc4) ?_
   simp
   exact hfin s4 (f, g) j3 (j2.bd (by omega)) (j4.bd (by omega))
 · obtain ⟨s3, t', ⟨j1, j2⟩, hc3⟩ := h413 c s2 n k3 n0 (by omega)
   simp
   refine callS (ts' := [rawB c, I s3.1, H64 s3.2]) (r := ownTb t') (by simpa using hc3) ?_
   simp
   exact hfin s3 (X.1, t') j1 hb1 j2
 · obtain ⟨s3, t', ⟨j1, j2⟩, hc3⟩ := h413 c s2 n k3 n0 (by omega)
   simp
   refine callS (ts' := [rawB c, I s3.1, H64 s3.2]) (r := ownTb t') (by simpa using hc3) ?_
   simp
   exact hfin s3 (t', X.2) j1 j2 hb2
 · have h1 : ¬ kd = 0 := by omega
   have h2 : ¬ (kd : Int) = 1 := by omega
   have h3 : ¬ (kd : Int) = 2 := by omega
   have h4 : ¬ (kd : Int) = 3 := by omega
   have h5 : ¬ (kd : Int) = 4 := by omega
   simp [h1, h2, h3, h4, h5]
   exact hfin s2 X k3 hb1 hb2
end Go.Mch
namespace Go.Mch
def CY (n : Nat) (t : List (List Int)) : Prop := TabN n t ∧ ∀ r ∈ t, r.Nodup
abbrev cyT (t : List (List Int)) : T := .agg [tb t]
abbrev ownC (t : List (List Int)) : T := .agg [ownTb t]
theorem CY.has {n : Nat} {t : List (List Int)} (h : CY n t) (h0 : 0 < n) (h12 : n ≤ 12) {x y : Nat} (hx : x < n) (hy : y < n) : ∃ (h1 : x < t.length), 0 ≤ ixOf t[x] y ∧ ixOf t[x] y < n := by
 have h1 : x < t.length := by rw [h.1.1]; exact hx
 have h2 := h.1.2 _ (List.getElem_mem h1)
 have hp := pm_of h2 (h.2 _ (List.getElem_mem h1)) h0 h12
 have := hp.mem (x := y) (by rw [h2.1]; exact hy)
 have h3 := ixOf_le t[x] y
 rw [h2.1] at h3
 exact ⟨h1, (ixOf_mem _ _).2 this, h3.2⟩
theorem invL_ok {p : List Int} (h : Pm p) : RowIn p.length (invL p) ∧ (invL p).Nodup := by
 refine ⟨⟨invL_length p, fun v hv => ?_⟩, ?_⟩
 · obtain ⟨i, hi, rfl⟩ := List.getElem_of_mem hv
   have hil : i < p.length := by simpa using hi
   have := h.lt hil
   rw [invL_get hi]
   omega
 · rw [List.nodup_iff_pairwise_ne, List.pairwise_iff_getElem]
   intro i j hi hj hij he
   have hil : i < p.length := by simpa using hi
   have hjl : j < p.length := by simpa using hj
   rw [invL_get hi, invL_get hj] at he
   have h1 := h.at hil
   have h2 := h.at hjl
   have he' : invQ p i = invQ p j := by omega
   rw [he'] at h1
   rw [h1] at h2
   omega
def S_aff (pg : Pg) : Prop := ∀ n a b c : Nat, 0 < n → n ≤ 64 → a ≤ 64 → b ≤ 64 → c ≤ 64 → ∃ t : List (List Int), TabN n t ∧ Call pg 424 [I n, I a, I b, I c] [I n, I a, I b, I c] (ownC t)
set_option maxRecDepth 10000 in
theorem t_aff {pg : Pg} (hp : pg.fn 424 = some c_spec_l05Affine) : S_aff pg := by
 intro n a b c h0 hn ha hb hc
 refine Call.find hp rfl (by simp) ?_
 show wp _ _ c_spec_l05Affine.body _ _
 generalize hR : (fun (x : X) (e : Env) => ∃ l : List (List Int), TabN n l ∧ post c_spec_l05Affine.rs [I n, I a, I b, I c] [I n, I a, I b, I c] (ownC l) x e) = R
 simp [c_spec_l05Affine]
 refine wpLoop_count (fun k e => ∃ s : List (List Int), (s.length = k ∧ ∀ r ∈ s, RowIn n r) ∧ e = fr [(0, some (.val (I n))), (1, some (.val (I a))), (2, some (.val (I b))), (3, some (.val (I c))), (8, some (.val (.mem .own none [nil]))), (9, some (.val (.mem .own none [ownN2 s]))), (10, some (.val (I k)))]) n ?_ ?_ 0 _ (by omega) ⟨[], ⟨rfl, by simp⟩, rfl⟩
 · rintro k e hk ⟨s, ⟨g3, g4⟩, rfl⟩
   simp [hk]
   refine wpLoop_count (fun j e => ∃ q : List Int, (q.length = j ∧ ∀ v ∈ q, 0 ≤ v ∧ v < n) ∧ e = fr [(0, some (.val (I n))), (1, some (.val (I a))), (2, some (.val (I b))), (3, some (.val (I c))), (8, some (.val (.mem .own none [nil]))), (9, some (.val (.mem .own none [ownN2 s]))), (10, some (.val (I k))), (11, some (.val (ownL q))), (12, some (.val (I j)))]) n ?_ ?_ 0 _ (by omega) ⟨[], ⟨rfl, by simp⟩, rfl⟩
   · rintro j e hj ⟨q, ⟨i3, i4⟩, rfl⟩
     obtain ⟨u, hu, hu2⟩ : ∃ u : Nat, (a : Int) * k = u ∧ u ≤ 4096 := ⟨a * k, by simp, Nat.mul_le_mul ha (by omega : k ≤ 64)⟩
     obtain ⟨v, hv, hv2⟩ : ∃ v : Nat, (b : Int) * j = v ∧ v ≤ 4096 := ⟨b * j, by simp, Nat.mul_le_mul hb (by omega : j ≤ 64)⟩
     obtain ⟨m, hm, hm2⟩ : ∃ m : Nat, ((u : Int) + v + c).tmod n = m ∧ m < n := ⟨(u + v + c) % n, by rw [Int.tmod_eq_emod_of_nonneg (by omega), Int.natCast_emod]; simp, Nat.mod_lt _ h0⟩
     have hn0 : ¬ n = 0 := by omega
     simp [hj, hu, hv, hm, hn0]
     exact ⟨by omega, by omega, by omega, by omega, by unfold roomy; omega, by omega, q ++ [(m : Int)], ⟨by simp [i3], snoc_in i4 (by omega)⟩, by simp only [ownL, List.map_append, List.map_cons, List.map_nil]⟩
   · rintro e ⟨q, ⟨i3, i4⟩, rfl⟩
     by_cases hk0 : k = 0
     · subst hk0
       obtain rfl : s = [] := List.length_eq_zero_iff.1 g3
       simp
       exact ⟨by unfold roomy; omega, [q], ⟨rfl, one_row ⟨i3, i4⟩⟩, rfl⟩
     · rw [ownN2_ne g3 (by omega)]
       simp
       exact ⟨by unfold roomy; omega, by omega, s ++ [q], TabN.snoc ⟨g3, g4⟩ ⟨i3, i4⟩, by simp only [ownN2_snoc]⟩
 · rintro e ⟨s, ⟨g3, g4⟩, rfl⟩
   rw [ownN2_ne g3 h0]
   simp
   subst hR
   exact ⟨s, ⟨g3, g4⟩, by simp [post, c_spec_l05Affine]⟩
def S_sqs (pg : Pg) : Prop := ∀ (n : Nat) (t : List (List Int)), n ≤ 64 → TabN n t → ∃ q : List Int, q.length = n ∧ Call pg 417 [tb t] [tb t] (ownL q)
set_option maxRecDepth 10000 in
theorem t_sqs {pg : Pg} (hp : pg.fn 417 = some c_spec_l05Squares) : S_sqs pg := by
 intro n t hn ht
 have htl := ht.1
 refine Call.find hp rfl (by simp) ?_
 show wp _ _ c_spec_l05Squares.body _ _
 generalize hR : (fun (x : X) (e : Env) => ∃ l : List Int, l.length = n ∧ post c_spec_l05Squares.rs [tb t] [tb t] (ownL l) x e) = R
 simp [c_spec_l05Squares]
 refine wpLoop_count (fun k e => ∃ q : List Int, q.length = k ∧ e = fr [(0, some (.val (tb t))), (3, some (.val (ownL q))), (4, some (.val (I k)))]) n ?_ ?_ 0 _ (by omega) ⟨[], rfl, rfl⟩
 · rintro k e hk ⟨q, g1, rfl⟩
   obtain ⟨u1, u2, u3, u4, u5⟩ := ht.at hk hk
   simp [hk, htl, u3]
   exact ⟨by unfold roomy; omega, by omega, q ++ [t[k][k]], by simp [g1], by simp only [ownL, List.map_append, List.map_cons, List.map_nil]⟩
 · rintro e ⟨q, g1, rfl⟩
   simp [htl]
   subst hR
   exact ⟨q, g1, by simp [post, c_spec_l05Squares]⟩
def S_flt (pg : Pg) : Prop := ∀ (n : Nat) (t : List (List Int)), n ≤ 64 → TabN n t → ∃ q : List Int, q.length ≤ 3 ∧ Call pg 418 [tb t] [tb t] (ownL q)
set_option maxRecDepth 10000 in
theorem t_flt {pg : Pg} (hp : pg.fn 418 = some c_spec_l05Fault) : S_flt pg := by
 intro n t hn ht
 have htl := ht.1
 refine Call.find hp rfl (by simp) ?_
 show wp _ _ c_spec_l05Fault.body _ _
 generalize hR : (fun (x : X) (e : Env) => ∃ l : List Int, l.length ≤ 3 ∧ post c_spec_l05Fault.rs [tb t] [tb t] (ownL l) x e) = R
 simp [c_spec_l05Fault, htl]
 refine wpLoop_count (fun x e => e = fr [(0, some (.val (tb t))), (3, some (.val (I n))), (4, some (.val (I x)))]) n ?_ ?_ 0 _ (by omega) rfl
 · rintro x e hx rfl
   simp [hx]
   refine wpLoop_count (fun y e => e = fr [(0, some (.val (tb t))), (3, some (.val (I n))), (4, some (.val (I x))), (5, some (.val (I y)))]) n ?_ ?_ 0 _ (by omega) rfl
   · rintro y e hy rfl
     simp [hy]
     refine wpLoop_count (fun z e => e = fr [(0, some (.val (tb t))), (3, some (.val (I n))), (4, some (.val (I x))), (5, some (.val (I y))), (6, some (.val (I z)))]) n ?_ ?_ 0 _ (by omega) rfl
     · rintro z e hz rfl
       obtain ⟨a1, a2, a3, a4, a5⟩ := ht.at hx hy
       obtain ⟨b1, b2, b3, b4, b5⟩ := ht.at hx hz
       obtain ⟨c1, c2, c3, c4, c5⟩ := ht.at hy hx
       obtain ⟨d1, d2, d3, d4, d5⟩ := ht.at hy hz
       obtain ⟨A, hA⟩ : ∃ A : Nat, t[x][y] = A := ⟨(t[x][y]).toNat, by omega⟩
       obtain ⟨B, hB⟩ : ∃ A : Nat, t[x][z] = A := ⟨(t[x][z]).toNat, by omega⟩
       obtain ⟨C, hC⟩ : ∃ A : Nat, t[y][x] = A := ⟨(t[y][x]).toNat, by omega⟩
       obtain ⟨D, hD⟩ : ∃ A : Nat, t[y][z] = A := ⟨(t[y][z]).toNat, by omega⟩
       rw [hA] at a4 a5
       rw [hB] at b4 b5
       rw [hC] at c4 c5
       rw [hD] at d4 d5
       have hAn : A < n := by omega
       have hBn : B < n := by omega
       have hCn : C < n := by omega
       have hDn : D < n := by omega
       obtain ⟨m1, m2, m3, m4, m5⟩ := ht.at hAn hBn
       obtain ⟨n1, n2, n3, n4, n5⟩ := ht.at hCn hDn
       by_cases he : t[A][B] = t[C][D]
       · simp [hz, hx, hy, htl, a3, c3, hA, hB, hC, hD, hAn, hBn, hCn, hDn, m3, n3, he]
         omega
       · simp [hz, hx, hy, htl, a3, c3, hA, hB, hC, hD, hAn, hBn, hCn, hDn, m3, n3, he]
         subst hR
         exact ⟨[(x : Int), y, z], by simp, by simp [post, c_spec_l05Fault]⟩
     · rintro e rfl
       simp
       omega
   · rintro e rfl
     simp
     omega
 · rintro e rfl
   simp
   subst hR
   exact ⟨[], by simp, by simp [post, c_spec_l05Fault]⟩
end Go.Mch
namespace Go.Mch
def S_cyI (pg : Pg) : Prop := ∀ (n : Nat) (t : List (List Int)), 0 < n → n ≤ 12 → TabN n t → ∃ b : Bool, (b = true → ∀ r ∈ t, r.Nodup) ∧ Call pg 363 [cyT t] [cyT t] (B b)
set_option maxRecDepth 10000 in
theorem t_cyI {pg : Pg} (hp : pg.fn 363 = some c_spec_l05Is) (h46 : S_table pg 46) (h410 : S_l01Rows pg) (h417 : S_sqs pg) (h47 : S_perm pg 47) (h418 : S_flt pg) : S_cyI pg := by
 intro n t h0 hn ht
 have htl := ht.1
 have hT := ht.tab
 have hc1 := h46 t (by omega) (fun r hr => by have := (ht.2 r hr).1; omega)
 have hist : isTable t := ⟨by omega, by omega, hT⟩
 have hc2 := h410 t hT (by omega) (by omega)
 obtain ⟨q, q1, hc3⟩ := h417 n t (by omega) ht
 have hc4 := h47 q (by omega)
 obtain ⟨w, w1, hc5⟩ := h418 n t (by omega) ht
 have hw1 : w.length ≤ 1048576 := by omega
 simp only [hist, decide_true] at hc1
 by_cases hr : permRows t
 · simp only [hr, decide_true] at hc2
   by_cases hq : isPerm q
   · simp only [hq, decide_true] at hc4
     refine ⟨decide (w.length = 0), fun _ r hr' => (hr r hr').2, Call.intro hp rfl (by simp) ?_⟩
     show wp _ _ c_spec_l05Is.body (post _ _ _ _) _
     simp [c_spec_l05Is]
     refine callR hc1 rfl rfl (fun _ => rfl) ?_
     simp
     refine callR hc2 rfl rfl (fun _ => rfl) ?_
     simp
     refine callR hc3 rfl rfl (fun _ => by simp) ?_
     simp
     refine callR hc4 rfl rfl (fun _ => rfl) ?_
     simp
     refine callR hc5 rfl rfl (fun _ => by simp) ?_
     simp
   · simp only [hq, decide_false] at hc4
     refine ⟨false, by simp, Call.intro hp rfl (by simp) ?_⟩
     show wp _ _ c_spec_l05Is.body (post _ _ _ _) _
     simp [c_spec_l05Is]
     refine callR hc1 rfl rfl (fun _ => rfl) ?_
     simp
     refine callR hc2 rfl rfl (fun _ => rfl) ?_
     simp
     refine callR hc3 rfl rfl (fun _ => by simp) ?_
     simp
     refine callR hc4 rfl rfl (fun _ => rfl) ?_
     simp [undefV]
 · simp only [hr, decide_false] at hc2
   refine ⟨false, by simp, Call.intro hp rfl (by simp) ?_⟩
   show wp _ _ c_spec_l05Is.body (post _ _ _ _) _
   simp [c_spec_l05Is]
   refine callR hc1 rfl rfl (fun _ => rfl) ?_
   simp
   refine callR hc2 rfl rfl (fun _ => rfl) ?_
   simp [undefV]
def S_cyc (pg : Pg) : Prop := ∀ (n : Nat) (f s : List (List Int)), 0 < n → n ≤ 12 → CY n f → fits s → ∃ t : List (List Int), CY n t ∧ Call pg 364 [sol f s] [sol f s] (ownC t)
set_option maxRecDepth 10000 in
theorem t_cyc {pg : Pg} (hp : pg.fn 364 = some c_spec_l05Cycle) (h304 : S_inv pg 304) : S_cyc pg := by
 intro n f s h0 hn hf hs
 have hfl := hf.1.1
 refine Call.find hp rfl (by simp) ?_
 show wp _ _ c_spec_l05Cycle.body _ _
 generalize hR : (fun (x : X) (e : Env) => ∃ l : List (List Int), CY n l ∧ post c_spec_l05Cycle.rs [sol f s] [sol f s] (ownC l) x e) = R
 simp [c_spec_l05Cycle]
 refine wpLoop_count (fun k e => ∃ t : List (List Int), ((t.length = k ∧ ∀ r ∈ t, RowIn n r) ∧ ∀ r ∈ t, r.Nodup) ∧ e = fr [(1, some (.val (.mem .own none [tb f, tb s]))), (2, some (.val (.mem .own none [nil]))), (3, some (.val (.mem .own none [ownN2 t]))), (4, some (.val (I k)))]) n ?_ ?_ 0 _ (by omega) ⟨[], ⟨⟨rfl, by simp⟩, by simp⟩, rfl⟩
 · rintro k e hk ⟨t, ⟨⟨g1, g2⟩, g3⟩, rfl⟩
   have hkl : k < f.length := by omega
   have hr := hf.1.2 _ (List.getElem_mem hkl)
   have hpm := pm_of hr (hf.2 _ (List.getElem_mem hkl)) h0 hn
   have hc := h304 f[k] hpm
   obtain ⟨j1, j2⟩ := invL_ok hpm
   rw [hr.1] at j1
   by_cases hk0 : k = 0
   · subst hk0
     obtain rfl : t = [] := List.length_eq_zero_iff.1 g1
     simp [hk, hfl]
     refine callR hc rfl rfl (fun _ => by simp) ?_
     simp
     exact ⟨by unfold roomy; omega, [invL f[0]], ⟨⟨rfl, one_row j1⟩, fun r hr => by rw [List.mem_singleton.1 hr]; exact j2⟩, rfl⟩
   · rw [ownN2_ne g1 (by omega)]
     simp [hk, hfl]
     refine callR hc rfl rfl (fun _ => by simp) ?_
     simp
     refine ⟨by unfold roomy; omega, by omega, t ++ [invL f[k]], ⟨TabN.snoc ⟨g1, g2⟩ j1, fun r hr => ?_⟩, by simp only [ownN2_snoc]⟩
     rcases List.mem_append.1 hr with h1 | h1
     · exact g3 r h1
     · rw [List.mem_singleton.1 h1]; exact j2
 · rintro e ⟨t, ⟨⟨g1, g2⟩, g3⟩, rfl⟩
   rw [ownN2_ne g1 h0]
   simp [hfl]
   subst hR
   exact ⟨t, ⟨⟨g1, g2⟩, g3⟩, by simp [post, c_spec_l05Cycle]⟩
def S_cys (pg : Pg) : Prop := ∀ (n : Nat) (t : List (List Int)), 0 < n → n ≤ 12 → CY n t → ∃ X : S2, PMN n X.1 X.2 ∧ Call pg 366 [cyT t] [cyT t] (ownS X)
set_option maxRecDepth 10000 in
theorem t_cys {pg : Pg} (hp : pg.fn 366 = some c_spec_l05Solution) (h398 : S_empty pg) (h69 : S_index pg) : S_cys pg := by
 intro n t h0 hn ht
 have htl := ht.1.1
 refine Call.find hp rfl (by simp) ?_
 show wp _ _ c_spec_l05Solution.body _ _
 generalize hR : (fun (x : X) (e : Env) => ∃ l : S2, PMN n l.1 l.2 ∧ post c_spec_l05Solution.rs [cyT t] [cyT t] (ownS l) x e) = R
 simp [c_spec_l05Solution]
 rw [htl]
 refine callR (h398 n h0 (by omega)) rfl rfl (fun _ => by simp) ?_
 simp
 refine wpLoop_count (fun a e => ∃ F S : List (List Int), PMN n F S ∧ e = fr [(1, some (.val (.mem .own none [tb t]))), (2, some (.val (.mem .own none [nil, nil]))), (3, some (.val (I n))), (4, some (.val (.mem .own none [ownTb F, ownTb S]))), (5, some (.val (I a)))]) n ?_ ?_ 0 _ (by omega) ⟨zeroT n n, zeroT n n, ⟨zeroT_tabN h0, zeroT_tabN h0⟩, rfl⟩
 · rintro a e ha ⟨F, S, hX, rfl⟩
   have hal : a < t.length := by omega
   have w1 := hX.1.1
   have w2 := hX.2.1
   have xF : a < F.length := by omega
   have xS : a < S.length := by omega
   have rF := (hX.1.2 _ (List.getElem_mem xF)).1
   have rS := (hX.2.2 _ (List.getElem_mem xS)).1
   have hg1 : (rows F)[a]? = some (ownL F[a]) := by rw [rows_get, List.getElem?_eq_getElem xF]; rfl
   have hg2 : (rows S)[a]? = some (ownL S[a]) := by rw [rows_get, List.getElem?_eq_getElem xS]; rfl
   simp [ha, w1, w2, rF, rS]
   refine wpLoop_count (fun b e => ∃ F S : List (List Int), PMN n F S ∧ e = fr [(1, some (.val (.mem .own none [tb t]))), (2, some (.val (.mem .own none [nil, nil]))), (3, some (.val (I n))), (4, some (.val (.mem .own none [ownTb F, ownTb S]))), (5, some (.val (I a))), (6, some (.sref 4 [0, a] 1 0 n)), (7, some (.sref 4 [1, a] 1 0 n)), (8, some (.val (I b)))]) n ?_ ?_ 0 _ (by omega) ⟨F, S, hX, by simp⟩
   · clear hg1 hg2 rF rS xF xS w1 w2 hX
     rintro b e hb ⟨F, S, hX, rfl⟩
     have w1 := hX.1.1
     have w2 := hX.2.1
     have xF : a < F.length := by omega
     have xS : a < S.length := by omega
     have rF := (hX.1.2 _ (List.getElem_mem xF)).1
     have rS := (hX.2.2 _ (List.getElem_mem xS)).1
     have hg1 : (rows F)[a]? = some (ownL F[a]) := by rw [rows_get, List.getElem?_eq_getElem xF]; rfl
     have hg2 : (rows S)[a]? = some (ownL S[a]) := by rw [rows_get, List.getElem?_eq_getElem xS]; rfl
     obtain ⟨_, z1, z2⟩ := ht.has h0 hn ha hb
     have hrow := (ht.1.2 _ (List.getElem_mem hal)).1
     have hc := h69 t[a] b (by omega)
     obtain ⟨u, hu⟩ : ∃ u : Nat, ixOf t[a] b = u := ⟨(ixOf t[a] b).toNat, by omega⟩
     rw [hu] at z1 z2 hc
     have hun : u < n := by omega
     obtain ⟨m1, m2, m3, m4, m5⟩ := ht.1.at hun ha
     simp [hb, ha, htl]
     refine callR hc rfl rfl (fun _ => rfl) ?_
     simp [hb, ha, htl, w1, w2, rF, rS, hun, m3]
     exact ⟨by omega, by omega, F.set a (F[a].set b u), S.set a (S[a].set b t[u][a]), ⟨hX.1.set2 xF ⟨by omega, by omega⟩, hX.2.set2 xS ⟨by omega, by omega⟩⟩, by simp only [ownTb, ← rows_set2 xF, ← rows_set2 xS]⟩
   · rintro e ⟨F, S, hX, rfl⟩
     simp
     exact ⟨by omega, F, S, hX, rfl⟩
 · rintro e ⟨F, S, hX, rfl⟩
   simp
   subst hR
   exact ⟨(F, S), hX, by simp [post, c_spec_l05Solution]⟩
theorem PMN.pm {n : Nat} {f s : List (List Int)} (h : PMN n f s) (h0 : 0 < n) (h12 : n ≤ 12) : PM f s := ⟨h.1.tab, h.2.tab, by rw [h.1.1, h.2.1], by rw [h.1.1]; exact h0, by rw [h.1.1]; exact h12⟩
theorem PMN.fits {n : Nat} {f s : List (List Int)} (h : PMN n f s) (h12 : n ≤ 12) : fits f ∧ fits s := ⟨⟨by rw [h.1.1]; omega, fun r hr => by rw [(h.1.2 r hr).1]; omega⟩, by rw [h.2.1]; omega, fun r hr => by rw [(h.2.2 r hr).1]; omega⟩
def S_cyD (pg : Pg) (f : Nat) : Prop := ∀ (c : Rw Int) (s : Int × Int) (most : Nat), Sr c s → 0 < most → most ≤ 12 → ∃ (s' : Int × Int) (n : Nat) (t : List (List Int)), (Sr c s' ∧ 0 < n ∧ n ≤ most ∧ CY n t) ∧ Call pg f [src c s, I most] [src c s', I most] (ownC t)
set_option maxRecDepth 10000 in
theorem t_cyA {pg : Pg} (hp : pg.fn 427 = some c_spec_l05Any) (h336 : S_nxt pg) (h424 : S_aff pg) (h363 : S_cyI pg) (h412 : S_dr2 pg) (h350 : S_nonDeg pg 350) (h351 : S_twice pg 351) (h364 : S_cyc pg) (h449 : S_flp pg) : S_cyD pg 427 := by
 intro c s most hs m0 m12
 have hfind := Call.findA (α := (Int × Int) × Nat × List (List Int)) (Q := fun Y => Sr c Y.1 ∧ 0 < Y.2.1 ∧ Y.2.1 ≤ most ∧ CY Y.2.1 Y.2.2) (args := [src c s, I most]) (args' := fun Y => [src c Y.1, I most]) (r := fun Y => ownC Y.2.2) hp rfl (by simp [F.lets, c_spec_l05Any, List.range, List.range.loop]) (by simp [kindOf]) ?_
 · obtain ⟨Y, h1, h2⟩ := hfind
   exact ⟨_, _, _, h1, h2⟩
 show wp _ _ c_spec_l05Any.body (postX _ _ _ _ _) _
 generalize hR : postX (fun Y : (Int × Int) × Nat × List (List Int) => Sr c Y.1 ∧ 0 < Y.2.1 ∧ Y.2.1 ≤ most ∧ CY Y.2.1 Y.2.2) c_spec_l05Any.rs [src c s, I most] (fun Y => [src c Y.1, I most]) (fun Y => ownC Y.2.2) = R
 have hfin : ∀ (s' : Int × Int) (k : Nat) (t : List (List Int)), Sr c s' → 0 < k → k ≤ most → CY k t → R .ret (fr [(0, some (.val (src c s'))), (1, some (.val (I most))), (4, some (.val (.mem .own none [ownTb t])))]) := by
  intro s' k X a1 a2 a3 a4
  subst hR
  exact ⟨(s', k, X), ⟨a1, a2, a3, a4⟩, by simp [post, c_spec_l05Any]⟩
 obtain ⟨s1, r1, ⟨k1, k2⟩, hc1⟩ := h336.at hs (n := most) m0
 obtain ⟨s2, kd, ⟨k3, k4⟩, hc2⟩ := h336.at k1 (n := 3) (by omega)
 obtain ⟨n, hn⟩ : ∃ n : Nat, (1 : Int) + r1 = n := ⟨1 + r1, by omega⟩
 have hn0 : 0 < n := by omega
 have hnm : n ≤ most := by omega
 simp [c_spec_l05Any]
 refine callS (ts' := [rawB c, I s1.1, H64 s1.2]) (r := I r1) (by simpa using hc1) ?_
 simp [hn]
 refine ⟨by omega, ?_⟩
 refine callS (ts' := [rawB c, I s2.1, H64 s2.2]) (r := I kd) (by simpa using hc2) ?_
 by_cases hk0 : kd = 0
 · simp [hk0]
   refine wpLoop_count (fun k e => ∃ s' : Int × Int, Sr c s' ∧ e = fr [(0, some (.val (src c s'))), (1, some (.val (I most))), (4, some (.val (.mem .own none [nil]))), (5, some (.val (I n))), (6, some (.val (I k)))]) 30 ?_ ?_ 0 _ (by omega) ⟨s2, k3, rfl⟩
   · rintro k e hk ⟨s3, g1, rfl⟩
     obtain ⟨s4, a1, ⟨j1, j2⟩, hd1⟩ := h336.at g1 (n := n) hn0
     obtain ⟨s5, a2, ⟨j3, j4⟩, hd2⟩ := h336.at j1 (n := n) hn0
     obtain ⟨s6, a3, ⟨j5, j6⟩, hd3⟩ := h336.at j3 (n := n) hn0
     obtain ⟨t, ht, hd4⟩ := h424 n a1 a2 a3 hn0 (by omega) (by omega) (by omega) (by omega)
     obtain ⟨b, hb, hd5⟩ := h363 n t hn0 (by omega) ht
     have hk' : (k : Int) < 30 := by omega
     simp [hk']
     refine callS (ts' := [rawB c, I s4.1, H64 s4.2]) (r := I a1) (by simpa using hd1) ?_
     simp
     refine callS (ts' := [rawB c, I s5.1, H64 s5.2]) (r := I a2) (by simpa using hd2) ?_
     simp
     refine callS (ts' := [rawB c, I s6.1, H64 s6.2]) (r := I a3) (by simpa using hd3) ?_
     simp
     refine callR hd4 rfl rfl (fun _ => by simp) ?_
     simp
     refine callR hd5 rfl rfl (fun _ => rfl) ?_
     cases b with
     | true =>
      simp
      exact hfin s6 n t j5 hn0 hnm ⟨ht, hb rfl⟩
     | false =>
      simp
      exact ⟨by omega, s6.1, s6.2, j5, rfl⟩
   · rintro e ⟨s3, g1, rfl⟩
     simp
     refine wpLoop_count (fun k e => ∃ s' : Int × Int, Sr c s' ∧ e = fr [(0, some (.val (src c s'))), (1, some (.val (I most))), (4, some (.val (.mem .own none [nil]))), (5, some (.val (I n))), (8, some (.val (I k)))]) 8 ?_ ?_ 0 _ (by omega) ⟨s3, g1, rfl⟩
     · rintro k e hk ⟨s3, g1, rfl⟩
       obtain ⟨s4, m, X, ⟨j1, j2, j3, j4⟩, hd1⟩ := h412 c s3 n g1 hn0 (by omega)
       have hpm := j4.pm j2 (by omega)
       have hfit := j4.fits (by omega)
       have hk' : (k : Int) < 8 := by omega
       have hd2 := h350 X.1 X.2 hpm
       have hd3 := h351 X.1 X.2 hpm
       simp [hk']
       refine callS (ts' := [rawB c, I s4.1, H64 s4.2]) (r := ownS X) (by simpa using hd1) ?_
       simp
       refine callR hd2 rfl rfl (fun _ => rfl) ?_
       by_cases hg : nonDeg X.1 X.2
       · simp [hg]
         refine callR hd3 rfl rfl (fun _ => rfl) ?_
         generalize dec (isInv X.1 X.2) = b at *
         cases b with
         | true =>
          obtain ⟨t, ht, hd4⟩ := h364 m X.1 X.2 j2 (by omega) ⟨j4.1, fun r hr => (hg.1 r hr).2⟩ hfit.2
          simp
          refine callR hd4 rfl rfl (fun _ => by simp) ?_
          simp
          exact hfin s4 m t j1 j2 (by omega) ht
         | false =>
          simp
          exact ⟨by omega, s4.1, s4.2, j1, rfl⟩
       · simp [hg, undefV]
         exact ⟨by omega, s4.1, s4.2, j1, rfl⟩
     · rintro e ⟨s3, g1, rfl⟩
       obtain ⟨X, ⟨j1, j2⟩, hd1⟩ := h449 n hn0 (by omega)
       have hfit := j1.fits (by omega)
       obtain ⟨t, ht, hd2⟩ := h364 n X.1 X.2 hn0 (by omega) ⟨j1.1, fun r hr => by rw [j2 r hr]; exact (idL_rowIn n).2⟩ hfit.2
       simp
       refine callR hd1 rfl rfl (fun _ => by simp) ?_
       simp
       refine callR hd2 rfl rfl (fun _ => by simp) ?_
       simp
       exact hfin s3 n t g1 hn0 hnm ht
 · simp [hk0]
   refine wpLoop_count (fun k e => ∃ s' : Int × Int, Sr c s' ∧ e = fr [(0, some (.val (src c s'))), (1, some (.val (I most))), (4, some (.val (.mem .own none [nil]))), (5, some (.val (I n))), (8, some (.val (I k)))]) 8 ?_ ?_ 0 _ (by omega) ⟨s2, k3, rfl⟩
   · rintro k e hk ⟨s3, g1, rfl⟩
     obtain ⟨s4, m, X, ⟨j1, j2, j3, j4⟩, hd1⟩ := h412 c s3 n g1 hn0 (by omega)
     have hpm := j4.pm j2 (by omega)
     have hfit := j4.fits (by omega)
     have hk' : (k : Int) < 8 := by omega
     have hd2 := h350 X.1 X.2 hpm
     have hd3 := h351 X.1 X.2 hpm
     simp [hk']
     refine callS (ts' := [rawB c, I s4.1, H64 s4.2]) (r := ownS X) (by simpa using hd1) ?_
     simp
     refine callR hd2 rfl rfl (fun _ => rfl) ?_
     by_cases hg : nonDeg X.1 X.2
     · simp [hg]
       refine callR hd3 rfl rfl (fun _ => rfl) ?_
       generalize dec (isInv X.1 X.2) = b at *
       cases b with
       | true =>
        obtain ⟨t, ht, hd4⟩ := h364 m X.1 X.2 j2 (by omega) ⟨j4.1, fun r hr => (hg.1 r hr).2⟩ hfit.2
        simp
        refine callR hd4 rfl rfl (fun _ => by simp) ?_
        simp
        exact hfin s4 m t j1 j2 (by omega) ht
       | false =>
        simp
        exact ⟨by omega, s4.1, s4.2, j1, rfl⟩
     · simp [hg, undefV]
       exact ⟨by omega, s4.1, s4.2, j1, rfl⟩
   · rintro e ⟨s3, g1, rfl⟩
     obtain ⟨X, ⟨j1, j2⟩, hd1⟩ := h449 n hn0 (by omega)
     have hfit := j1.fits (by omega)
     obtain ⟨t, ht, hd2⟩ := h364 n X.1 X.2 hn0 (by omega) ⟨j1.1, fun r hr => by rw [j2 r hr]; exact (idL_rowIn n).2⟩ hfit.2
     simp
     refine callR hd1 rfl rfl (fun _ => by simp) ?_
     simp
     refine callR hd2 rfl rfl (fun _ => by simp) ?_
     simp
     exact hfin s3 n t g1 hn0 hnm ht
theorem nodup_inj {p : List Int} (h : p.Nodup) {i j : Nat} (hi : i < p.length) (hj : j < p.length) (he : p.getD i 0 = p.getD j 0) : i = j := by
 simp only [List.getD_eq_getElem?_getD, List.getElem?_eq_getElem hi, List.getElem?_eq_getElem hj, Option.getD_some] at he
 exact (List.getElem_inj h).1 he
theorem imT_nodup {n : Nat} {t : List (List Int)} {p : List Int} (ht : CY n t) (hp : Pm p) (hl : p.length = n) : ∀ r ∈ imT t p, r.Nodup := by
 intro r hr
 obtain ⟨a, ha, rfl⟩ := List.mem_map.1 hr
 simp only [List.mem_range] at ha
 have htl := ht.1.1
 have hA := hp.lt (x := a) (by omega)
 have hAt : invQ p a < t.length := by omega
 have hrow := ht.1.2 _ (List.getElem_mem hAt)
 have hnd := ht.2 _ (List.getElem_mem hAt)
 rw [List.nodup_iff_pairwise_ne, List.pairwise_iff_getElem]
 intro i j hi hj hij he
 have hil : i < n := by simp at hi; omega
 have hjl : j < n := by simp at hj; omega
 simp only [List.getElem_map, List.getElem_range] at he
 unfold imG at he
 have hI := hp.lt (x := i) (by omega)
 have hJ := hp.lt (x := j) (by omega)
 obtain ⟨u1, u2, u3, u4, u5⟩ := ht.1.at (i := invQ p a) (j := invQ p i) (by omega) (by omega)
 obtain ⟨v1, v2', v3, v4, v5⟩ := ht.1.at (i := invQ p a) (j := invQ p j) (by omega) (by omega)
 have e1 := get_v2 u1 u2
 have e2 := get_v2 v1 v2'
 rw [e1] at u4 u5
 rw [e2] at v4 v5
 have h1 := nodup_inj hp.pm.2 (by omega) (by omega) he
 have h2 : v2 t (invQ p a) (invQ p i) = v2 t (invQ p a) (invQ p j) := by omega
 rw [← e1, ← e2] at h2
 have h3 := (List.getElem_inj hnd).1 h2
 have h4 := hp.at (x := i) (by omega)
 have h5 := hp.at (x := j) (by omega)
 rw [h3] at h4
 omega
set_option maxRecDepth 10000 in
theorem t_cyDr {pg : Pg} (hp : pg.fn 378 = some c_spec_l05Draw) (h336 : S_nxt pg) (h427 : S_cyD pg 427) (h368 : S_drw pg) (h367 : S_image pg 367) : S_cyD pg 378 := by
 intro c s most hs m0 m12
 have hfind := Call.findA (α := (Int × Int) × Nat × List (List Int)) (Q := fun Y => Sr c Y.1 ∧ 0 < Y.2.1 ∧ Y.2.1 ≤ most ∧ CY Y.2.1 Y.2.2) (args := [src c s, I most]) (args' := fun Y => [src c Y.1, I most]) (r := fun Y => ownC Y.2.2) hp rfl (by simp [F.lets, c_spec_l05Draw, List.range, List.range.loop]) (by simp [kindOf]) ?_
 · obtain ⟨Y, h1, h2⟩ := hfind
   exact ⟨_, _, _, h1, h2⟩
 show wp _ _ c_spec_l05Draw.body (postX _ _ _ _ _) _
 generalize hR : postX (fun Y : (Int × Int) × Nat × List (List Int) => Sr c Y.1 ∧ 0 < Y.2.1 ∧ Y.2.1 ≤ most ∧ CY Y.2.1 Y.2.2) c_spec_l05Draw.rs [src c s, I most] (fun Y => [src c Y.1, I most]) (fun Y => ownC Y.2.2) = R
 have hfin : ∀ (s' : Int × Int) (k : Nat) (t : List (List Int)), Sr c s' → 0 < k → k ≤ most → CY k t → R .ret (fr [(0, some (.val (src c s'))), (1, some (.val (I most))), (4, some (.val (.mem .own none [ownTb t])))]) := by
  intro s' k X a1 a2 a3 a4
  subst hR
  exact ⟨(s', k, X), ⟨a1, a2, a3, a4⟩, by simp [post, c_spec_l05Draw]⟩
 obtain ⟨s1, n, t, ⟨k1, k2, k3, k4⟩, hc1⟩ := h427 c s most hs m0 m12
 obtain ⟨s2, r, ⟨k5, _⟩, hc2⟩ := h336.at k1 (n := 3) (by omega)
 obtain ⟨s3, p, ⟨k6, k7, k8⟩, hc3⟩ := h368 c s2 n k5 (by omega)
 have hpm := pm_of k7 k8 k2 (by omega)
 have hl1 := k4.1.1
 have hc4 := h367 t p k4.1.tab hpm (by rw [k7.1, hl1])
 simp [c_spec_l05Draw]
 refine callS (ts' := [rawB c, I s1.1, H64 s1.2]) (r := ownC t) (by simpa using hc1) ?_
 simp
 refine callS (ts' := [rawB c, I s2.1, H64 s2.2]) (r := I r) (by simpa using hc2) ?_
 by_cases hr : 0 < r
 · simp [hr, hl1]
   refine callS (ts' := [rawB c, I s3.1, H64 s3.2]) (r := ownL p) (by simpa using hc3) ?_
   simp [hl1]
   refine callR hc4 rfl rfl (fun _ => by simp) ?_
   simp
   refine hfin s3 n (imT t p) k6 k2 k3 ⟨imT_tabN k4.1 hpm k7.1, ?_⟩
   exact imT_nodup k4 hpm k7.1
 · simp [hr]
   exact hfin s2 n t k5 k2 k3 k4
set_option maxRecDepth 10000 in
theorem t_spl7 {pg : Pg} (hp : pg.fn 268 = some c_spec_l07Spoil) (h336 : S_nxt pg) (h378 : S_cyD pg 378) (h366 : S_cys pg) (h379 : S_spl pg 379) : S_spl pg 268 := by
 intro c s most hs m0 m12
 have hfind := Call.findA (α := (Int × Int) × S2) (Q := fun Y => Sr c Y.1 ∧ Bd Y.2.1 ∧ Bd Y.2.2) (args := [src c s, I most]) (args' := fun Y => [src c Y.1, I most]) (r := fun Y => ownS Y.2) hp rfl (by simp [F.lets, c_spec_l07Spoil, List.range, List.range.loop]) (by simp [kindOf]) ?_
 · obtain ⟨Y, h1, h2⟩ := hfind
   exact ⟨_, _, h1, h2⟩
 show wp _ _ c_spec_l07Spoil.body (postX _ _ _ _ _) _
 generalize hR : postX (fun Y : (Int × Int) × S2 => Sr c Y.1 ∧ Bd Y.2.1 ∧ Bd Y.2.2) c_spec_l07Spoil.rs [src c s, I most] (fun Y => [src c Y.1, I most]) (fun Y => ownS Y.2) = R
 have hfin : ∀ (s' : Int × Int) (X : S2), Sr c s' → Bd X.1 → Bd X.2 → R .ret (fr [(0, some (.val (src c s'))), (1, some (.val (I most))), (4, some (.val (.mem .own none [ownTb X.1, ownTb X.2])))]) := by
  intro s' X a1 a2 a3
  subst hR
  exact ⟨(s', X), ⟨a1, a2, a3⟩, by simp [post, c_spec_l07Spoil]⟩
 obtain ⟨s1, r, ⟨k1, _⟩, hc1⟩ := h336.at hs (n := 3) (by omega)
 simp [c_spec_l07Spoil]
 refine callS (ts' := [rawB c, I s1.1, H64 s1.2]) (r := I r) (by simpa using hc1) ?_
 by_cases hr : r = 0
 · obtain ⟨s2, n, t, ⟨k2, k3, k4, k5⟩, hc2⟩ := h378 c s1 most k1 m0 m12
   obtain ⟨X, hX, hc3⟩ := h366 n t k3 (by omega) k5
   simp [hr]
   refine callS (ts' := [rawB c, I s2.1, H64 s2.2]) (r := ownC t) (by simpa using hc2) ?_
   simp
   refine callR hc3 rfl rfl (fun _ => by simp) ?_
   simp
   exact hfin s2 X k2 (hX.1.bd (by omega)) (hX.2.bd (by omega))
 · obtain ⟨s2, X, ⟨k2, k3, k4⟩, hc2⟩ := h379 c s1 most k1 m0 m12
   simp [hr]
   refine callS (ts' := [rawB c, I s2.1, H64 s2.2]) (r := ownS X) (by simpa using hc2) ?_
   simp
   exact hfin s2 X k2 k3 k4
def S_drS (pg : Pg) (f : Nat) : Prop := ∀ c : Rw Int, okB c → ∃ X : S2, (Bd X.1 ∧ Bd X.2) ∧ Call pg f [rawB c] [rawB c] (ownS X)
end Go.Mch
namespace Go.Mch
def S_big (pg : Pg) : Prop := ∀ c : Rw Int, Call pg 128 [rawB c] [rawB c] (B (decide ((4096 : Int) < (lst c).length)))
theorem t_big {pg : Pg} (hp : pg.fn 128 = some c_laws_big) : S_big pg := by
 intro c
 refine Call.intro hp rfl (by simp) ?_
 show wp _ _ c_laws_big.body (post [.t 2] _ _ _) _
 simp [c_laws_big]
def S_likeI (pg : Pg) : Prop := ∀ a b : Rw Int, (lst a).length ≤ 1048576 → Call pg 141 [rawI a, rawI b] [rawI a, rawI b] (B (decide (lst a = lst b)))
def S_likeT (pg : Pg) : Prop := ∀ a b : Rw (Rw Int), small a → Call pg 137 [rawT a, rawT b] [rawT a, rawT b] (B (decide ((lst a).map lst = (lst b).map lst)))
def S_same9 (pg : Pg) : Prop := ∀ a b : Rw (Rw Int), small a → Call pg 178 [rawT a, rawT b] [rawT a, rawT b] (B (decide ((lst a).map lst = (lst b).map lst)))
end Go.Mch
namespace Go.Mch
theorem inj_of_sur {N : Nat} {g : Nat → Nat} (hs : ∀ w, w < N → ∃ a, a < N ∧ g a = w) : ∀ a b, a < N → b < N → g a = g b → a = b := by
 have hc : ∀ w, ∃ a, w < N → a < N ∧ g a = w := fun w => by
  by_cases h : w < N
  · obtain ⟨a, h1, h2⟩ := hs w h
    exact ⟨a, fun _ => ⟨h1, h2⟩⟩
  · exact ⟨0, fun h0 => absurd h0 h⟩
 obtain ⟨h, hh⟩ : ∃ h : Nat → Nat, ∀ w, w < N → h w < N ∧ g (h w) = w := ⟨fun w => Classical.choose (hc w), fun w hw => Classical.choose_spec (hc w) hw⟩
 have hsur := surj_of_inj (n := N) (g := h) (fun y hy => (hh y hy).1) (fun y y' h1 h2 he => by
  have e1 := (hh y h1).2
  have e2 := (hh y' h2).2
  rw [he] at e1
  omega)
 intro a b ha hb he
 obtain ⟨a', a1, rfl⟩ := hsur a ha
 obtain ⟨b', b1, rfl⟩ := hsur b hb
 rw [(hh a' a1).2, (hh b' b1).2] at he
 rw [he]
theorem pairN_div {n x y : Nat} (hy : y < n) : (x * n + y) / n = x ∧ (x * n + y) % n = y := by
 have hn : 0 < n := by omega
 refine ⟨?_, ?_⟩
 · rw [Nat.add_comm, Nat.add_mul_div_right _ _ hn, Nat.div_eq_of_lt hy, Nat.zero_add]
 · rw [Nat.add_comm, Nat.add_mul_mod_self_right, Nat.mod_eq_of_lt hy]
theorem pairN_lt {n x y : Nat} (hx : x < n) (hy : y < n) : x * n + y < n * n := by
 have : (x + 1) * n ≤ n * n := Nat.mul_le_mul_right n hx
 have h2 : (x + 1) * n = x * n + n := Nat.succ_mul x n
 omega
theorem pairN_eq {n x y x' y' : Nat} (hy : y < n) (hy' : y' < n) (h : x * n + y = x' * n + y') : x = x' ∧ y = y' := by
 have h1 := pairN_div (x := x) hy
 have h2 := pairN_div (x := x') hy'
 rw [h] at h1
 exact ⟨h1.1.symm.trans h2.1, h1.2.symm.trans h2.2⟩
def ldN (f s : List (List Int)) (a : Nat) : Nat := σN f (a / f.length) (a % f.length) * f.length + τN s (a % f.length) (a / f.length)
theorem ldN_lt {f s : List (List Int)} (h : PM f s) (a : Nat) : ldN f s a < f.length * f.length := pairN_lt (h.v2f _ _).2 (h.v2s _ _).2
theorem inj_ld {f s : List (List Int)} (h : PM f s) : Inj f s ↔ ∀ a b, a < f.length * f.length → b < f.length * f.length → ldN f s a = ldN f s b → a = b := by
 constructor
 · intro hi a b ha hb he
   apply Classical.byContradiction
   intro hne
   obtain ⟨e1, e2⟩ := pairN_eq (h.v2s (a / f.length) (a % f.length)).2 (h.v2s (b / f.length) (b % f.length)).2 he
   have a1 := (h.v2f (a / f.length) (a % f.length)).1
   have a2 := (h.v2f (b / f.length) (b % f.length)).1
   have a3 := (h.v2s (a / f.length) (a % f.length)).1
   have a4 := (h.v2s (b / f.length) (b % f.length)).1
   exact hi a ha b hb ⟨hne, by rw [← a1, ← a2, e1], by rw [← a3, ← a4, e2]⟩
 · intro hi a ha b hb ⟨hne, e1, e2⟩
   refine hne (hi a b ha hb ?_)
   unfold ldN σN τN
   rw [e1, e2]
theorem ret_inj {f s : List (List Int)} (h : Rg f s) (hi : Inj f s) : Inj (retF f s) (retS f s) := by
 have hpm := h.1
 have hr := ret_rg h
 have q := quo_of hpm
 rw [inj_ld hr.1]
 rw [inj_ld hpm] at hi
 have hsur := surj_of_inj (n := f.length * f.length) (g := ldN f s) (fun y _ => ldN_lt hpm y) (fun y y' h1 h2 he => hi y y' h1 h2 he)
 refine inj_of_sur fun w hw => ?_
 rw [retF_length] at hw ⊢
 have hm0 := clM_pos (s := s) hpm.pos
 have hk : w / clM f s < clM f s := Nat.div_lt_of_lt_mul hw
 have hl : w % clM f s < clM f s := Nat.mod_lt _ hm0
 have dk := q.dn _ hk
 have dl := q.dn _ hl
 obtain ⟨a, ha, he⟩ := hsur (clD f s (w / clM f s) * f.length + clD f s (w % clM f s)) (pairN_lt dk dl)
 have hx : a / f.length < f.length := Nat.div_lt_of_lt_mul ha
 have hy : a % f.length < f.length := Nat.mod_lt _ hpm.pos
 obtain ⟨e1, e2⟩ := pairN_eq (hpm.v2s (a / f.length) (a % f.length)).2 dl he
 generalize a / f.length = x at *
 generalize a % f.length = y at *
 have cx := q.cm x hx
 have cy := q.cm y hy
 refine ⟨clC f s x * clM f s + clC f s y, pairN_lt cx cy, ?_⟩
 obtain ⟨p1, p2⟩ := pairN_div (x := clC f s x) cy
 obtain ⟨r1, r2⟩ := ret_at h hx hy
 unfold ldN
 rw [retF_length, p1, p2]
 have s1 : σN (retF f s) (clC f s x) (clC f s y) = w / clM f s := by
  unfold σN; rw [r1, e1, q.cd _ hk, Int.toNat_natCast]
 have s2 : τN (retS f s) (clC f s y) (clC f s x) = w % clM f s := by
  unfold τN; rw [r2, e2, q.cd _ hl, Int.toNat_natCast]
 rw [s1, s2, Nat.mul_comm]
 exact Nat.div_add_mod _ _
theorem ret_isSol {f s : List (List Int)} (h : isReg f s) : isReg (retF f s) (retS f s) := by
 have hr := ret_rg (rg_of h)
 refine ⟨⟨?_, ret_inj (rg_of h) h.1.2.1, hr.2.1⟩, hr.2.2⟩
 have hp := hr.1
 exact ⟨⟨hp.pos, hp.small, hp.tf⟩, ⟨by rw [hp.len]; exact hp.pos, by rw [hp.len]; exact hp.small, hp.ts⟩, hp.len.symm⟩

end Go.Mch
namespace Go.Mch

structure Rck (n : Nat) (T : Nat → Nat → Nat) : Prop where
 r : ∀ x y, x < n → y < n → T x y < n
 i : ∀ x y y', x < n → y < n → y' < n → T x y = T x y' → y = y'
 sd : ∀ x y z, x < n → y < n → z < n → T x (T y z) = T (T x y) (T x z)
structure Aut (n : Nat) (T : Nat → Nat → Nat) (P Q : Nat → Nat) : Prop where
 p : ∀ x, x < n → P x < n
 q : ∀ x, x < n → Q x < n
 pq : ∀ x, x < n → P (Q x) = x
 qp : ∀ x, x < n → Q (P x) = x
 a : ∀ x y, x < n → y < n → P (T x y) = T (P x) (P y)
theorem inj_nd {f s : List (List Int)} (h : PM f s) (hn : ∀ x y x' y', x < f.length → y < f.length → x' < f.length → y' < f.length → σN f x y = σN f x' y' → τN s y x = τN s y' x' → x = x' ∧ y = y') : Inj f s := by
 rw [inj_ld h]
 intro a b ha hb he
 have h0 := h.pos
 have a1 : a / f.length < f.length := (Nat.div_lt_iff_lt_mul h0).2 ha
 have b1 : b / f.length < f.length := (Nat.div_lt_iff_lt_mul h0).2 hb
 have a2 : a % f.length < f.length := Nat.mod_lt _ h0
 have b2 : b % f.length < f.length := Nat.mod_lt _ h0
 unfold ldN at he
 have l1 := (h.v2s (a / f.length) (a % f.length)).2
 have l2 := (h.v2s (b / f.length) (b % f.length)).2
 have e1 := congrArg (· / f.length) he
 have e2 := congrArg (· % f.length) he
 simp only [Nat.mul_add_mod_of_lt l1, Nat.mul_add_mod_of_lt l2] at e2
 simp only [Nat.mul_comm _ f.length, Nat.mul_add_div h0, Nat.div_eq_of_lt l1, Nat.div_eq_of_lt l2, Nat.add_zero] at e1
 obtain ⟨h1, h2⟩ := hn _ _ _ _ a1 a2 b1 b2 e1 e2
 have q1 := Nat.div_add_mod a f.length
 have q2 := Nat.div_add_mod b f.length
 rw [h1, h2] at q1
 omega
theorem pair_of {f s : List (List Int)} (h : PM f s) : isPairMap f s :=
 ⟨⟨by have := h.pos; omega, by have := h.small; omega, h.tf⟩, ⟨by have := h.pos; have := h.len; omega, by have := h.small; have := h.len; omega, h.ts⟩, h.len.symm⟩
theorem reg_of {f s : List (List Int)} (h : Rg f s) (hi : Inj f s) : isReg f s := ⟨⟨pair_of h.1, hi, h.2.1⟩, h.2.2⟩
end Go.Mch
namespace Go.Mch

def ra (f s : List (List Int)) (x y : Nat) : Nat := σN (raT f s) x y


end Go.Mch
namespace Go.Mch

def Blk (ms : List (List Int)) (n : Nat) (x y : Int) (c : Int → Int) : Prop := c x = c y ∧ ∀ a b : Int, (0 ≤ a ∧ a < n) → (0 ≤ b ∧ b < n) → c a = c b → ∀ p ∈ ms, c (act p a) = c (act p b)
def BE (ms : List (List Int)) (n : Nat) (x y a b : Int) : Prop := ∀ c, Blk ms n x y c → c a = c b
structure Bk (ms : List (List Int)) (n : Nat) (x y : Int) (L : List Int) : Prop where
 len : L.length = n
 rng : ∀ v ∈ L, 0 ≤ v ∧ v < n
 snd : ∀ a b : Int, (0 ≤ a ∧ a < n) → (0 ≤ b ∧ b < n) → act L a = act L b → BE ms n x y a b
theorem ixOf_map {φ : Int → Int} : ∀ (s : List Int) (v : Int), (∀ a ∈ s, φ a = φ v → a = v) → ixOf (s.map φ) (φ v) = ixOf s v
 | [], _, _ => rfl
 | x :: s, v, h => by
  have ih := ixOf_map s v fun a ha => h a (by simp [ha])
  simp only [List.map_cons, ixOf]
  by_cases hx : x = v
  · simp [hx]
  · have : φ x ≠ φ v := fun he => hx (h x (by simp) he)
    simp [hx, this, ih]
theorem uniqs_map {φ : Int → Int} (l : List Int) : ∀ s : List Int, (∀ a ∈ s ++ l, ∀ b ∈ s ++ l, φ a = φ b → a = b) →
 (l.map φ).foldl (fun s x => if x ∈ s then s else s ++ [x]) (s.map φ) = (l.foldl (fun s x => if x ∈ s then s else s ++ [x]) s).map φ := by
 induction l with
 | nil => intro s _; rfl
 | cons x l ih =>
  intro s h
  simp only [List.map_cons, List.foldl_cons]
  have hmem : φ x ∈ s.map φ ↔ x ∈ s := by
   constructor
   · intro hm
     obtain ⟨z, hz, he⟩ := List.mem_map.1 hm
     have := h z (by simp [hz]) x (by simp) he
     exact this ▸ hz
   · exact fun hm => List.mem_map.2 ⟨x, hm, rfl⟩
  by_cases hx : x ∈ s
  · rw [if_pos hx, if_pos (hmem.2 hx)]
    refine ih s fun a ha b hb => h a ?_ b ?_
    · simp at ha ⊢; rcases ha with h | h <;> simp [h]
    · simp at hb ⊢; rcases hb with h | h <;> simp [h]
  · rw [if_neg hx, if_neg fun hh => hx (hmem.1 hh)]
    have := ih (s ++ [x]) fun a ha b hb => h a (by simpa using ha) b (by simpa using hb)
    simpa using this
theorem renum_map {φ : Int → Int} {L : List Int} (h : ∀ a ∈ L, ∀ b ∈ L, φ a = φ b → a = b) : renum (L.map φ) = renum L := by
 unfold renum
 rw [List.length_map]
 refine List.map_congr_left fun k hk => ?_
 have hk := List.mem_range.1 hk
 have hu : uniqs ((L.map φ).take (k + 1)) = (uniqs (L.take (k + 1))).map φ := by
  rw [← List.map_take]
  exact uniqs_map (L.take (k + 1)) [] fun a ha b hb => h a (List.mem_of_mem_take (by simpa using ha)) b (List.mem_of_mem_take (by simpa using hb))
 have hsub : ∀ a ∈ uniqs (L.take (k + 1)), a ∈ L := by
  have key : ∀ (l s : List Int), ∀ a ∈ l.foldl (fun s x => if x ∈ s then s else s ++ [x]) s, a ∈ s ∨ a ∈ l := by
   intro l
   induction l with
   | nil => intro s a ha; exact .inl ha
   | cons x l ih =>
    intro s a ha
    simp only [List.foldl_cons] at ha
    rcases ih _ a ha with h1 | h1
    · split at h1
      · exact .inl h1
      · rcases List.mem_append.1 h1 with h2 | h2
        · exact .inl h2
        · exact .inr (by simp at h2; simp [h2])
    · exact .inr (by simp [h1])
  intro a ha
  rcases key _ _ a ha with h1 | h1
  · cases h1
  · exact List.mem_of_mem_take h1
 have hg : (L.map φ).getD k 0 = φ (L.getD k 0) := by simp [hk]
 have hm : L.getD k 0 ∈ L := by simp [hk]
 rw [hu, hg]
 exact ixOf_map _ _ fun a ha he => h a (hsub a ha) _ hm he
theorem renum_ker {L L' : List Int} (hl : L'.length = L.length) (h : ∀ i j, i < L.length → j < L.length → (L.getD i 0 = L.getD j 0 ↔ L'.getD i 0 = L'.getD j 0)) : renum L' = renum L := by
 have hix : ∀ i, i < L.length → ∃ j, j < L.length ∧ (ixOf L (L.getD i 0)).toNat = j ∧ L.getD j 0 = L.getD i 0 := fun i hi => by
  have hm : L.getD i 0 ∈ L := by simp [hi]
  obtain ⟨j, hj, hje⟩ := List.getElem_of_mem hm
  have h1 := ixOf_le L (L.getD i 0)
  have h2 := (ixOf_mem L (L.getD i 0)).2 hm
  refine ⟨_, by omega, rfl, ?_⟩
  have key : ∀ (xs : List Int) (v : Int), 0 ≤ ixOf xs v → xs.getD (ixOf xs v).toNat 0 = v := by
   intro xs v
   induction xs with
   | nil => intro h; simp [ixOf] at h
   | cons z xs ih =>
    intro h
    unfold ixOf at h ⊢
    by_cases hz : z = v
    · simp [hz]
    · rw [if_neg hz] at h ⊢
      by_cases hn : ixOf xs v < 0
      · rw [if_pos hn] at h; omega
      · rw [if_neg hn]
        have := ih (by omega)
        rw [show (ixOf xs v + 1).toNat = (ixOf xs v).toNat + 1 by omega]
        simpa using this
  exact key L _ h2
 have hmap : L' = L.map fun v => L'.getD (ixOf L v).toNat 0 := by
  apply List.ext_getElem
  · simp [hl]
  · intro i h1 h2
    simp only [List.length_map] at h2
    obtain ⟨j, hj, hji, he⟩ := hix i h2
    have hgi : L.getD i 0 = L[i] := by simp [h2]
    rw [List.getElem_map, ← hgi, hji]
    have := (h j i hj h2).1 he
    rw [this]
    simp [h1]
 rw [hmap]
 refine renum_map fun a ha b hb he => ?_
 obtain ⟨i, hi, rfl⟩ := List.getElem_of_mem ha
 obtain ⟨j, hj, rfl⟩ := List.getElem_of_mem hb
 obtain ⟨i', hi', hie, hi2⟩ := hix i hi
 obtain ⟨j', hj', hje, hj2⟩ := hix j hj
 have hgi : L.getD i 0 = L[i] := by simp [hi]
 have hgj : L.getD j 0 = L[j] := by simp [hj]
 rw [hgi] at hie hi2
 rw [hgj] at hje hj2
 simp only [hie, hje] at he
 have := (h i' j' hi' hj').2 he
 rw [← hi2, ← hj2, this]
theorem Bk.start (ms : List (List Int)) (n : Nat) (x y : Int) : Bk ms n x y (idL n) := by
 have ha : ∀ a : Int, (0 ≤ a ∧ a < n) → act (idL n) a = a := fun a h => by
  have : a.toNat < n := by omega
  simp [act, idL, this]
  omega
 refine ⟨by simp, fun v hv => ?_, fun a b h1 h2 he => ?_⟩
 · simp only [idL, List.mem_map, List.mem_range] at hv
   obtain ⟨i, hi, rfl⟩ := hv
   omega
 · rw [ha a h1, ha b h2] at he
   exact he ▸ fun _ _ => rfl
end Go.Mch
namespace Go.Mch
def serA (f s : List (List Int)) : Nat → List (List Int) × List (List Int)
 | 0 => (f, s)
 | k + 1 => (retF (serA f s k).1 (serA f s k).2, retS (serA f s k).1 (serA f s k).2)
theorem serA_shift (f s : List (List Int)) (k : Nat) : serA (retF f s) (retS f s) k = serA f s (k + 1) := by
 induction k with
 | zero => rfl
 | succ k ih => rw [serA, ih]; rfl
theorem serL_get (n : Nat) : ∀ (f s : List (List Int)) (i : Nat) (h : i < (serL n f s).length), (serL n f s)[i] = serA f s i := by
 induction n with
 | zero => intro f s i h; simp [serL] at h
 | succ n ih =>
  intro f s i h
  cases i with
  | zero => simp [serL, serA]
  | succ i =>
   by_cases hc : clM f s = f.length
   · simp [serL, hc] at h
   · have hl : i < (serL n (retF f s) (retS f s)).length := by simpa [serL, hc] using h
     have := ih (retF f s) (retS f s) i hl
     rw [serA_shift] at this
     simpa [serL, hc] using this
theorem serA_reg {f s : List (List Int)} (h : isReg f s) (k : Nat) : isReg (serA f s k).1 (serA f s k).2 := by
 induction k with
 | zero => exact h
 | succ k ih => exact ret_isSol ih
theorem rsL_get {f s : List (List Int)} {k : Nat} (hk : k < (serL f.length f s).length) : (rsL f s).getD k 0 = ((serA f s k).1.length : Int) := by
 rw [rsL, List.getD_eq_getElem?_getD, List.getElem?_map, List.getElem?_eq_getElem hk, serL_get]
 rfl
end Go.Mch
namespace Go.Mch


theorem serL_fuel : ∀ (k k' : Nat) (f s : List (List Int)), 0 < f.length → f.length ≤ k → f.length ≤ k' → serL k f s = serL k' f s := by
 intro k
 induction k with
 | zero => intro k' f s h0 h1 _; omega
 | succ k ih =>
  intro k' f s h0 h1 h2
  obtain ⟨k', rfl⟩ : ∃ j, k' = j + 1 := ⟨k' - 1, by omega⟩
  rw [serL, serL]
  by_cases hc : clM f s = f.length
  · rw [if_pos hc, if_pos hc]
  · have hle := clM_le f s
    have hp := clM_pos (s := s) h0
    rw [if_neg hc, if_neg hc, ih k' (retF f s) (retS f s) (by simpa using hp) (by simp; omega) (by simp; omega)]
theorem serL_next {f s : List (List Int)} (h0 : 0 < f.length) (hc : clM f s ≠ f.length) : serL f.length f s = (f, s) :: serL (retF f s).length (retF f s) (retS f s) := by
 obtain ⟨n, hn⟩ : ∃ n, f.length = n + 1 := ⟨f.length - 1, by omega⟩
 have hle := clM_le f s
 have hp := clM_pos (s := s) h0
 rw [hn, serL, if_neg hc]
 rw [serL_fuel n (retF f s).length (retF f s) (retS f s) (by simpa using hp) (by simp; omega) (Nat.le_refl _)]
theorem serL_stop {f s : List (List Int)} (h0 : 0 < f.length) (hc : clM f s = f.length) : serL f.length f s = [(f, s)] := by
 obtain ⟨n, hn⟩ : ∃ n, f.length = n + 1 := ⟨f.length - 1, by omega⟩
 rw [hn, serL, if_pos hc]
theorem last_cons {α : Type} {a : α} {l : List α} (h : l ≠ []) : (a :: l).getLast? = l.getLast? := by
 cases l with
 | nil => exact absurd rfl h
 | cons b l => rfl
theorem serL_nil {f s : List (List Int)} (h0 : 0 < f.length) : serL f.length f s ≠ [] := by
 obtain ⟨P, F, S, e⟩ := serL_ne (s := s) h0
 rw [e]; simp
theorem lv_next {f s : List (List Int)} (h0 : 0 < f.length) (hc : clM f s ≠ f.length) : lvN f s = lvN (retF f s) (retS f s) + 1 ∧ lvL f s = lvL (retF f s) (retS f s) := by
 have hp := clM_pos (s := s) h0
 have e := serL_next h0 hc
 unfold lvN lvL
 rw [e]
 exact ⟨rfl, by rw [last_cons (serL_nil (by simpa using hp))]⟩
theorem lv_stop {f s : List (List Int)} (h0 : 0 < f.length) (hc : clM f s = f.length) : lvN f s = 1 ∧ lvL f s = f.length := by
 unfold lvN lvL
 rw [serL_stop h0 hc]
 exact ⟨rfl, rfl⟩
theorem serL_end : ∀ (k : Nat) (f s : List (List Int)), f.length = k → 0 < f.length → ∀ F S, (serL f.length f s).getLast? = some (F, S) → clM F S = F.length := by
 intro k
 induction k using Nat.strongRecOn with
 | ind k ih =>
  intro f s hk h0 F S he
  by_cases hc : clM f s = f.length
  · rw [serL_stop h0 hc] at he
    simp at he
    obtain ⟨rfl, rfl⟩ := he
    exact hc
  · have hle := clM_le f s
    have hp := clM_pos (s := s) h0
    rw [serL_next h0 hc, last_cons (serL_nil (by simpa using hp))] at he
    exact ih (clM f s) (by omega) (retF f s) (retS f s) (by simp) (by simpa using hp) F S he
theorem clM_full {f s : List (List Int)} (h : PM f s) : clM f s = f.length ↔ ∀ x x', x < f.length → x' < f.length → Alk f.length (σN f) (τN s) x x' → x = x' := by
 have q := quo_of h
 constructor
 · intro he x x' hx hx' ha
   refine inj_of_surj (m := f.length) (g := clC f s) (fun w hw => ⟨clD f s w, q.dn w (by omega), q.cd w (by omega)⟩) x x' hx hx' ((q.ca x x' hx hx').2 ha)
 · intro hi
   have h1 := clM_le f s
   have := len_le_of_sub ((List.range f.length).map (clC f s)) (List.range (clM f s)) ?_ ?_
   · simp at this; omega
   · rw [List.Nodup, List.pairwise_map]
     refine (List.nodup_range (n := f.length)).imp_of_mem ?_
     intro a b ha hb hab he
     exact hab (hi a b (List.mem_range.1 ha) (List.mem_range.1 hb) ((q.ca a b (List.mem_range.1 ha) (List.mem_range.1 hb)).1 he))
   · intro v hv
     obtain ⟨x, hx, rfl⟩ := List.mem_map.1 hv
     exact List.mem_range.2 (q.cm x (List.mem_range.1 hx))
theorem ret_full {f s : List (List Int)} (h : Rg f s) (hc : clM f s = f.length) : clM (retF f s) (retS f s) = (retF f s).length := by
 have hr := ret_rg h
 have q := quo_of h.1
 have hl := retF_length f s
 have inj := fun x x' hx hx' => (clM_full h.1).1 hc x x' hx hx'
 have ci : ∀ x x', x < f.length → x' < f.length → clC f s x = clC f s x' → x = x' := fun x x' hx hx' he => inj x x' hx hx' ((q.ca x x' hx hx').1 he)
 have dc : ∀ x, x < f.length → clD f s (clC f s x) = x := fun x hx => ci _ _ (q.dn _ (q.cm x hx)) hx (q.cd _ (q.cm x hx))
 refine (clM_full hr.1).2 fun i i' hi hi' ha => ?_
 rw [hl] at hi hi' ha
 have nd := nd_of h
 have e : Alk f.length (σN f) (τN s) (clD f s i) (clD f s i') := fun y hy => by
  have cy := q.cm y hy
  obtain ⟨a1, a2⟩ := ha (clC f s y) cy
  obtain ⟨r1, _⟩ := ret_at h (q.dn i hi) hy
  obtain ⟨r2, _⟩ := ret_at h (q.dn i' hi') hy
  obtain ⟨_, r3⟩ := ret_at h hy (q.dn i hi)
  obtain ⟨_, r4⟩ := ret_at h hy (q.dn i' hi')
  rw [q.cd i hi] at r1 r3
  rw [q.cd i' hi'] at r2 r4
  constructor
  · refine ci _ _ (h.1.v2f _ _).2 (h.1.v2f _ _).2 ?_
    unfold σN at a1
    rw [r1, r2, Int.toNat_natCast, Int.toNat_natCast] at a1
    exact a1
  · refine ci _ _ (h.1.v2s _ _).2 (h.1.v2s _ _).2 ?_
    unfold τN at a2
    rw [r3, r4, Int.toNat_natCast, Int.toNat_natCast] at a2
    exact a2
 have := inj _ _ (q.dn i hi) (q.dn i' hi') e
 rw [← q.cd i hi, this, q.cd i' hi']


def pf2 (f : List (List Int)) (x y : Nat) : Int := v2 f (x / 2) (y / 2) * 2 + (1 - ((y % 2 : Nat) : Int))
def ps2 (s : List (List Int)) (x y : Nat) : Int := v2 s (x / 2) (y / 2) * 2 + (1 - ((x % 2 : Nat) : Int))
def pF (f : List (List Int)) : List (List Int) := tabL (f.length * 2) (pf2 f)
def pS (f s : List (List Int)) : List (List Int) := tabL (f.length * 2) (ps2 s)
theorem p_tabs {f s : List (List Int)} (h : PM f s) : pF f = tabL (f.length * 2) (fun x y => ((σN f (x / 2) (y / 2) * 2 + (1 - y % 2) : Nat) : Int)) ∧ pS f s = tabL (f.length * 2) (fun x y => ((τN s (y / 2) (x / 2) * 2 + (1 - x % 2) : Nat) : Int)) := by
 constructor
 · refine tabL_congr fun x y _ _ => ?_
   have h1 := (h.v2f (x / 2) (y / 2)).1
   unfold pf2
   omega
 · refine tabL_congr fun x y _ _ => ?_
   have h1 := (h.v2s (x / 2) (y / 2)).1
   unfold ps2
   omega
theorem p_nd {f s : List (List Int)} (h : Rg f s) : Nd (f.length * 2) (fun x y => σN f (x / 2) (y / 2) * 2 + (1 - y % 2)) (fun y x => τN s (y / 2) (x / 2) * 2 + (1 - x % 2)) := by
 have nd := nd_of h
 have d : ∀ x, x < f.length * 2 → x / 2 < f.length := fun x hx => by omega
 have g1 : ∀ a b : Nat, (a * 2 + (1 - b)) / 2 = a := fun a b => by omega
 have g2 : ∀ a b : Nat, (a * 2 + (1 - b)) % 2 = 1 - b := fun a b => by omega
 have rs : ∀ x y, x < f.length * 2 → y < f.length * 2 → σN f (x / 2) (y / 2) * 2 + (1 - y % 2) < f.length * 2 := fun x y _ _ => by have := (h.1.v2f (x / 2) (y / 2)).2; omega
 have rt : ∀ y x, y < f.length * 2 → x < f.length * 2 → τN s (y / 2) (x / 2) * 2 + (1 - x % 2) < f.length * 2 := fun y x _ _ => by have := (h.1.v2s (x / 2) (y / 2)).2; omega
 have is : ∀ x y y', x < f.length * 2 → y < f.length * 2 → y' < f.length * 2 → σN f (x / 2) (y / 2) * 2 + (1 - y % 2) = σN f (x / 2) (y' / 2) * 2 + (1 - y' % 2) → y = y' := fun x y y' hx h1 h2 he => by
  have := nd.is _ _ _ (d x hx) (d y h1) (d y' h2) (by omega)
  omega
 have it : ∀ y x x', y < f.length * 2 → x < f.length * 2 → x' < f.length * 2 → τN s (y / 2) (x / 2) * 2 + (1 - x % 2) = τN s (y / 2) (x' / 2) * 2 + (1 - x' % 2) → x = x' := fun y x x' hy h1 h2 he => by
  have := nd.it _ _ _ (d y hy) (d x h1) (d x' h2) (by omega)
  omega
 refine ⟨rs, rt, is, it, fun x w hx hw => surj_of_inj (fun y hy => rs x y hx hy) (fun y y' h1 h2 => is x y y' hx h1 h2) w hw, fun x w hx hw => surj_of_inj (fun y hy => rt x y hx hy) (fun y y' h1 h2 => it x y y' hx h1 h2) w hw, ?_, ?_, ?_⟩
 all_goals
  intro x y z hx hy hz
  simp only [g1, g2]
 · rw [nd.e1 _ _ _ (d x hx) (d y hy) (d z hz)]
 · rw [nd.e2 _ _ _ (d x hx) (d y hy) (d z hz)]
 · rw [nd.e3 _ _ _ (d x hx) (d y hy) (d z hz)]
theorem p_rg {f s : List (List Int)} (h : Rg f s) (h6 : f.length ≤ 6) : Rg (pF f) (pS f s) := by
 have h0 := h.1.pos
 have := rg_tab (p_nd h) (by omega) (by omega)
 rw [(p_tabs h.1).1, (p_tabs h.1).2]
 exact this
@[simp] theorem pF_length (f : List (List Int)) : (pF f).length = f.length * 2 := by simp [pF]
theorem p_at {f s : List (List Int)} (h : PM f s) {x y : Nat} (hx : x < f.length * 2) (hy : y < f.length * 2) : σN (pF f) x y = σN f (x / 2) (y / 2) * 2 + (1 - y % 2) ∧ τN (pS f s) y x = τN s (y / 2) (x / 2) * 2 + (1 - x % 2) := by
 unfold σN τN
 rw [(p_tabs h).1, (p_tabs h).2, v2_tabL hx hy, v2_tabL hx hy]
 unfold σN τN
 constructor <;> omega
theorem p_reg {f s : List (List Int)} (h : isReg f s) (h6 : f.length ≤ 6) : isReg (pF f) (pS f s) := by
 have hrg := rg_of h
 have hr := p_rg hrg h6
 refine reg_of hr (inj_nd hr.1 fun x y x' y' hx hy hx' hy' e1 e2 => ?_)
 rw [pF_length] at hx hy hx' hy'
 rw [(p_at hrg.1 hx hy).1, (p_at hrg.1 hx' hy').1] at e1
 rw [(p_at hrg.1 hx hy).2, (p_at hrg.1 hx' hy').2] at e2
 have hi := h.1.2.1
 obtain ⟨q1, q2⟩ := inj_pair hi (x := x / 2) (y := y / 2) (x' := x' / 2) (y' := y' / 2) (by omega) (by omega) (by omega) (by omega)
  (by rw [← (hrg.1.v2f _ _).1, ← (hrg.1.v2f _ _).1]; omega) (by rw [← (hrg.1.v2s _ _).1, ← (hrg.1.v2s _ _).1]; omega)
 omega
theorem p_alk {f s : List (List Int)} (h : PM f s) {x x' : Nat} (hx : x < f.length * 2) (hx' : x' < f.length * 2) : Alk (f.length * 2) (σN (pF f)) (τN (pS f s)) x x' ↔ Alk f.length (σN f) (τN s) (x / 2) (x' / 2) := by
 constructor
 · intro ha y hy
   obtain ⟨a1, a2⟩ := ha (y * 2) (by omega)
   rw [(p_at h hx (by omega)).1, (p_at h hx' (by omega)).1] at a1
   rw [(p_at h (by omega) hx).2, (p_at h (by omega) hx').2] at a2
   have e : y * 2 / 2 = y := by omega
   rw [e] at a1 a2
   constructor <;> omega
 · intro ha y hy
   obtain ⟨a1, a2⟩ := ha (y / 2) (by omega)
   rw [(p_at h hx hy).1, (p_at h hx' hy).1, (p_at h hy hx).2, (p_at h hy hx').2, a1, a2]
   exact ⟨rfl, rfl⟩
def dbl (L : List Int) : List Int := (List.range (L.length * 2)).map fun x => L.getD (x / 2) 0
@[simp] theorem dbl_length (L : List Int) : (dbl L).length = L.length * 2 := by simp [dbl]
theorem dbl_get {L : List Int} {x : Nat} (hx : x < L.length * 2) : (dbl L)[x]'(by simpa using hx) = L[x / 2]'(by omega) := by
 have : x / 2 < L.length := by omega
 simp [dbl, this]
theorem uniqs_dbl (L : List Int) : ∀ k, k ≤ L.length → uniqs ((dbl L).take (k * 2)) = uniqs (L.take k) := by
 intro k
 induction k with
 | zero => intro _; simp
 | succ k ih =>
  intro hk
  have h1 : k * 2 < (dbl L).length := by simp; omega
  have h2 : k * 2 + 1 < (dbl L).length := by simp; omega
  have e1 : (dbl L)[k * 2] = L[k] := by rw [dbl_get (by omega)]; congr 1; omega
  have e2 : (dbl L)[k * 2 + 1] = L[k] := by rw [dbl_get (by omega)]; congr 1; omega
  rw [show (k + 1) * 2 = k * 2 + 1 + 1 by omega, uniqs_succ h2, uniqs_succ h1, ih (by omega), uniqs_succ (show k < L.length by omega), e1, e2]
  by_cases hm : L[k] ∈ uniqs (L.take k)
  · simp [hm]
  · simp [hm]
theorem p_cls {f s : List (List Int)} (h : Rg f s) (h6 : f.length ≤ 6) : clM (pF f) (pS f s) = clM f s ∧ ∀ x, x < f.length * 2 → clC (pF f) (pS f s) x = clC f s (x / 2) := by
 have hpm := h.1
 have hp := (p_rg h h6).1
 have hll := labL_length f s
 have hll2 := labL_length (pF f) (pS f s)
 rw [pF_length] at hll2
 have q := quo_of hp
 have q0 := quo_of hpm
 rw [pF_length] at q
 have lb : ∀ x (hx : x < f.length * 2), (labL (pF f) (pS f s)).getD x 0 = (lab (pF f) (turnL (pS f s)) x : Int) := fun x hx => by
  rw [List.getD_eq_getElem?_getD, List.getElem?_eq_getElem (by omega)]; exact labL_get _ _ _
 have lb0 : ∀ x (hx : x < f.length * 2), (dbl (labL f s)).getD x 0 = (lab f (turnL s) (x / 2) : Int) := fun x hx => by
  rw [List.getD_eq_getElem?_getD, List.getElem?_eq_getElem (by simp; omega)]
  show (dbl (labL f s))[x]'_ = _
  rw [dbl_get (by omega)]
  exact labL_get _ _ _
 have hren : renum (dbl (labL f s)) = renum (labL (pF f) (pS f s)) := by
  refine renum_ker (by simp) fun i j hi hj => ?_
  rw [hll2] at hi hj
  rw [lb i hi, lb j hj, lb0 i hi, lb0 j hj]
  have k1 := eqv_alk hp (x := i) (x' := j) (by rw [pF_length]; exact hi) (by rw [pF_length]; exact hj)
  have k2 := eqv_alk hpm (x := i / 2) (x' := j / 2) (by omega) (by omega)
  rw [pF_length, p_alk hpm hi hj] at k1
  constructor
  · intro he
    have := k1.1 (lab_iff.1 (by omega))
    have := lab_iff.2 (k2.2 this)
    omega
  · intro he
    have := k2.1 (lab_iff.1 (by omega))
    have := lab_iff.2 (k1.2 this)
    omega
 have hun : uniqs (dbl (labL f s)) = uniqs (labL f s) := by
  have := uniqs_dbl (labL f s) f.length (by omega)
  rwa [List.take_of_length_le (by simp), List.take_of_length_le (by omega)] at this
 have hcl : ∀ x, x < f.length * 2 → (classes (pF f) (pS f s)).getD x 0 = (classes f s).getD (x / 2) 0 := fun x hx => by
  have e1 : classes (pF f) (pS f s) = renum (labL (pF f) (pS f s)) := rfl
  have e2 : classes f s = renum (labL f s) := rfl
  have hx2 : x / 2 < (labL f s).length := by omega
  have hx3 : x < (dbl (labL f s)).length := by simp; omega
  rw [e1, e2, ← hren, renum_get hx3, renum_get hx2, hun, dbl_get (by omega)]
 refine ⟨?_, fun x hx => by unfold clC; rw [hcl x hx]⟩
 have g1 := greatest_classes (pF f) (pS f s)
 have g2 := greatest_classes f s
 have m1 : ((clM (pF f) (pS f s) : Nat) : Int) ≤ clM f s := by
  rw [← g1]
  refine greatest_le _ _ (by omega) fun v hv => ?_
  obtain ⟨i, hi, rfl⟩ := List.getElem_of_mem hv
  have hi' : i < f.length * 2 := by simpa using hi
  have e := hcl i hi'
  rw [List.getD_eq_getElem?_getD, List.getElem?_eq_getElem hi] at e
  have := (clC_int (f := f) (s := s) (x := i / 2) (by omega)).1
  have := q0.cm (i / 2) (by omega)
  simp only [Option.getD_some] at e
  omega
 have m2 : ((clM f s : Nat) : Int) ≤ clM (pF f) (pS f s) := by
  rw [← g2]
  refine greatest_le _ _ (by omega) fun v hv => ?_
  obtain ⟨i, hi, rfl⟩ := List.getElem_of_mem hv
  have hi' : i < f.length := by simpa using hi
  have e := hcl (i * 2) (by omega)
  rw [show i * 2 / 2 = i by omega] at e
  have := (clC_int (f := pF f) (s := pS f s) (x := i * 2) (by rw [pF_length]; omega)).1
  have := q.cm (i * 2) (by omega)
  rw [List.getD_eq_getElem?_getD (l := classes f s), List.getElem?_eq_getElem hi] at e
  simp only [Option.getD_some] at e
  omega
 omega
theorem p_ret {f s : List (List Int)} (h : Rg f s) (h6 : f.length ≤ 6) : retF (pF f) (pS f s) = retF f s ∧ retS (pF f) (pS f s) = retS f s := by
 obtain ⟨hm, hc⟩ := p_cls h h6
 have hp := p_rg h h6
 have q := quo_of hp.1
 have q0 := quo_of h.1
 have nd := nd_of hp
 rw [pF_length] at q nd
 have hcd : ∀ i, i < clM f s → clC (pF f) (pS f s) (clD f s i * 2) = i := fun i hi => by
  have := q0.dn i hi
  rw [hc _ (by omega), show clD f s i * 2 / 2 = clD f s i by omega, q0.cd i hi]
 constructor
 · unfold retF
   rw [hm]
   refine tabL_congr fun i j hi hj => ?_
   have d1 := q0.dn i hi
   have d2 := q0.dn j hj
   have e := Quo.fs nd q (x := clD f s i * 2) (y := clD f s j * 2) (by omega) (by omega)
   rw [hcd i hi, hcd j hj] at e
   rw [e, (p_at h.1 (by omega) (by omega)).1, hc _ (by have := (h.1.v2f (clD f s i * 2 / 2) (clD f s j * 2 / 2)).2; omega)]
   congr 2
   rw [show clD f s i * 2 / 2 = clD f s i by omega, show clD f s j * 2 / 2 = clD f s j by omega]
   omega
 · unfold retS
   rw [hm]
   refine tabL_congr fun i j hi hj => ?_
   have d1 := q0.dn i hi
   have d2 := q0.dn j hj
   have e := Quo.ft nd q (x := clD f s i * 2) (y := clD f s j * 2) (by omega) (by omega)
   rw [hcd i hi, hcd j hj] at e
   rw [e, (p_at h.1 (by omega) (by omega)).2, hc _ (by have := (h.1.v2s (clD f s i * 2 / 2) (clD f s j * 2 / 2)).2; omega)]
   congr 2
   rw [show clD f s i * 2 / 2 = clD f s i by omega, show clD f s j * 2 / 2 = clD f s j by omega]
   omega
theorem p_lv {f s : List (List Int)} (h : Rg f s) (h6 : f.length ≤ 6) : lvL (pF f) (pS f s) = lvL f s ∧ (lvN (pF f) (pS f s) = lvN f s ∧ 2 ≤ lvN f s ∨ lvN f s = 1 ∧ lvN (pF f) (pS f s) = 2 ∧ lvL f s = f.length) := by
 have h0 := h.1.pos
 obtain ⟨hm, _⟩ := p_cls h h6
 obtain ⟨r1, r2⟩ := p_ret h h6
 have hle := clM_le f s
 obtain ⟨a1, a2⟩ := lv_next (f := pF f) (s := pS f s) (by simp; omega) (by rw [hm, pF_length]; omega)
 rw [r1, r2] at a1 a2
 by_cases hc : clM f s = f.length
 · have hf := ret_full h hc
   have hp : 0 < (retF f s).length := by simp; omega
   obtain ⟨b1, b2⟩ := lv_stop h0 hc
   obtain ⟨c1, c2⟩ := lv_stop hp hf
   have hl := retF_length f s
   exact ⟨by omega, Or.inr ⟨b1, by omega, b2⟩⟩
 · obtain ⟨b1, b2⟩ := lv_next h0 hc
   have hp : 0 < lvN (retF f s) (retS f s) := by
    have := serL_nil (f := retF f s) (s := retS f s) (by have := clM_pos (s := s) h0; simpa using this)
    unfold lvN
    exact List.length_pos_iff.2 this
   exact ⟨by omega, Or.inl ⟨by omega, by omega⟩⟩
theorem tw_lv {f s : List (List Int)} (h : Rg f s) : clM f s = 1 ↔ lvL f s ≤ 1 ∧ lvN f s ≤ 2 := by
 have h0 := h.1.pos
 have hle := clM_le f s
 have hp := clM_pos (s := s) h0
 by_cases hc : clM f s = f.length
 · obtain ⟨b1, b2⟩ := lv_stop h0 hc
   omega
 · obtain ⟨b1, b2⟩ := lv_next h0 hc
   have hl := retF_length f s
   have hrp : 0 < (retF f s).length := by omega
   have hrle := clM_le (retF f s) (retS f s)
   have hrpp := clM_pos (s := retS f s) hrp
   by_cases hc2 : clM (retF f s) (retS f s) = (retF f s).length
   · obtain ⟨c1, c2⟩ := lv_stop hrp hc2
     omega
   · obtain ⟨c1, c2⟩ := lv_next hrp hc2
     have : 0 < lvN (retF (retF f s) (retS f s)) (retS (retF f s) (retS f s)) := by
      have := serL_nil (f := retF (retF f s) (retS f s)) (s := retS (retF f s) (retS f s)) (by simpa using hrpp)
      unfold lvN
      exact List.length_pos_iff.2 this
     omega
end Go.Mch
namespace Go.Mch
structure Cnj (L : List (List Int)) : Prop where
 pos : 0 < L.length
 six : L.length ≤ 6
 pm : ∀ p ∈ L, Pm p ∧ p.length = 3
 cl : ∀ i j (hi : i < L.length) (hj : j < L.length), ∃ m, ∃ h : m < L.length, L[m] = thenL (thenL (invL L[i]) L[j]) L[i]
end Go.Mch
namespace Go.Mch
def SqS (X : S2) : Prop := ∃ m, 0 < m ∧ m ≤ 12 ∧ (X.1.length = m ∧ ∀ r ∈ X.1, r.length = m) ∧ (X.2.length = m ∧ ∀ r ∈ X.2, r.length = m)
end Go.Mch
namespace Go.Mch
theorem tab_fit {f s : List (List Int)} (h : PM f s) : fits f ∧ fits s := by
 have h12 := h.small
 have hl := h.len
 exact ⟨⟨by omega, fun r hr => by have := (h.tf r hr).1; omega⟩, ⟨by omega, fun r hr => by have := (h.ts r hr).1; omega⟩⟩
theorem Bd.fits {t : List (List Int)} (h : Bd t) : fits t := ⟨by have := h.1; omega, fun r hr => by have := h.2 r hr; omega⟩
end Go.Mch
namespace Go.Mch

def irr (f s : List (List Int)) : Bool := decide (1 < f.length ∧ clM f s = f.length)
def S_irr (pg : Pg) (n : Nat) : Prop := S_solB pg n (onReg false irr) (onReg 1 fun _ _ => 0)
theorem serL_one {f s : List (List Int)} (h : 0 < f.length) : (serL f.length f s).length = 1 ↔ clM f s = f.length := by
 obtain ⟨n, hn⟩ : ∃ n, f.length = n + 1 := ⟨f.length - 1, by omega⟩
 have hm := clM_le f s
 have hp := clM_pos (s := s) h
 rw [hn, serL, ← hn]
 by_cases hc : clM f s = f.length
 · simp [hc]
 · rw [if_neg hc]
   obtain ⟨k, rfl⟩ : ∃ k, n = k + 1 := ⟨n - 1, by omega⟩
   simp [serL, hc]
theorem t_irr_impl {pg : Pg} (hp : pg.fn 174 = some c_impl_IsIrretractable) (h266 : S_reg pg 266) (h310 : S_serI pg) : S_irr pg 174 := by
 intro f s hf hs
 refine Call.intro hp rfl (by simp) ?_
 show wp _ _ c_impl_IsIrretractable.body (post [.t 2, .t 3] _ _ _) _
 simp [c_impl_IsIrretractable]
 refine callR (h266 f s hf hs) rfl rfl (fun _ => rfl) ?_
 by_cases h : isReg f s
 · have hpm := PM.of h.1.1
   have h0 := hpm.pos
   have h12 := hpm.small
   have hone := serL_one (s := s) h0
   simp [dec_true h, onReg_true h]
   by_cases h1 : 1 < f.length
   · have h1' : (1 : Int) < f.length := by omega
     simp [h1']
     refine callR (h310 f s (rg_of h)) rfl rfl (fun hh => by simp at hh) ?_
     have hsl := serT_length (serL f.length f s)
     generalize hser : serL f.length f s = L at *
     simp [hsl]
     unfold irr
     congr 1
     rw [eq_iff_iff]
     constructor
     · intro hh; exact ⟨h1, hone.1 (by omega)⟩
     · intro hh; have := hone.2 hh.2; omega
   · have h1' : ¬ (1 : Int) < f.length := by omega
     simp [h1, h1', irr, undefV]
 · simp [dec_false h, onReg_false h]
end Go.Mch
namespace Go.Mch
def S_sh_S (pg : Pg) (n : Nat) (R0 : List (List Int) → List (List Int) → Option (List (List Int) × List (List Int))) (R1 : List (List Int) → List (List Int) → Int) : Prop := ∀ (f0 s0 : List (List Int)), fits f0 → fits s0 → Call pg n [sol f0 s0] [sol f0 s0] (.tup [solT (R0 f0 s0), I (R1 f0 s0)])
end Go.Mch
namespace Go.Mch

open Classical in
noncomputable def lrR (f s : List (List Int)) : Option (List (List Int) × List (List Int)) := if isReg f s then (serL f.length f s).getLast? else none
def S_lrI (pg : Pg) (n : Nat) : Prop := S_sh_S pg n lrR (onReg 1 fun _ _ => 0)
theorem t_lr_impl {pg : Pg} (hp : pg.fn 204 = some c_impl_LastRetract) (h266 : S_reg pg 266) (h310 : S_serI pg) (h275 : S_copyT pg 275) : S_lrI pg 204 := by
 intro f s hf hs
 refine Call.intro hp rfl (by simp) ?_
 show wp _ _ c_impl_LastRetract.body (post [.cell 2 (some 2), .t 3] _ _ _) _
 simp [c_impl_LastRetract]
 refine callR (h266 f s hf hs) rfl rfl (fun _ => rfl) ?_
 by_cases h : isReg f s
 · have hpm := PM.of h.1.1
   have h0 := hpm.pos
   have h12 := hpm.small
   obtain ⟨P, F, S, hser⟩ := serL_ne (s := s) h0
   have hsl := serL_len f.length f s
   rw [hser] at hsl
   simp at hsl
   have hlr : lrR f s = some (F, S) := by rw [lrR, if_pos h, hser]; simp
   have hrg := rg_of h
   have hFS : Rg F S := by
    have := serL_rg f.length f s hrg P.length (by rw [hser]; simp)
    simpa [hser] using this
   have hF := hFS.1.fitsF
   have hS : fits S := ⟨by have := hFS.1.len; have := hFS.1.small; omega, fun r hr => by have := (hFS.1.ts r hr).1; have := hFS.1.len; have := hFS.1.small; omega⟩
   simp [dec_true h, onReg_true h]
   have hcall := h310 f s hrg
   rw [hser] at hcall
   refine callR hcall rfl rfl (fun hh => by simp at hh) ?_
   have hlen2 : (serT (P ++ [(F, S)])).length = 2 * P.length + 2 := by rw [serT_length]; simp; omega
   have hwn : ∀ (C : List T) (A B : T), serT (P ++ [(F, S)]) = C ++ [A, B] → win (serT (P ++ [(F, S)])) (P.length * 2) 2 = [A, B] := fun C A B hh => by
    have hCl : C.length = P.length * 2 := by have := congrArg List.length hh; rw [hlen2] at this; simp at this; omega
    rw [hh, win, ← hCl]
    simp
   obtain ⟨C, hC⟩ := serT_last P F S
   have hwin : win (serT (P ++ [(F, S)])) (P.length * 2) 2 = [tb F, tb S] ∨ win (serT (P ++ [(F, S)])) (P.length * 2) 2 = [frT F, frT S] := hC.imp (hwn C _ _) (hwn C _ _)
   clear hC hwn
   generalize serT (P ++ [(F, S)]) = L at *
   have hlen : L.length / 2 = P.length + 1 := by omega
   have hw : win L 0 ((P.length + 1) * 2) = L := by unfold win; exact List.take_of_length_le (by simp; omega)
   have hw2 : win L 0 L.length = L := by simp [win]
   rcases hwin with hwin | hwin
   · simp [hw, hlen2, hwin]
     refine ⟨by omega, by omega, by omega, by omega, ?_⟩
     refine callR (h275 F hF) rfl rfl (fun _ => by simp) ?_
     simp
     refine callR (h275 S hS) rfl rfl (fun _ => by simp) ?_
     rw [hlr]
     simp [solT]
   · simp [hw, hlen2, hwin]
     refine ⟨by omega, by omega, by omega, by omega, ?_⟩
     refine callR (h275 F hF) rfl rfl (fun _ => by simp) ?_
     simp
     refine callR (h275 S hS) rfl rfl (fun _ => by simp) ?_
     rw [hlr]
     simp [solT]
 · simp [lrR, h, onReg_false h, solT]
end Go.Mch
namespace Go.Mch

theorem t_dLv {pg : Pg} (hp : pg.fn 226 = some c_spec_DrawLevelOf) (h269 : S_from pg) (h268 : S_spl pg 268) : S_drS pg 226 := by
 intro c hc
 obtain ⟨s, hs, hc1⟩ := h269 c hc
 obtain ⟨s1, X, ⟨k1, k2, k3⟩, hc2⟩ := h268 c s 10 hs (by omega) (by omega)
 refine ⟨X, ⟨k2, k3⟩, Call.intro hp rfl (by simp) ?_⟩
 show wp _ _ c_spec_DrawLevelOf.body (post [.cell 2 (some 2)] _ _ _) _
 simp [c_spec_DrawLevelOf]
 refine callR hc1 rfl rfl (fun h => by simp at h) ?_
 simp
 refine callM (ts' := [src c s1, I 10]) (r := ownS X) ?_ ?_ ?_ ?_
 · simp
 · simpa using hc2
 · simp
 simp


def twP : List Int := [1, 0]
def tw2F : List (List Int) := tabL 2 fun _ y => 1 - (y : Int)
def tw2S : List (List Int) := tabL 2 fun x _ => 1 - (x : Int)
def S_isP1 (pg : Pg) : Prop := Call pg 346 [ix twP] [ix twP] (B true)
theorem t_isP1 {pg : Pg} (hp : pg.fn 346 = some c_impl_IsPermutation) (h35 : S_in pg 35) (h66 : S_isPermuted pg) : S_isP1 pg := by
 refine Call.intro hp rfl (by simp) ?_
 show wp _ _ c_impl_IsPermutation.body (post [.t 2] _ _ _) _
 have h1 := h66 twP (by simp [twP])
 rw [decide_eq_true (show isPermuted twP by decide)] at h1
 simp [c_impl_IsPermutation, twP]
 refine callR (h35 2 1 12) rfl rfl (fun _ => rfl) ?_
 simp
 refine callR h1 rfl rfl (fun _ => rfl) ?_
 simp
def S_tws1 (pg : Pg) : Prop := ∀ x y : Nat, x < 2 → y < 2 → Call pg 409 [I x, I y, .mem .old none [ix twP], .mem .old none [ix twP]] [I x, I y, .mem .old none [ix twP], .mem .old none [ix twP]] (.tup [I (1 - (y : Int)), I (1 - (x : Int))])
theorem t_tws1 {pg : Pg} (hp : pg.fn 409 = some c_impl_twist_1) : S_tws1 pg := by
 intro x y hx hy
 obtain ⟨p, ep, e⟩ : ∃ p : List Int, twP = p ∧ ∀ k : Nat, k < 2 → ∃ h : k < p.length, p[k] = 1 - (k : Int) := ⟨[1, 0], rfl, fun k hk => by
  match k, hk with
  | 0, _ => exact ⟨by simp, rfl⟩
  | 1, _ => exact ⟨by simp, rfl⟩⟩
 obtain ⟨hxp, e1⟩ := e x hx
 obtain ⟨hyp, e2⟩ := e y hy
 rw [ep]
 refine Call.intro hp rfl (by simp) ?_
 show wp _ _ c_impl_twist_1.body (post [.t 6, .t 7] _ _ _) _
 simp [c_impl_twist_1, hxp, hyp, e1, e2]
def S_tws (pg : Pg) : Prop := Call pg 347 [ix twP, ix twP] [ix twP, ix twP] (.agg [ownTb tw2F, ownTb tw2S])
theorem t_tws {pg : Pg} (hp : pg.fn 347 = some c_impl_twist) (h308 : S_solBy pg) (h409 : S_tws1 pg) : S_tws pg := by
 refine Call.intro hp rfl (by simp) ?_
 show wp _ _ c_impl_twist.body (post [.cell 4 (some 2)] _ _ _) _
 have hl : twP.length = 2 := rfl
 simp [c_impl_twist, hl]
 refine callR (h308 2 (fun _ y => 1 - (y : Int)) (fun x _ => 1 - (x : Int)) 409 [.mem .old none [ix twP], .mem .old none [ix twP]] (by omega) (by simp) (by simp) fun x y hx hy => h409 x y hx hy) rfl rfl (fun _ => by simp) ?_
 simp [tw2F, tw2S]
def S_twsol (pg : Pg) : Prop := Call pg 227 [ix twP, ix twP] [ix twP, ix twP] (.tup [.agg [ownTb tw2F, ownTb tw2S], I 0])
theorem t_twsol {pg : Pg} (hp : pg.fn 227 = some c_impl_TwistSolution) (h346 : S_isP1 pg) (h277 : S_then pg 277) (h276 : S_equal pg) (h347 : S_tws pg) : S_twsol pg := by
 have c1 := h277 twP twP (by simp [twP]) (by intro v hv; simp [twP] at hv; rcases hv with rfl | rfl <;> simp [twP])
 have c2 := h276 (thenL twP twP) (thenL twP twP) (by simp [thenL, twP])
 refine Call.intro hp rfl (by simp) ?_
 show wp _ _ c_impl_TwistSolution.body (post [.cell 4 (some 2), .t 5] _ _ _) _
 unfold S_isP1 S_tws at *
 generalize tw2F = F at *
 generalize tw2S = S at *
 generalize thenL twP twP = q at *
 generalize twP = p at *
 simp [c_impl_TwistSolution]
 refine callR h346 rfl rfl (fun _ => rfl) ?_
 simp
 refine callR h346 rfl rfl (fun _ => rfl) ?_
 simp
 refine callR c1 rfl rfl (fun _ => by simp) ?_
 simp
 refine callR c1 rfl rfl (fun _ => by simp) ?_
 simp
 refine callR c2 rfl rfl (fun _ => rfl) ?_
 simp
 refine callR h347 rfl rfl (fun _ => by simp) ?_
 simp


theorem tw2_pm : PM tw2F tw2S := PM.of (by decide)
theorem tw2_ex : ∃ F S : List (List Int), tw2F = F ∧ tw2S = S ∧ F.length = 2 ∧ S.length = 2 ∧ ∀ a b : Nat, a < 2 → b < 2 → (∃ (h1 : a < F.length) (h2 : b < (F[a]).length), (F[a])[b] = 1 - (b : Int)) ∧ ∃ (h1 : a < S.length) (h2 : b < (S[a]).length), (S[a])[b] = 1 - (a : Int) := by
 refine ⟨tw2F, tw2S, rfl, rfl, rfl, rfl, fun a b ha hb => ?_⟩
 have xF : a < tw2F.length := ha
 have xS : a < tw2S.length := ha
 have rF : (tw2F[a]).length = 2 := tw2_pm.tf.row xF
 have rS : (tw2S[a]).length = 2 := tw2_pm.ts.row xS
 have yF : b < (tw2F[a]).length := by omega
 have yS : b < (tw2S[a]).length := by omega
 exact ⟨⟨xF, yF, (get_v2 xF yF).trans (v2_tabL ha hb)⟩, xS, yS, (get_v2 xS yS).trans (v2_tabL ha hb)⟩
def S_prod1 (pg : Pg) : Prop := ∀ (f s : List (List Int)) (x y : Nat), PM f s → x < f.length * 2 → y < f.length * 2 →
 Call pg 348 [I x, I y, .mem .old none [tb f, tb s], .mem .old none [I 2], .mem .old none [tb tw2F, tb tw2S]] [I x, I y, .mem .old none [tb f, tb s], .mem .old none [I 2], .mem .old none [tb tw2F, tb tw2S]] (.tup [I (pf2 f x y), I (ps2 s x y)])
set_option maxRecDepth 20000 in
theorem t_prod1 {pg : Pg} (hp : pg.fn 348 = some c_impl_ProductSolution_1) : S_prod1 pg := by
 intro f s x y h hx hy
 have h12 := h.small
 have hx2 : x / 2 < f.length := by omega
 have hy2 : y / 2 < f.length := by omega
 have hxs : x / 2 < s.length := by have := h.len; omega
 have r1 := h.tf.row hx2
 have r2 := (h.ts.row hxs).trans h.len
 have y1 : y / 2 < (f[x / 2]).length := by omega
 have y2 : y / 2 < (s[x / 2]).length := by omega
 have v1 := get_v2 hx2 y1
 have v2' := get_v2 hxs y2
 have b1 := h.v2f (x / 2) (y / 2)
 have b2 := h.v2s (x / 2) (y / 2)
 have hxm : x % 2 < 2 := Nat.mod_lt _ (by omega)
 have hym : y % 2 < 2 := Nat.mod_lt _ (by omega)
 obtain ⟨F, S, eF, eS, hF, hS, hat⟩ := tw2_ex
 obtain ⟨⟨xF, yF, wF⟩, xS, yS, wS⟩ := hat (x % 2) (y % 2) hxm hym
 rw [eF, eS]
 unfold pf2 ps2
 refine Call.intro hp rfl (by simp) ?_
 show wp _ _ c_impl_ProductSolution_1.body (post [.t 7, .t 8] _ _ _) _
 rw [← b1.1] at v1 ⊢
 rw [← b2.1] at v2' ⊢
 generalize σN f (x / 2) (y / 2) = a at *
 generalize τN s (y / 2) (x / 2) = b at *
 have q1 : (x : Int) / 2 = ((x / 2 : Nat) : Int) := (Int.natCast_ediv _ _).symm
 have q2 : (y : Int) / 2 = ((y / 2 : Nat) : Int) := (Int.natCast_ediv _ _).symm
 have q3 : (x : Int) % 2 = ((x % 2 : Nat) : Int) := (Int.natCast_emod _ _).symm
 have q4 : (y : Int) % 2 = ((y % 2 : Nat) : Int) := (Int.natCast_emod _ _).symm
 have q5 : (x : Int).tdiv 2 = ((x / 2 : Nat) : Int) := tdiv_nat x 2
 have q6 : (y : Int).tdiv 2 = ((y / 2 : Nat) : Int) := tdiv_nat y 2
 have q7 : (x : Int).tmod 2 = ((x % 2 : Nat) : Int) := tmod_nat x 2
 have q8 : (y : Int).tmod 2 = ((y % 2 : Nat) : Int) := tmod_nat y 2
 generalize x / 2 = x2 at *
 generalize y / 2 = y2 at *
 generalize x % 2 = xm at *
 generalize y % 2 = ym at *
 have n1 : xm < 2 := hxm
 simp [c_impl_ProductSolution_1, q5, q6, q7, q8, hx2, hxs, y1, y2, v1, v2', xF, xS, yF, yS, wF, wS]
 have := b1.2
 have := b2.2
 omega
def S_prod (pg : Pg) : Prop := ∀ f s : List (List Int), isPairMap f s → f.length ≤ 6 → Call pg 228 [sol f s, sol tw2F tw2S] [sol f s, sol tw2F tw2S] (.tup [.agg [ownTb (pF f), ownTb (pS f s)], I 0])
theorem t_prod {pg : Pg} (hp : pg.fn 228 = some c_impl_ProductSolution) (h59 : S_pairMap pg 59) (h308 : S_solBy pg) (h348 : S_prod1 pg) : S_prod pg := by
 intro f s h h6
 have hpm := PM.of h
 obtain ⟨ff, fs⟩ := tab_fit hpm
 obtain ⟨gf, gs⟩ := tab_fit tw2_pm
 have c1 := h59 f s ff fs
 have c2 := h59 tw2F tw2S gf gs
 rw [decide_eq_true h] at c1
 rw [decide_eq_true (pair_of tw2_pm)] at c2
 have hl : tw2F.length = 2 := rfl
 have hb := h308 (f.length * 2) (pf2 f) (ps2 s) 348 [.mem .old none [tb f, tb s], .mem .old none [I 2], .mem .old none [tb tw2F, tb tw2S]] (by omega) (by simp) (by simp) fun x y hx hy => h348 f s x y hpm hx hy
 have em : ((f.length * 2 : Nat) : Int) = (f.length : Int) * 2 := Int.natCast_mul _ _
 rw [em] at hb
 have hle : ¬ (12 : Int) < (f.length : Int) * 2 := by omega
 refine Call.intro hp rfl (by simp) ?_
 show wp _ _ c_impl_ProductSolution.body (post [.cell 4 (some 2), .t 5] _ _ _) _
 unfold pF pS
 generalize tabL (f.length * 2) (pf2 f) = PF at *
 generalize tabL (f.length * 2) (ps2 s) = PS at *
 generalize tw2F = F at *
 generalize tw2S = S at *
 simp [c_impl_ProductSolution]
 refine callR c1 rfl rfl (fun _ => rfl) ?_
 simp
 refine callR c2 rfl rfl (fun _ => rfl) ?_
 simp [hl, hle]
 refine ⟨by omega, ?_⟩
 refine callR hb rfl rfl (fun _ => by simp) ?_
 simp
end Go.Mch
namespace Go.Mch
def S_law112 (pg : Pg) : Prop := ∀ c : Rw Int, okB c → ∃ args', Call pg 112 [rawB c] args' (B true)
set_option maxHeartbeats 4000000 in
set_option maxRecDepth 20000 in
theorem t_law112 {pg : Pg} (hp : pg.fn 112 = some c_laws_FnLevels) (h128 : S_big pg) (h226 : S_drS pg 226) (h185 : S_lv pg 185) (h184 : S_lv pg 184) (h189 : S_rs pg 189) (h204 : S_lrI pg 204) (h153 : S_twist pg 153) (h174 : S_irr pg 174) (h187 : S_ro pg 187) (h227 : S_twsol pg) (h228 : S_prod pg) : S_law112 pg := by
 intro c hc
 obtain ⟨⟨f, s⟩, ⟨hX1, hX2⟩, hd⟩ := h226 c hc
 have hf : fits f := hX1.fits
 have hs : fits s := hX2.fits
 refine ⟨[rawB c], Call.intro hp rfl (by simp) ?_⟩
 show wp _ _ c_laws_FnLevels.body (post [.t 2] _ _ _) _
 simp [c_laws_FnLevels]
 refine callR (h128 c) rfl rfl (fun _ => rfl) ?_
 by_cases hbig : (4096 : Int) < (lst c).length
 · simp [hbig]
 · simp [hbig]
   refine callR hd rfl rfl (fun _ => by simp) ?_
   have hc1 := h185 f s hf hs
   have hc2 := h184 f s hf hs
   by_cases hgo : isReg f s
   · have hrg := rg_of hgo
     have hpm := hrg.1
     have h0 := hpm.pos
     have h12 := hpm.small
     obtain ⟨o3, e3, hc3⟩ := h189 f s hf hs
     simp only [onReg_true hgo] at e3 hc3
     obtain ⟨P, F, S, hser⟩ := serL_ne (s := s) h0
     have hN : (rsL f s).length = P.length + 1 := by simp [rsL, hser]
     have hR0 : (rsL f s)[0]? = some (f.length : Int) := by
      have := rsL_get (f := f) (s := s) (k := 0) (by rw [hser]; simp)
      rw [List.getD_eq_getElem?_getD, List.getElem?_eq_getElem (by omega)] at this
      rw [List.getElem?_eq_getElem (by omega)]
      exact congrArg some this
     have hRn : (rsL f s)[P.length]? = some (F.length : Int) := by simp [rsL, hser]
     have hlN : lvN f s = P.length + 1 := by simp [lvN, hser]
     have hlL : lvL f s = F.length := by simp [lvL, hser]
     have hlr : lrR f s = some (F, S) := by simp [lrR, hgo, hser]
     have hend := serL_end f.length f s rfl h0 F S (by rw [hser]; simp)
     have hFreg : isReg F S := by
      have hP : P.length < (serL f.length f s).length := by rw [hser]; simp
      have e := serL_get f.length f s P.length hP
      have e2 : (serL f.length f s)[P.length] = (F, S) := by simp [hser]
      rw [e2] at e
      have := serA_reg hgo P.length
      rwa [← e] at this
     have hFm := PM.of hFreg.1.1
     obtain ⟨fF, fS⟩ := tab_fit hFm
     obtain rfl : o3 = some (rsL f s) := by
      cases o3 with
      | none => simp only [lso_none] at e3; rw [← e3] at hN; simp at hN
      | some l => simp only [lso_some] at e3; rw [e3]
     have hc4 := h204 f s hf hs
     rw [hlr, onReg_true hgo] at hc4
     have hc5 := h153 f s hf hs
     have hc6 := h174 f s hf hs
     have hc7 := h174 F S fF fS
     simp only [onReg_true hgo] at hc5 hc6
     simp only [onReg_true hFreg] at hc7
     have hcl : greatest (classes f s) = maxL (classes f s) + 1 := greatest_max _ (by simp; exact h0) (fun x hx => (classes_rng hx).1)
     rw [greatest_classes] at hcl
     have htw := tw_lv hrg
     have ht : decide (maxL (classes f s) = 0) = decide (F.length ≤ 1 ∧ P.length ≤ 1) := by
      by_cases hh : F.length ≤ 1 ∧ P.length ≤ 1
      · have := htw.2 (by omega)
        rw [decide_eq_true hh, decide_eq_true (by omega)]
      · have : ¬ clM f s = 1 := fun h => hh (by have := htw.1 h; omega)
        rw [decide_eq_false hh, decide_eq_false (by omega)]
     rw [ht] at hc5
     have hirF : irr F S = decide (1 < F.length) := by simp [irr, hend]
     rw [hirF] at hc7
     have hone := serL_one (s := s) h0
     have hir : irr f s = decide (1 < f.length ∧ P.length = 0) := by
      have : clM f s = f.length ↔ P.length = 0 := by rw [← hone, hser]; simp
      simp only [irr, this]
     rw [hir] at hc6
     have hstop : P.length = 0 → F.length = f.length := fun h => by
      have hP : P = [] := List.length_eq_zero_iff.1 h
      have := hone.1 (by rw [hser, hP]; rfl)
      have := (lv_stop h0 this).2
      omega
     have hv1 : lvR f s = if 1 < F.length then 0 else (P.length : Int) := by
      simp only [lvR, onReg_true hgo, hlL, hlN]
      split <;> omega
     have hv2 : lvC f s = if 1 < F.length then 4 else 0 := by simp only [lvC, onReg_true hgo, hlL]
     rw [hv1, hv2] at hc1 hc2
     have hret : P.length ≠ 0 → Call pg 187 [sol f s] [sol f s] (.tup [.agg [ownTb (retF f s), ownTb (retS f s)], I 0]) ∧ Call pg 185 [sol (retF f s) (retS f s)] [sol (retF f s) (retS f s)] (.tup [I (if 1 < F.length then 0 else (P.length : Int) - 1), I (if 1 < F.length then 4 else 0)]) := fun hP => by
      have hne : clM f s ≠ f.length := fun h => hP (by have := hone.2 h; rw [hser] at this; simpa using this)
      obtain ⟨a1, a2⟩ := lv_next h0 hne
      have hrr := ret_isSol hgo
      obtain ⟨rf, rs⟩ := tab_fit (PM.of hrr.1.1)
      have k1 := h187 f s hf hs
      rw [show roR f s = some (retF f s, retS f s) from if_pos hgo, onReg_true hgo] at k1
      have k2 := h185 (retF f s) (retS f s) rf rs
      have w1 : lvR (retF f s) (retS f s) = if 1 < F.length then 0 else (P.length : Int) - 1 := by
       simp only [lvR, onReg_true hrr, ← a2, hlL]
       split <;> omega
      have w2 : lvC (retF f s) (retS f s) = if 1 < F.length then 4 else 0 := by simp only [lvC, onReg_true hrr, ← a2, hlL]
      rw [w1, w2] at k2
      exact ⟨k1, k2⟩
     have hprod : f.length ≤ 6 → Call pg 228 [sol f s, sol tw2F tw2S] [sol f s, sol tw2F tw2S] (.tup [.agg [ownTb (pF f), ownTb (pS f s)], I 0]) ∧ Call pg 185 [sol (pF f) (pS f s)] [sol (pF f) (pS f s)] (.tup [I (if 1 < F.length then 0 else if P.length = 0 then 1 else (P.length : Int)), I (if 1 < F.length then 4 else 0)]) := fun h6 => by
      obtain ⟨a1, a2⟩ := p_lv hrg h6
      have hrr := p_reg hgo h6
      obtain ⟨rf, rs⟩ := tab_fit (PM.of hrr.1.1)
      have k2 := h185 (pF f) (pS f s) rf rs
      have w1 : lvR (pF f) (pS f s) = if 1 < F.length then 0 else if P.length = 0 then 1 else (P.length : Int) := by
       simp only [lvR, onReg_true hrr, a1, hlL]
       split
       · rfl
       · split <;> omega
      have w2 : lvC (pF f) (pS f s) = if 1 < F.length then 4 else 0 := by simp only [lvC, onReg_true hrr, a1, hlL]
      rw [w1, w2] at k2
      exact ⟨h228 f s hgo.1.1 h6, k2⟩
     have hFl := hFm.pos
     have hF12 := hFm.small
     have hP12 : P.length < f.length := by have := serL_len f.length f s; rw [hser] at this; simp at this; omega
     unfold S_twsol at h227
     rw [show twP = [1, 0] from rfl] at h227
     have hRN : (((P.length + 1 : Nat) : Int) - 1).toNat = P.length := by omega
     clear hv1 hv2 hir hirF htw ht hcl hone hend hlN hlL hlr hser e3 hd hX1 hX2 hFreg hFm fF fS h185 h184 h189 h204 h153 h174 h187 h228 h226 h128
     generalize retF f s = RF at *
     generalize retS f s = RS at *
     generalize pF f = PF at *
     generalize pS f s = PS at *
     generalize tw2F = TF at *
     generalize tw2S = TS at *
     generalize rsL f s = R at *
     simp only [ownI, solT] at hc3 hc4
     have hRM : (R.map I)[0]? = some (I f.length) := by simp [hR0]
     have hRM2 : (R.map I)[P.length]? = some (I F.length) := by simp [hRn]
     generalize P.length = p at *
     have hNR : (R.length : Int) = (p : Int) + 1 := by omega
     have hRN' : ((p : Int) + 1 - 1).toNat = p := by omega
     obtain ⟨r0, hRe0⟩ : ∃ h : 0 < R.length, R[0] = (f.length : Int) := ⟨by omega, by rw [List.getElem?_eq_getElem (by omega)] at hR0; exact Option.some.inj hR0⟩
     obtain ⟨rn, hRen⟩ : ∃ h : p < R.length, R[p] = (F.length : Int) := ⟨by omega, by rw [List.getElem?_eq_getElem (by omega)] at hRn; exact Option.some.inj hRn⟩
     by_cases hL : 1 < F.length
     · have hL' : (1 : Int) < F.length := by omega
       have hL2 : ¬ F.length ≤ 1 := by omega
       simp only [if_pos hL] at hc1 hc2 hret hprod
       rw [decide_eq_true hL] at hc7
       rw [decide_eq_false (show ¬ (F.length ≤ 1 ∧ p ≤ 1) by omega)] at hc5
       by_cases hp0 : p = 0
       · have hfF := hstop hp0
         rw [decide_eq_true (show 1 < f.length ∧ p = 0 by omega)] at hc6
         have hf1 : (1 : Int) < f.length := by omega
         subst hp0
         simp
         refine callR hc1 rfl rfl (fun _ => rfl) ?_
         simp
         refine callR hc2 rfl rfl (fun _ => rfl) ?_
         simp
         refine callR hc3 rfl rfl (fun _ => by simp) ?_
         simp
         refine callR hc4 rfl rfl (fun _ => by simp) ?_
         simp
         refine callR hc5 rfl rfl (fun _ => rfl) ?_
         simp
         refine callR hc6 rfl rfl (fun _ => rfl) ?_
         simp [hN, hf1, hRe0, hfF]
         refine callR hc7 rfl rfl (fun _ => rfl) ?_
         simp [hf1, undefV]
         by_cases h6 : (6 : Int) < f.length
         · have h6' : ¬ (f.length : Int) ≤ 6 := by omega
           simp [h6, h6']
         · obtain ⟨k1, k2⟩ := hprod (by omega)
           have h6' : (f.length : Int) ≤ 6 := by omega
           simp [h6, h6']
           refine callR h227 rfl rfl (fun _ => by simp) ?_
           simp
           refine callR k1 rfl rfl (fun _ => by simp) ?_
           simp
           refine callR k2 rfl rfl (fun _ => by simp) ?_
           simp [undefV]
       · have hf1 : (1 : Int) < f.length := by omega
         have hp1 : ¬ (p : Int) = 0 := by omega
         have hp2 : ¬ (p : Int) + 1 = 1 := by omega
         have hp5 : ¬ (p : Int) + 1 = 0 := by omega
         rw [decide_eq_false (show ¬ (1 < f.length ∧ p = 0) by omega)] at hc6
         obtain ⟨k3, k4⟩ := hret hp0
         simp
         refine callR hc1 rfl rfl (fun _ => rfl) ?_
         simp
         refine callR hc2 rfl rfl (fun _ => rfl) ?_
         simp
         refine callR hc3 rfl rfl (fun _ => by simp) ?_
         simp
         refine callR hc4 rfl rfl (fun _ => by simp) ?_
         simp
         refine callR hc5 rfl rfl (fun _ => rfl) ?_
         simp
         refine callR hc6 rfl rfl (fun _ => rfl) ?_
         simp [hN, hRe0, hRen, hp2, hp5, undefV]
         refine ⟨by omega, by omega, ?_⟩
         refine callR hc7 rfl rfl (fun _ => rfl) ?_
         simp [hf1, undefV]
         refine callR k3 rfl rfl (fun _ => by simp) ?_
         simp
         refine callR k4 rfl rfl (fun _ => by simp) ?_
         simp [undefV]
         by_cases h6 : (6 : Int) < f.length
         · have h6' : ¬ (f.length : Int) ≤ 6 := by omega
           simp [h6, h6']
         · obtain ⟨k1, k2⟩ := hprod (by omega)
           have h6' : (f.length : Int) ≤ 6 := by omega
           simp [h6, h6']
           refine callR h227 rfl rfl (fun _ => by simp) ?_
           simp
           refine callR k1 rfl rfl (fun _ => by simp) ?_
           simp
           refine callR k2 rfl rfl (fun _ => by simp) ?_
           simp [undefV]
     · simp only [if_neg hL] at hc1 hc2 hret hprod
       rw [decide_eq_false hL] at hc7
       by_cases hp0 : p = 0
       · have hfF := hstop hp0
         rw [decide_eq_false (show ¬ (1 < f.length ∧ p = 0) by omega)] at hc6
         rw [decide_eq_true (show F.length ≤ 1 ∧ p ≤ 1 by omega)] at hc5
         have hf1 : ¬ (1 : Int) < f.length := by omega
         have hn1 : f.length = 1 := by omega
         subst hp0
         simp only [Int.natCast_zero, if_pos] at hc1 hc2 hprod
         simp
         refine callR hc1 rfl rfl (fun _ => rfl) ?_
         simp
         refine callR hc2 rfl rfl (fun _ => rfl) ?_
         simp
         refine callR hc3 rfl rfl (fun _ => by simp) ?_
         simp
         refine callR hc4 rfl rfl (fun _ => by simp) ?_
         simp
         refine callR hc5 rfl rfl (fun _ => rfl) ?_
         simp
         refine callR hc6 rfl rfl (fun _ => rfl) ?_
         simp [hN, hRe0, hfF, hn1]
         refine callR hc7 rfl rfl (fun _ => rfl) ?_
         simp [hN, hn1, undefV]
         obtain ⟨k1, k2⟩ := hprod (by omega)
         refine callR h227 rfl rfl (fun _ => by simp) ?_
         simp
         refine callR k1 rfl rfl (fun _ => by simp) ?_
         simp
         refine callR k2 rfl rfl (fun _ => by simp) ?_
         simp [undefV]
       · have hf1 : (1 : Int) < f.length := by omega
         have hp1 : ¬ (p : Int) = 0 := by omega
         have hp2 : ¬ (p : Int) + 1 = 1 := by omega
         have hp5 : ¬ (p : Int) + 1 = 0 := by omega
         have hp3 : (1 : Int) ≤ p := by omega
         have hp4 : (p : Int) + 1 - 1 = p := by omega
         rw [decide_eq_false (show ¬ (1 < f.length ∧ p = 0) by omega)] at hc6
         have hq5 : decide (F.length ≤ 1 ∧ p ≤ 1) = decide ((p : Int) ≤ 1) := decide_eq_decide.2 (by omega)
         rw [hq5] at hc5
         obtain ⟨k3, k4⟩ := hret hp0
         simp only [if_neg hp0] at hprod
         simp
         refine callR hc1 rfl rfl (fun _ => rfl) ?_
         simp
         refine callR hc2 rfl rfl (fun _ => rfl) ?_
         simp
         refine callR hc3 rfl rfl (fun _ => by simp) ?_
         simp
         refine callR hc4 rfl rfl (fun _ => by simp) ?_
         simp
         refine callR hc5 rfl rfl (fun _ => rfl) ?_
         simp
         refine callR hc6 rfl rfl (fun _ => rfl) ?_
         simp [hN, hRe0, hRen, hp2, hp5, hp4, undefV]
         refine ⟨by omega, by omega, ?_⟩
         refine callR hc7 rfl rfl (fun _ => rfl) ?_
         simp [hN, hf1, hp4]
         refine ⟨by omega, ?_⟩
         refine callR k3 rfl rfl (fun _ => by simp) ?_
         simp
         refine callR k4 rfl rfl (fun _ => by simp) ?_
         simp
         by_cases h6 : (6 : Int) < f.length
         · have h6' : ¬ (f.length : Int) ≤ 6 := by omega
           simp [h6, h6']
           omega
         · obtain ⟨k1, k2⟩ := hprod (by omega)
           have h6' : (f.length : Int) ≤ 6 := by omega
           simp [h6, h6']
           refine ⟨by omega, ?_⟩
           refine callR h227 rfl rfl (fun _ => by simp) ?_
           simp
           refine callR k1 rfl rfl (fun _ => by simp) ?_
           simp
           refine callR k2 rfl rfl (fun _ => by simp) ?_
           simp [hp3, undefV]
   · have e1 : lvC f s = 1 := by simp only [lvC, onReg_false hgo]
     rw [e1] at hc1 hc2
     generalize lvR f s = v at *
     simp
     refine callR hc1 rfl rfl (fun _ => rfl) ?_
     simp
     refine callR hc2 rfl rfl (fun _ => rfl) ?_
     simp
end Go.Mch
