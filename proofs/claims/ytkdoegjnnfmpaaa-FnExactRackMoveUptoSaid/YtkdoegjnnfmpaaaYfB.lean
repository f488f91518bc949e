/- Marks: numbers written into what was handed over, and read again. -/
import Derived.Test.YtkdoegjnnfmpaaaYfA
namespace Go.Mch

/-- A slice of the frame's own, or nil. -/
def ownI : Option (List Int) → T
  | none => nil
  | some xs => .mem .own (some 1) (xs.map I)

def up (k : Int) (n : Nat) : List Int := (List.range n).map fun i : Nat => k + i
@[simp] theorem up_length (k : Int) (n : Nat) : (up k n).length = n := by simp [up]

def held : List Int → Int → Int
  | [], k => k
  | x :: xs, k => if x = k then held xs (k + 1) else -1

theorem held_up : ∀ (n : Nat) (k : Int), held (up k n) k = k + n
  | 0, k => by simp [up, held]
  | n + 1, k => by
    have h : up k (n + 1) = k :: up (k + 1) n := by
      simp only [up, List.range_succ_eq_map, List.map_cons, List.map_map]
      congr 1
      · simp
      · apply List.map_congr_left
        intro i _
        simp only [Function.comp]
        omega
    rw [h, held, if_pos rfl, held_up n (k + 1)]
    omega

def S_heldI (pg : Pg) : Prop := ∀ (a : Rw Int) (k : Int), (lst a).length ≤ 1048576 → -1 ≤ k → k ≤ 4611686018427387904 → Call pg 13 [rawI a, I k] [rawI a, I k] (I (held (lst a) k))
theorem t_heldI {pg : Pg} (hp : pg.fn 13 = some c_laws_heldInt64S) : S_heldI pg := by
  intro a k ha h1 h2
  refine Call.intro hp rfl (by simp) ?_
  show wp _ _ c_laws_heldInt64S.body (post [.t 4] _ _ _) _
  simp [c_laws_heldInt64S]
  refine wpLoop_count (fun j e => held ((lst a).drop j) (k + j) = held (lst a) k ∧ e = fr [(0, some (.val (rawI a))), (1, some (.val (I (k + j)))), (5, some (.val (I j)))]) (lst a).length ?_ ?_ 0 _ (by omega) ?_
  · rintro j e hj ⟨g1, rfl⟩
    have hd : (lst a).drop j = (lst a)[j] :: (lst a).drop (j + 1) := List.drop_eq_getElem_cons hj
    rw [hd] at g1
    simp only [held] at g1
    by_cases hx : (lst a)[j] = k + j
    · rw [if_pos hx] at g1
      simp [hj, hx]
      refine ⟨by omega, by omega, by rw [← g1]; congr 1; omega, ?_⟩
      congr 4
      simp; omega
    · rw [if_neg hx] at g1
      simp [hj, hx, g1]
  · rintro e ⟨g1, rfl⟩
    simp
    rw [List.drop_length] at g1
    exact g1
  · exact ⟨by simp, by simp⟩

/-- Marks behind j places. -/
def upto (k : Int) (xs : List Int) (j : Nat) : List Int := (List.range xs.length).map fun i : Nat => if i < j then k + i else xs.getD i 0
@[simp] theorem upto_length (k : Int) (xs : List Int) (j : Nat) : (upto k xs j).length = xs.length := by simp [upto]
theorem upto_zero (k : Int) (xs : List Int) : upto k xs 0 = xs := by
  apply List.ext_getElem
  · simp
  · intro i h1 h2
    simp [upto, List.getD_eq_getElem?_getD, List.getElem?_eq_getElem h2]
theorem upto_all (k : Int) (xs : List Int) : upto k xs xs.length = up k xs.length := by
  simp only [upto, up]
  apply List.map_congr_left
  intro i hi
  simp only [List.mem_range] at hi
  rw [if_pos hi]
theorem upto_set (k : Int) (xs : List Int) (j : Nat) : ((upto k xs j).map I).set j (I (k + j)) = (upto k xs (j + 1)).map I := by
  apply List.ext_getElem
  · simp
  · intro i h1 h2
    simp only [List.getElem_set, upto, List.getElem_map, List.getElem_range]
    by_cases h : j = i
    · subst h; simp
    · rw [if_neg h]
      by_cases h3 : i < j
      · rw [if_pos h3, if_pos (by omega)]
      · rw [if_neg h3, if_neg (by omega)]

def S_markI (pg : Pg) : Prop := ∀ (a : Option (List Int)) (k : Int), (lso a).length ≤ 1048576 → -1 ≤ k → k ≤ 4611686018427387904 → Call pg 12 [ownI a, I k] [ownI (a.map fun xs => up k xs.length), I k] (I (k + (lso a).length))
theorem t_markI {pg : Pg} (hp : pg.fn 12 = some c_laws_markInt64S) : S_markI pg := by
  intro a k ha h1 h2
  cases a with
  | none =>
    refine Call.intro hp rfl (by simp [ownI]) ?_
    show wp _ _ c_laws_markInt64S.body (post [.t 4] _ _ _) _
    simp [c_laws_markInt64S, ownI]
    refine wpLoop_count (fun j e => e = fr [(0, some (.val nil)), (1, some (.val (I k))), (5, some (.val (I 0)))]) 0 ?_ ?_ 0 _ (by omega) ?_
    · intro j e hj; omega
    · rintro e rfl
      simp
    · simp
  | some xs =>
    simp only [lso_some] at ha
    refine Call.intro_own hp rfl rfl ?_
    show wp _ _ c_laws_markInt64S.body (post [.t 4] _ _ _) _
    simp [c_laws_markInt64S, ownI]
    refine wpLoop_count (fun j e => e = fr [(0, some (.val (.mem .own (some 1) ((upto k xs j).map I)))), (1, some (.val (I (k + j)))), (5, some (.val (I j)))]) xs.length ?_ ?_ 0 _ (by omega) ?_
    · rintro j e hj rfl
      simp [hj]
      refine ⟨by omega, by omega, by omega, ?_⟩
      rw [upto_set]
      congr 4
      simp; omega
    · rintro e rfl
      simp [upto_all]
    · simp [upto_zero]

theorem S_markI.at {pg : Pg} (h : S_markI pg) (xs : List Int) (k : Int) (h1 : xs.length ≤ 1048576) (h2 : -1 ≤ k) (h3 : k ≤ 4611686018427387904) : Call pg 12 [.mem .own (some 1) (xs.map I), I k] [.mem .own (some 1) ((up k xs.length).map I), I k] (I (k + xs.length)) := h (some xs) k h1 h2 h3

/-- Rows of the frame's own, or nil. -/
def ownT : Option (List (List Int)) → T
  | none => nil
  | some xss => .mem .own (some 1) (rows xss)

/-- The mark at which row j begins. -/
def kAt (k : Int) (xss : List (List Int)) (j : Nat) : Int := k + ((xss.take j).map List.length).sum
def smallT (xss : List (List Int)) : Prop := xss.length ≤ 1048576 ∧ ∀ r ∈ xss, r.length ≤ 1048576

theorem kAt_zero (k : Int) (xss : List (List Int)) : kAt k xss 0 = k := by simp [kAt]
theorem kAt_succ (k : Int) (xss : List (List Int)) {j : Nat} (hj : j < xss.length) : kAt k xss (j + 1) = kAt k xss j + (xss[j]).length := by
  unfold kAt
  rw [List.take_succ_eq_append_getElem hj, List.map_append, List.sum_append]
  simp only [List.map_cons, List.map_nil, List.sum_cons, List.sum_nil, Int.natCast_add]
  omega
theorem kAt_le {k : Int} {xss : List (List Int)} (h : smallT xss) : ∀ j, j ≤ xss.length → k ≤ kAt k xss j ∧ kAt k xss j ≤ k + j * 1048576
  | 0, _ => by simp [kAt]
  | j + 1, hj => by
    have h1 := kAt_le (k := k) h j (by omega)
    have h2 := h.2 _ (List.getElem_mem (show j < xss.length by omega))
    rw [kAt_succ k xss (by omega)]
    simp only [Int.natCast_add]
    omega

def upT (k : Int) (xss : List (List Int)) : List (List Int) := (List.range xss.length).map fun j => up (kAt k xss j) (xss.getD j []).length
@[simp] theorem upT_length (k : Int) (xss : List (List Int)) : (upT k xss).length = xss.length := by simp [upT]
def uptoT (k : Int) (xss : List (List Int)) (j : Nat) : List (List Int) := (List.range xss.length).map fun i => if i < j then up (kAt k xss i) (xss.getD i []).length else xss.getD i []
@[simp] theorem uptoT_length (k : Int) (xss : List (List Int)) (j : Nat) : (uptoT k xss j).length = xss.length := by simp [uptoT]
theorem uptoT_zero (k : Int) (xss : List (List Int)) : uptoT k xss 0 = xss := by
  apply List.ext_getElem
  · simp
  · intro i h1 h2
    simp [uptoT, List.getD_eq_getElem?_getD, List.getElem?_eq_getElem h2]
theorem uptoT_all (k : Int) (xss : List (List Int)) : uptoT k xss xss.length = upT k xss := by
  simp only [uptoT, upT]
  apply List.map_congr_left
  intro i hi
  simp only [List.mem_range] at hi
  rw [if_pos hi]
theorem uptoT_get (k : Int) (xss : List (List Int)) {j : Nat} (hj : j < xss.length) : (uptoT k xss j)[j]'(by simpa using hj) = xss[j] := by
  simp [uptoT, List.getD_eq_getElem?_getD, List.getElem?_eq_getElem hj]
theorem uptoT_set (k : Int) (xss : List (List Int)) {j : Nat} (hj : j < xss.length) : (rows (uptoT k xss j)).set j (.mem .own (some 1) ((up (kAt k xss j) (xss[j]).length).map I)) = rows (uptoT k xss (j + 1)) := by
  apply List.ext_getElem
  · simp
  · intro i h1 h2
    simp only [rows, List.getElem_set, List.getElem_map, uptoT, List.getElem_range]
    have hi : i < xss.length := by simpa using h2
    by_cases h : j = i
    · subst h; simp [List.getD_eq_getElem?_getD, List.getElem?_eq_getElem hi]
    · rw [if_neg h]
      by_cases h3 : i < j
      · rw [if_pos h3, if_pos (by omega)]
      · rw [if_neg h3, if_neg (by omega)]

def heldL : List (List Int) → Int → Int
  | [], k => k
  | r :: rs, k => if held r k < 0 then -1 else heldL rs (held r k)

theorem heldL_up : ∀ (n : Nat) (xss : List (List Int)) (k : Int) (j : Nat), 0 ≤ k → j + n = xss.length → heldL ((upT k xss).drop j) (kAt k xss j) = kAt k xss xss.length
  | 0, xss, k, j, _, h => by
    have : j = xss.length := by omega
    subst this
    have : (upT k xss).drop xss.length = [] := by rw [List.drop_eq_nil_iff]; simp
    rw [this]; rfl
  | n + 1, xss, k, j, hk, h => by
    have hj : j < xss.length := by omega
    have hd : (upT k xss).drop j = (upT k xss)[j]'(by simpa using hj) :: (upT k xss).drop (j + 1) := List.drop_eq_getElem_cons (by simpa using hj)
    have hg : (upT k xss)[j]'(by simpa using hj) = up (kAt k xss j) (xss[j]).length := by
      simp [upT, List.getD_eq_getElem?_getD, List.getElem?_eq_getElem hj]
    have hp : 0 ≤ kAt k xss j := by unfold kAt; omega
    rw [hd, hg, heldL, held_up, if_neg (by omega), ← kAt_succ k xss hj]
    exact heldL_up n xss k (j + 1) hk (by omega)
theorem heldL_all (xss : List (List Int)) (k : Int) (hk : 0 ≤ k) : heldL (upT k xss) k = kAt k xss xss.length := by
  have := heldL_up xss.length xss k 0 hk (by omega)
  rwa [kAt_zero, List.drop_zero] at this

theorem held_le : ∀ (xs : List Int) (k : Int), -1 ≤ k → -1 ≤ held xs k ∧ held xs k ≤ k + xs.length
  | [], k, h => by simp [held]; exact h
  | x :: xs, k, h => by
    unfold held
    split
    · have := held_le xs (k + 1) (by omega)
      simp only [List.length_cons]
      omega
    · simp only [List.length_cons]; omega

def S_heldT (pg : Pg) : Prop := ∀ (a : Rw (Rw Int)) (k : Int), small a → -1 ≤ k → k ≤ 2305843009213693952 → Call pg 24 [rawT a, I k] [rawT a, I k] (I (heldL ((lst a).map lst) k))
theorem t_heldT {pg : Pg} (hp : pg.fn 24 = some c_laws_heldInt64SS) (h13 : S_heldI pg) : S_heldT pg := by
  intro a k ⟨ha, hr⟩ h1 h2
  refine Call.intro hp rfl (by simp) ?_
  show wp _ _ c_laws_heldInt64SS.body (post [.t 4] _ _ _) _
  simp [c_laws_heldInt64SS]
  refine wpLoop_count (fun j e => ∃ k' : Int, -1 ≤ k' ∧ k' ≤ k + j * 1048576 ∧ heldL (((lst a).map lst).drop j) k' = heldL ((lst a).map lst) k ∧ e = fr [(0, some (.val (rawT a))), (1, some (.val (I k'))), (5, some (.val (I j)))]) (lst a).length ?_ ?_ 0 _ (by omega) ?_
  · rintro j e hj ⟨k', g1, g2, g3, rfl⟩
    have hd : ((lst a).map lst).drop j = lst (lst a)[j] :: ((lst a).map lst).drop (j + 1) := by
      rw [List.drop_eq_getElem_cons (by simpa using hj)]; simp
    rw [hd, heldL] at g3
    have h3 := held_le (lst (lst a)[j]) k' g1
    have h4 := hr _ (List.getElem_mem hj)
    simp [hj]
    refine callR (h13 _ _ h4 g1 (by omega)) rfl rfl (fun _ => rfl) ?_
    by_cases hn : held (lst (lst a)[j]) k' < 0
    · simp [hn]
      rw [if_pos hn] at g3
      exact g3
    · simp [hn]
      rw [if_neg hn] at g3
      exact ⟨by omega, held (lst (lst a)[j]) k', by omega, by omega, g3, rfl⟩
  · rintro e ⟨k', g1, g2, g3, rfl⟩
    simp
    rw [List.drop_of_length_le (by simp)] at g3
    exact g3
  · exact ⟨k, h1, by simp, by simp, by simp⟩

def S_markT (pg : Pg) : Prop := ∀ (a : Option (List (List Int))) (k : Int), smallT (lso a) → 0 ≤ k → k ≤ 2305843009213693952 → Call pg 23 [ownT a, I k] [ownT (a.map (upT k)), I k] (I (kAt k (lso a) (lso a).length))
theorem t_markT {pg : Pg} (hp : pg.fn 23 = some c_laws_markInt64SS) (h12 : S_markI pg) : S_markT pg := by
  intro a k ha h1 h2
  cases a with
  | none =>
    refine Call.intro hp rfl (by simp [ownT]) ?_
    show wp _ _ c_laws_markInt64SS.body (post [.t 4] _ _ _) _
    simp [c_laws_markInt64SS, ownT]
    refine wpLoop_count (fun j e => e = fr [(0, some (.val nil)), (1, some (.val (I k))), (5, some (.val (I 0)))]) 0 ?_ ?_ 0 _ (by omega) ?_
    · intro j e hj; omega
    · rintro e rfl
      simp [kAt]
    · simp
  | some xss =>
    simp only [lso_some] at ha
    refine Call.intro_own hp rfl rfl ?_
    show wp _ _ c_laws_markInt64SS.body (post [.t 4] _ _ _) _
    simp [c_laws_markInt64SS, ownT]
    refine wpLoop_count (fun j e => e = fr [(0, some (.val (.mem .own (some 1) (rows (uptoT k xss j))))), (1, some (.val (I (kAt k xss j)))), (5, some (.val (I j)))]) xss.length ?_ ?_ 0 _ (by omega) ?_
    · rintro j e hj rfl
      have hle := kAt_le (k := k) ha j (by omega)
      have hr := ha.2 _ (List.getElem_mem hj)
      have hl := ha.1
      have hg : (rows (uptoT k xss j))[j]? = some (.mem .own (some 1) ((xss[j]).map I)) := by
        rw [rows_get, List.getElem?_eq_getElem (by simpa using hj), uptoT_get k xss hj]; rfl
      simp [hj, uptoT_get]
      refine callM (ts' := [.mem .own (some 1) ((up (kAt k xss j) (xss[j]).length).map I), I (kAt k xss j)]) (r := I (kAt k xss j + xss[j].length)) ?_ ?_ ?_ ?_
      · simp [hj]
      · simpa using h12.at xss[j] (kAt k xss j) hr (by omega) (by omega)
      · simp
      · simp [hj, uptoT_set]
        refine ⟨by omega, ?_⟩
        rw [kAt_succ k xss hj]
    · rintro e rfl
      simp [uptoT_all]
    · simp [uptoT_zero, kAt_zero]

theorem S_markT.at {pg : Pg} (h : S_markT pg) (xss : List (List Int)) (k : Int) (h1 : smallT xss) (h2 : 0 ≤ k) (h3 : k ≤ 2305843009213693952) : Call pg 23 [.mem .own (some 1) (rows xss), I k] [.mem .own (some 1) (rows (upT k xss)), I k] (I (kAt k xss xss.length)) := h (some xss) k h1 h2 h3
theorem S_markT.at0 {pg : Pg} (h : S_markT pg) (k : Int) (h2 : 0 ≤ k) (h3 : k ≤ 2305843009213693952) : Call pg 23 [nil, I k] [nil, I k] (I k) := by
  have := h none k (by simp [smallT]) h2 h3
  simpa [ownT, kAt] using this

def S_markRack (pg : Pg) : Prop := ∀ (xss : List (List Int)) (k : Int), smallT xss → 0 ≤ k → k ≤ 1152921504606846976 → Call pg 11 [.agg [.mem .own (some 1) (rows xss)], I k] [.agg [.mem .own (some 1) (rows (upT k xss))], I k] (I (kAt k xss xss.length))
theorem t_markRack {pg : Pg} (hp : pg.fn 11 = some c_laws_markRack) (h23 : S_markT pg) : S_markRack pg := by
  intro xss k ha h1 h2
  refine Call.intro_own hp rfl rfl ?_
  show wp _ _ c_laws_markRack.body (post [.t 4] _ _ _) _
  simp [c_laws_markRack]
  refine callM (ts' := [.mem .own (some 1) (rows (upT k xss)), I k]) (r := I (kAt k xss xss.length)) ?_ ?_ ?_ ?_
  · simp
  · simpa using h23.at xss k ha h1 (by omega)
  · simp
  · simp

def S_markSol (pg : Pg) : Prop := ∀ (xss yss : List (List Int)) (k : Int), smallT xss → smallT yss → 0 ≤ k → k ≤ 1152921504606846976 → Call pg 22 [.agg [.mem .own (some 1) (rows xss), .mem .own (some 1) (rows yss)], I k] [.agg [.mem .own (some 1) (rows (upT k xss)), .mem .own (some 1) (rows (upT (kAt k xss xss.length) yss))], I k] (I (kAt (kAt k xss xss.length) yss yss.length))
theorem t_markSol {pg : Pg} (hp : pg.fn 22 = some c_laws_markSolution) (h23 : S_markT pg) : S_markSol pg := by
  intro xss yss k ha hb h1 h2
  have hle := kAt_le (k := k) ha xss.length (by omega)
  have hxl := ha.1
  refine Call.intro_own hp rfl rfl ?_
  show wp _ _ c_laws_markSolution.body (post [.t 4] _ _ _) _
  simp [c_laws_markSolution]
  refine callM (ts' := [.mem .own (some 1) (rows (upT k xss)), I k]) (r := I (kAt k xss xss.length)) ?_ ?_ ?_ ?_
  · simp
  · simpa using h23.at xss k ha h1 (by omega)
  · simp
  · simp
    refine callM (ts' := [.mem .own (some 1) (rows (upT (kAt k xss xss.length) yss)), I (kAt k xss xss.length)]) (r := I (kAt (kAt k xss xss.length) yss yss.length)) ?_ ?_ ?_ ?_
    · simp
    · simpa using h23.at yss (kAt k xss xss.length) hb (by omega) (by omega)
    · simp
    · simp

end Go.Mch
