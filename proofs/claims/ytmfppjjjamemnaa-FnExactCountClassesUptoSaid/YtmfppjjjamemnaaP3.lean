/- Our texts YhB YgD YkJ YkK YkL YiT, end to end. -/
import Derived.Test.YtmfppjjjamemnaaP1
import Derived.Test.YtmfppjjjamemnaaYeB
import Derived.Test.YtmfppjjjamemnaaP2
/- The runs of the exact laws, by their shapes: sol-bool,int, sol-int,int, sol,int-int,int, sol,ints,int-int,int, sol,ints,ints-bool,int. -/
namespace Go.Mch
/-- The laws of this shape: sol, int to int, int. -/
def lw_pN (a b : Nat) : F where
  np := 2
  rs := [.t 4]
  body :=
    (.seq
    (.region none [ ⟨some 2, none, .box (.t 0)⟩, ⟨some 4, none, .mv (.c (.bool false))⟩] [1, 2]) (.seq
    (.region none [ ⟨some 5, none, .mv (.c (.int .i64 1048576))⟩] [1, 2, 5]) (.seq
    (.region none [ ⟨some 11, none, .ld (some 2) (.t 2)⟩, ⟨some 12, none, .mv (.t 5)⟩, ⟨some 13, none, .call (.f 14) [((.t 11), .r), ((.t 12), .r)]⟩, ⟨some 5, none, .mv (.t 13)⟩] [1, 2, 5]) (.seq (.seq
    (.region none [ ⟨some 14, none, .mv (.t 5)⟩, ⟨some 15, none, .bin .lss (.t 14) (.c (.int .i64 0))⟩] [1, 2, 15]) (.cond (.t 15) (.seq
    (.region none [ ⟨some 4, none, .mv (.c (.bool true))⟩] [4]) .ret) .skip)) (.seq
    (.region none [ ⟨some 17, none, .ld (some 2) (.t 2)⟩, ⟨some 18, none, .call (.f 16) [((.t 17), .r)]⟩, ⟨some 19, none, .mv (.t 1)⟩, ⟨some 20, none, .call (.f a) [((.t 18), .r), ((.t 19), .r)]⟩, ⟨some 16, none, .mv (.t 20)⟩, ⟨some 21, none, .ext (.t 16) 0⟩, ⟨some 22, none, .ext (.t 16) 1⟩, ⟨some 6, none, .mv (.t 21)⟩, ⟨some 7, none, .mv (.t 22)⟩] [1, 2, 6, 7]) (.seq
    (.region none [ ⟨some 23, none, .ld (some 2) (.t 2)⟩, ⟨some 24, none, .call (.f 16) [((.t 23), .r)]⟩, ⟨some 8, none, .alloc [(.slice none 0 0), (.slice none 0 0)]⟩, ⟨none, none, .st (some 2) (.t 8) (.t 24)⟩] [1, 2, 6, 7, 8]) (.seq
    (.region none [ ⟨some 26, none, .ld (some 2) (.t 8)⟩, ⟨some 27, none, .mv (.t 1)⟩, ⟨some 28, none, .call (.f b) [((.t 26), .r), ((.t 27), .r)]⟩, ⟨some 25, none, .mv (.t 28)⟩, ⟨some 29, none, .ext (.t 25) 0⟩, ⟨some 30, none, .ext (.t 25) 1⟩, ⟨some 9, none, .mv (.t 29)⟩, ⟨some 10, none, .mv (.t 30)⟩] [2, 6, 7, 8, 9, 10]) (.seq (.seq
    (.region none [ ⟨some 31, none, .mv (.t 9)⟩, ⟨some 32, none, .mv (.t 6)⟩, ⟨some 33, none, .bin .neq (.t 31) (.t 32)⟩, ⟨some 34, none, .mv (.t 33)⟩, ⟨some 35, (some (34, false)), .mv (.t 10)⟩, ⟨some 36, (some (34, false)), .mv (.t 7)⟩, ⟨some 37, (some (34, false)), .bin .neq (.t 35) (.t 36)⟩, ⟨some 38, none, .pick (.t 34) (.c (.bool true)) (.t 37)⟩] [2, 8, 38]) (.cond (.t 38) (.seq
    (.region none [ ⟨some 4, none, .mv (.c (.bool false))⟩] [4]) .ret) .skip)) (.seq (.seq
    (.region (some [39, 40, 41]) [ ⟨some 39, none, .ld (some 2) (.t 8)⟩, ⟨some 40, none, .ld (some 2) (.t 2)⟩, ⟨some 41, none, .call (.f 16) [((.t 40), .r)]⟩, ⟨some 42, none, .call (.f 18) [((.t 39), .r), ((.t 41), .r)]⟩, ⟨some 43, none, .un .not (.t 42)⟩] [43]) (.cond (.t 43) (.seq
    (.region none [ ⟨some 4, none, .mv (.c (.bool false))⟩] [4]) .ret) .skip)) (.seq
    (.region none [ ⟨some 4, none, .mv (.c (.bool true))⟩] [4]) .ret))))))))))
def S_sh_pN (pg : Pg) (n : Nat) (R0 : List (List Int) → List (List Int) → Int → Int) (R1 : List (List Int) → List (List Int) → Int → Int) : Prop := ∀ (f0 s0 : List (List Int)) (p1 : Int), fits f0 → fits s0 → Call pg n [sol f0 s0, I p1] [sol f0 s0, I p1] (.tup [I (R0 f0 s0 p1), I (R1 f0 s0 p1)])
def S_lw_pN (pg : Pg) (n : Nat) : Prop := ∀ (a0 b0 : Rw (Rw Int)) (p1 : Int), small a0 → small b0 → ∃ args', Call pg n [.agg [rawT a0, rawT b0], I p1] args' (B true)
set_option maxRecDepth 20000 in
theorem t_lw_pN {pg : Pg} {n a b : Nat} {R0 : List (List Int) → List (List Int) → Int → Int} {R1 : List (List Int) → List (List Int) → Int → Int} (hp : pg.fn n = some (lw_pN a b)) (hA : S_sh_pN pg a R0 R1) (hB : S_sh_pN pg b R0 R1)  (h14 : S_szSol pg) (h16 : S_toSol pg) (h18 : S_eqSol pg) : S_lw_pN pg n := by
  intro a0 b0 p1 ha0 hb0
  refine ⟨[.agg [rawT a0, rawT b0], I p1], Call.intro hp rfl (by simp) ?_⟩
  obtain ⟨r, hr1, hr2, hsz⟩ := h14 a0 b0 1048576 ha0 hb0 (by omega) (by omega)
  have hto0 := h16 a0 b0 ha0 hb0
  have hfa0 := fitsT_of ha0
  have hfb0 := fitsT_of hb0
  generalize hF0 : (lst a0).map lst = F0 at *
  generalize hS0 : (lst b0).map lst = S0 at *
  have hc1 := hA F0 S0 p1 hfa0 hfb0
  have hc2 := hB F0 S0 p1 hfa0 hfb0
  generalize R0 F0 S0 p1 = o0 at *
  generalize R1 F0 S0 p1 = o1 at *
  show wp _ _ (lw_pN a b).body (post [.t 4] _ _ _) _
  simp [lw_pN]
  refine callR hsz rfl rfl (fun _ => rfl) ?_
  by_cases hneg : r < 0
  · simp [hneg]
  · simp [hneg]
    refine callR hto0 rfl rfl (fun _ => by simp) ?_
    simp
    refine callR hc1 rfl rfl (fun _ => by simp) ?_
    simp
    refine callR hto0 rfl rfl (fun _ => by simp) ?_
    simp
    refine callR hc2 rfl rfl (fun _ => by simp) ?_
    simp
    refine callR hto0 rfl rfl (fun _ => by simp) ?_
    simp
    refine callR (h18.o F0 S0 F0 S0 hfa0 hfb0) rfl rfl (fun _ => rfl) ?_
    simp
end Go.Mch
/- Orbits of tuples, found by going on from each: in plain Lean. -/
namespace Go.Mch

/-- A number that has not been seen is seen and put into the queue. -/
def visW (st : List Bool × List Nat) (w : Nat) : List Bool × List Nat := if st.1.getD w false then st else (st.1.set w true, st.2 ++ [w])
def left (st : List Bool × List Nat) : Nat := st.1.count false + st.2.length
@[simp] theorem visW_length (st : List Bool × List Nat) (w : Nat) : (visW st w).1.length = st.1.length := by unfold visW; split <;> simp
theorem visL_length (ws : List Nat) (st : List Bool × List Nat) : (ws.foldl visW st).1.length = st.1.length := by
  induction ws generalizing st with
  | nil => rfl
  | cons w ws ih => simp [ih]
/-- What has been seen when the queue is empty. -/
def bfsF (nb : Nat → List Nat) : Nat → List Bool → List Nat → List Bool
  | 0, s, _ => s
  | _ + 1, s, [] => s
  | f + 1, s, v :: q => bfsF nb f ((nb v).foldl visW (s, q)).1 ((nb v).foldl visW (s, q)).2
/-- What has been seen, and how many orbits there were, when k starts are done. -/
def orbC (nb : Nat → List Nat) (N : Nat) : Nat → List Bool × Int
  | 0 => (List.replicate N false, 0)
  | k + 1 => if (orbC nb N k).1.getD k false then orbC nb N k else (bfsF nb (N + 1) ((orbC nb N k).1.set k true) [k], (orbC nb N k).2 + 1)
theorem bfsF_length (nb : Nat → List Nat) : ∀ (f : Nat) (s : List Bool) (q : List Nat), (bfsF nb f s q).length = s.length
  | 0, _, _ => rfl
  | _ + 1, _, [] => rfl
  | f + 1, s, v :: q => by rw [bfsF, bfsF_length nb f, visL_length]
@[simp] theorem orbC_length (nb : Nat → List Nat) (N k : Nat) : (orbC nb N k).1.length = N := by
  induction k with
  | zero => simp [orbC]
  | succ k ih => unfold orbC; split <;> simp [ih, bfsF_length]
/-! ### Tuples and their numbers -/

def digT (n m v : Nat) : List Int := (List.range m).map fun j => ((v / n ^ (m - 1 - j) % n : Nat) : Int)
@[simp] theorem digT_length (n m v : Nat) : (digT n m v).length = m := by simp [digT]
theorem digT_rng {n m v : Nat} (hn : 0 < n) : inN n (digT n m v) := fun x hx => by
  simp only [digT, List.mem_map, List.mem_range] at hx
  obtain ⟨j, _, rfl⟩ := hx
  have := Nat.mod_lt (v / n ^ (m - 1 - j)) hn
  omega
def numT (n : Nat) (w : List Int) : Int := w.foldl (fun a x => a * n + x) 0
theorem numT_snoc (n : Nat) (w : List Int) (x : Int) : numT n (w ++ [x]) = numT n w * n + x := by simp [numT]
theorem numT_rng {n : Nat} {w : List Int} (hw : inN n w) : ∀ k, k ≤ w.length → 0 ≤ numT n (w.take k) ∧ numT n (w.take k) < ((n ^ k : Nat) : Int) := by
  intro k
  induction k with
  | zero => intro _; simp [numT]
  | succ k ih =>
    intro hk
    obtain ⟨h1, h2⟩ := ih (by omega)
    have hx := hw _ (List.getElem_mem (show k < w.length by omega))
    rw [List.take_succ_eq_append_getElem (by omega), numT_snoc, Nat.pow_succ, Int.natCast_mul]
    constructor
    · have := Int.mul_nonneg h1 (show (0 : Int) ≤ n by omega)
      omega
    · have h3 : numT n (w.take k) + 1 ≤ ((n ^ k : Nat) : Int) := by omega
      have := Int.mul_le_mul_of_nonneg_right h3 (show (0 : Int) ≤ n by omega)
      rw [Int.add_mul, Int.one_mul] at this
      omega
/-- The numbers of the tuples that one move leads to. -/
def nbT (f s : List (List Int)) (m v : Nat) : List Nat := (List.range (m - 1)).map fun i => (numT f.length (dW f s (digT f.length m v) i)).toNat
@[simp] theorem nbT_length (f s : List (List Int)) (m v : Nat) : (nbT f s m v).length = m - 1 := by simp [nbT]
/-- The last c digits. -/
def digP (n m v c : Nat) : List Int := (List.range m).map fun j => if m - c ≤ j then ((v / n ^ (m - 1 - j) % n : Nat) : Int) else 0
@[simp] theorem digP_length (n m v c : Nat) : (digP n m v c).length = m := by simp [digP]
theorem digP_zero (n m v : Nat) : digP n m v 0 = List.replicate m 0 := by
  apply List.ext_getElem
  · simp
  · intro i h1 h2
    have : ¬ m ≤ i := by simpa using h1
    simp [digP, this]
theorem digP_all (n m v : Nat) : digP n m v m = digT n m v := by
  apply List.map_congr_left
  intro j _
  rw [if_pos (by omega)]
theorem digP_succ {n m v c : Nat} (hc : c < m) : (digP n m v c).set (m - 1 - c) ((v / n ^ c % n : Nat) : Int) = digP n m v (c + 1) := by
  apply List.ext_getElem
  · simp
  · intro i h1 h2
    simp only [digP_length] at h2
    simp only [List.getElem_set, digP, List.getElem_map, List.getElem_range]
    by_cases hi : m - 1 - c = i
    · rw [if_pos hi, if_pos (by omega), show m - 1 - i = c from by omega]
    · rw [if_neg hi]
      by_cases h3 : m - c ≤ i
      · rw [if_pos h3, if_pos (by omega)]
      · rw [if_neg h3, if_neg (by omega)]
theorem div_le' (v c n : Nat) : v / n ^ c ≤ v := Nat.div_le_self _ _
def S_digI (pg : Pg) : Prop := ∀ n m v : Nat, 0 < n → n ≤ 1048576 → m ≤ 1048576 → v ≤ 1048576 → Call pg 262 [I n, I m, I v] [I n, I m, I v] (.mem .own (some 1) ((digT n m v).map I))
theorem t_tupleOf {pg : Pg} (hp : pg.fn 262 = some c_impl_tupleOf) : S_digI pg := by
  intro n m v hn hn2 hm hv
  refine Call.intro hp rfl (by simp) ?_
  show wp _ _ c_impl_tupleOf.body (post [.t 6] _ _ _) _
  have hn1 : ¬ n = 0 := by omega
  simp [c_impl_tupleOf]
  refine ⟨by unfold roomy; omega, by omega, ?_⟩
  refine wpLoop_count (fun c e => e = fr [(0, some (.val (I n))), (2, some (.val (I ((v / n ^ c : Nat) : Int)))), (7, some (.val (.mem .own (some 1) ((digP n m v c).map I)))), (8, some (.val (I ((m : Int) - 1 - c))))]) m ?_ ?_ 0 _ (by omega) ?_
  · rintro c e hc rfl
    have hj : (m : Int) - 1 - c = ((m - 1 - c : Nat) : Int) := by omega
    have hs := digP_succ (n := n) (v := v) hc
    have hd := div_le' v c n
    have hd2 := div_le' v (c + 1) n
    have hmod : ((v / n ^ c : Nat) : Int).tmod n = ((v / n ^ c % n : Nat) : Int) := by
      rw [Int.tmod_eq_emod_of_nonneg (Int.natCast_nonneg _)]; exact (Int.natCast_emod ..).symm
    have hdiv : ((v / n ^ c : Nat) : Int).tdiv n = ((v / n ^ (c + 1) : Nat) : Int) := by
      rw [Int.tdiv_eq_ediv_of_nonneg (Int.natCast_nonneg _), Nat.pow_succ, ← Nat.div_div_eq_div_mul]; exact (Int.natCast_ediv ..).symm
    rw [hj]
    rw [show (m : Int) - 1 - ((c + 1 : Nat) : Int) = ((m - 1 - c : Nat) : Int) - 1 from by omega, ← hs]
    have hjm : m - 1 - c < m := by omega
    generalize m - 1 - c = j at *
    generalize v / n ^ c % n = a at *
    generalize v / n ^ (c + 1) = b at *
    generalize v / n ^ c = g at *
    simp [hn1, hmod, hdiv, hjm]
    omega
  · rintro e rfl
    have hneg : ¬ ((m : Int) ≤ (m : Int) - 1) := by omega
    simp [digP_all, hneg]
  · simp [digP_zero]

def S_numI (pg : Pg) : Prop := ∀ (n : Nat) (w : List Int), inN n w → n ≤ 1048576 → w.length ≤ 1048576 → n ^ w.length ≤ 1048576 → Call pg 263 [I n, ix w] [I n, ix w] (I (numT n w))
theorem pow_le_len {n : Nat} {w : List Int} (hw : inN n w) (h : n ^ w.length ≤ 1048576) {k : Nat} (hk : k ≤ w.length) : n ^ k ≤ 1048576 := by
  rcases Nat.eq_zero_or_pos n with h0 | h0
  · subst h0
    cases k with
    | zero => simp
    | succ k => simp
  · exact Nat.le_trans (Nat.pow_le_pow_right h0 hk) h
theorem num_step {n : Nat} {w : List Int} (hw : inN n w) (hn : n ≤ 1048576) (h : n ^ w.length ≤ 1048576) {k : Nat} (hk : k < w.length) :
    0 ≤ numT n (w.take k) * n ∧ numT n (w.take k) * n ≤ 1099511627776 ∧ 0 ≤ w[k] ∧ w[k] < n ∧ numT n (w.take (k + 1)) = numT n (w.take k) * n + w[k] := by
  obtain ⟨h1, h2⟩ := numT_rng hw k (by omega)
  have h3 := pow_le_len hw h (show k ≤ w.length by omega)
  have hx := hw _ (List.getElem_mem hk)
  refine ⟨Int.mul_nonneg h1 (by omega), ?_, hx.1, hx.2, by rw [List.take_succ_eq_append_getElem hk, numT_snoc]⟩
  have : numT n (w.take k) * n ≤ 1048576 * 1048576 := Int.mul_le_mul (by omega) (by omega) (by omega) (by omega)
  omega
theorem t_numberOf {pg : Pg} (hp : pg.fn 263 = some c_impl_numberOf) : S_numI pg := by
  intro n w hw hn hl h
  refine Call.intro hp rfl (by simp) ?_
  show wp _ _ c_impl_numberOf.body (post [.t 4] _ _ _) _
  simp [c_impl_numberOf]
  refine wpLoop_count (fun k e => e = fr [(0, some (.val (I n))), (5, some (.val (I (numT n (w.take k))))), (8, some (.val (ix w))), (9, some (.val (I w.length))), (10, some (.val (I k)))]) w.length ?_ ?_ 0 _ (by omega) ?_
  · rintro k e hk rfl
    obtain ⟨a1, a2, a3, a4, a5⟩ := num_step hw hn h hk
    simp [hk, a5]
    omega
  · rintro e rfl
    simp
  · simp [numT]

/-! ### CountTupleOrbits -/

def nI (l : List Nat) : List Int := l.map fun x : Nat => (x : Int)
@[simp] theorem nI_length (l : List Nat) : (nI l).length = l.length := by simp [nI]
@[simp] theorem nI_append (a b : List Nat) : nI (a ++ b) = nI a ++ nI b := by simp [nI]
@[simp] theorem nI_nil : nI [] = [] := rfl
@[simp] theorem nI_cons (x : Nat) (l : List Nat) : nI (x :: l) = (x : Int) :: nI l := rfl
def ctOk (f : List (List Int)) (p : Int) : Prop := (0 ≤ p ∧ p ≤ 12) ∧ f.length ^ p.toNat ≤ 5000
instance (f : List (List Int)) (p : Int) : Decidable (ctOk f p) := by unfold ctOk; infer_instance
theorem pow_step {n k m : Nat} (hn : 0 < n) (hk : k < m) (h : 5000 < n ^ (k + 1)) : ¬ n ^ m ≤ 5000 := by
  have := Nat.pow_le_pow_right hn (show k + 1 ≤ m by omega)
  omega

end Go.Mch
/- NormalWords: what is computed, and the walks of the searches. -/
namespace Go.Mch

/-- The class of the word with a number. -/
noncomputable def clV (f s : List (List Int)) (k v : Nat) : List (List Int) := lso (cO f s (digT f.length k v) 5000)
def markL (n : Nat) (seen : List Bool) (X : List (List Int)) : List Bool := X.foldl (fun l x => l.set (numT n x).toNat true) seen
@[simp] theorem markL_length (n : Nat) (X : List (List Int)) : ∀ seen : List Bool, (markL n seen X).length = seen.length := by
  induction X with
  | nil => intro _; rfl
  | cons x X ih => intro seen; simp only [markL, List.foldl_cons] at ih ⊢; rw [ih]; simp
theorem markL_snoc (n : Nat) (seen : List Bool) (X : List (List Int)) (x : List Int) : markL n seen (X ++ [x]) = (markL n seen X).set (numT n x).toNat true := by simp [markL]
/-- What has been seen, and the words, when v numbers are done. -/
noncomputable def nrmS (f s : List (List Int)) (k : Nat) : Nat → List Bool × List (List Int)
  | 0 => (List.replicate (f.length ^ k) false, [])
  | v + 1 => if (nrmS f s k v).1.getD v false then nrmS f s k v else (markL f.length (nrmS f s k v).1 (clV f s k v), (nrmS f s k v).2 ++ [digT f.length k v])
@[simp] theorem nrmS_length (f s : List (List Int)) (k v : Nat) : (nrmS f s k v).1.length = f.length ^ k := by
  induction v with
  | zero => simp [nrmS]
  | succ v ih => unfold nrmS; split <;> simp [ih]
theorem nrmS_words (f s : List (List Int)) (k v : Nat) : (nrmS f s k v).2.length ≤ v ∧ ∀ x ∈ (nrmS f s k v).2, ∃ u, x = digT f.length k u := by
  induction v with
  | zero => simp [nrmS]
  | succ v ih =>
    unfold nrmS
    split
    · exact ⟨by omega, ih.2⟩
    · refine ⟨by simp; omega, fun x hx => ?_⟩
      rcases List.mem_append.1 hx with h1 | h1
      · exact ih.2 x h1
      · rw [List.mem_singleton] at h1; exact ⟨v, h1⟩
noncomputable def nrm (f s : List (List Int)) (k : Nat) : List (List Int) := (nrmS f s k (f.length ^ k)).2
theorem cl_spec {f s : List (List Int)} (h : isSol f s) (k v : Nat) : (clV f s k v).length ≤ 5000 ∧ ∀ x ∈ clV f s k v, inN f.length x ∧ x.length = k ∧ (numT f.length x).toNat < f.length ^ k ∧ 0 ≤ numT f.length x := by
  have h0 := (PM.of h.1).pos
  unfold clV
  cases hg : cO f s (digT f.length k v) 5000 with
  | none => simp
  | some Z =>
    have hZ := cO_len h (digT_rng h0) hg
    refine ⟨hZ.1, fun x hx => ?_⟩
    obtain ⟨h1, h2⟩ := hZ.2.1 x hx
    rw [digT_length] at h2
    have := numT_rng h1 k (by omega)
    rw [List.take_of_length_le (by omega)] at this
    exact ⟨h1, h2, by omega, this.1⟩
def boolT (l : List Bool) : List T := l.map B
@[simp] theorem boolT_length (l : List Bool) : (boolT l).length = l.length := by simp [boolT]
theorem grp_lso (o : Option (List (List Int))) : (o = none ∧ grpT o = .tup [nil, B false]) ∨ ∃ X, o = some X ∧ grpT o = .tup [.mem .own (some 1) (rows X), B true] := by
  cases o with
  | none => exact .inl ⟨rfl, rfl⟩
  | some X => exact .inr ⟨X, rfl, rfl⟩
end Go.Mch
/- NormalWords: the searches' walks. -/
namespace Go.Mch

theorem pow_le {n k N : Nat} (h0 : 0 < n) (hN : n ^ k ≤ N) {j : Nat} (hj : j ≤ k) : n ^ j ≤ N := Nat.le_trans (Nat.pow_le_pow_right h0 hj) hN
def S_normals (pg : Pg) : Prop := ∀ (f s : List (List Int)) (k : Nat), isSol f s → k ≤ 8 → f.length ^ k ≤ 5000 → Call pg 296 [sol f s, I k] [sol f s, I k] (.mem .own (some 1) (rowsF (nrm f s k)))
set_option maxRecDepth 10000 in
theorem t_l09Normals {pg : Pg} (hp : pg.fn 296 = some c_spec_l09Normals) (h339 : S_class pg) : S_normals pg := by
  intro f s k h hk8 hN
  have hpm := PM.of h.1
  have h0 := hpm.pos
  have h12 := hpm.small
  have hn1 : ¬ f.length = 0 := by omega
  refine Call.intro hp rfl (by simp) ?_
  show wp _ _ c_spec_l09Normals.body (post [.t 4] _ _ _) _
  simp [c_spec_l09Normals]
  refine wpLoop_count (fun j e => e = fr [(1, some (.val (I k))), (2, some (.val (.mem .own none [tb f, tb s]))), (5, some (.val (I f.length))), (6, some (.val (I ((f.length ^ j : Nat) : Int)))), (7, some (.val (I j)))]) k ?_ ?_ 0 _ (by omega) ?_
  · rintro j e hj rfl
    have hmul : ((f.length ^ j : Nat) : Int) * f.length = ((f.length ^ (j + 1) : Nat) : Int) := by rw [Nat.pow_succ, Int.natCast_mul]
    have hb := pow_le h0 hN (show j + 1 ≤ k by omega)
    have hb2 := pow_le h0 hN (show j ≤ k by omega)
    generalize hA : f.length ^ j = A at *
    generalize hB : f.length ^ (j + 1) = A' at *
    simp [hj, hmul]
    omega
  · rintro e rfl
    have hcv := fun v => cl_spec h k v
    have hdg := fun v : Nat => digT_rng (n := f.length) (m := k) (v := v) h0
    have hcls := fun v : Nat => h339 f s (digT f.length k v) 5000 h (hdg v) (by rw [digT_length]; omega) (by omega) (by omega)
    have hlenS := nrmS_length f s k
    have hwds := nrmS_words f s k
    unfold nrm
    have hS0 : nrmS f s k 0 = (List.replicate (f.length ^ k) false, []) := rfl
    have hstep : ∀ v, nrmS f s k (v + 1) = if (nrmS f s k v).1.getD v false then nrmS f s k v else (markL f.length (nrmS f s k v).1 (clV f s k v), (nrmS f s k v).2 ++ [digT f.length k v]) := fun v => rfl
    generalize hNe : f.length ^ k = N at *
    simp
    refine ⟨by unfold roomy; omega, ?_⟩
    refine wpLoop_count (fun v e => e = fr [(1, some (.val (I k))), (2, some (.val (.mem .own none [tb f, tb s]))), (5, some (.val (I f.length))), (6, some (.val (I N))), (8, some (.val (.mem .own (some 1) ((nrmS f s k v).1.map B)))), (9, some (.val (.mem .own (some 1) (rowsF (nrmS f s k v).2)))), (10, some (.val (I v)))]) N ?_ ?_ 0 _ (by omega) ?_
    · rintro v e hv rfl
      have hSl := hlenS v
      have hwv := (hwds v).1
      have hcl := hcls v
      obtain ⟨hc1, hc2⟩ := hcv v
      rw [hstep]
      unfold clV at hc1 hc2 ⊢
      generalize cO f s (digT f.length k v) 5000 = o at *
      generalize nrmS f s k v = S at *
      have hkl : v < S.1.length := by omega
      have hg : S.1.getD v false = S.1[v] := by rw [List.getD_eq_getElem?_getD, List.getElem?_eq_getElem hkl]; rfl
      rw [hg]
      by_cases hb : S.1[v] = true
      · simp [hv, hkl, hb]
        omega
      · have hb' : S.1[v] = false := by simpa using hb
        simp [hv, hkl, hb']
        refine ⟨by unfold roomy; omega, by omega, ?_⟩
        refine wpLoop_count (fun c e => e = fr [(1, some (.val (I k))), (2, some (.val (.mem .own none [tb f, tb s]))), (5, some (.val (I f.length))), (6, some (.val (I N))), (8, some (.val (.mem .own (some 1) (S.1.map B)))), (9, some (.val (.mem .own (some 1) (rowsF S.2)))), (10, some (.val (I v))), (11, some (.val (.mem .own (some 1) ((digP f.length k v c).map I)))), (12, some (.val (I ((v / f.length ^ c : Nat) : Int)))), (13, some (.val (I ((k : Int) - 1 - c))))]) k ?_ ?_ 0 _ (by omega) ?_
        · rintro c e hc rfl
          have hj : (k : Int) - 1 - c = ((k - 1 - c : Nat) : Int) := by omega
          have hs := digP_succ (n := f.length) (v := v) hc
          have hd := div_le' v c f.length
          have hd2 := div_le' v (c + 1) f.length
          have hmod : ((v / f.length ^ c : Nat) : Int).tmod f.length = ((v / f.length ^ c % f.length : Nat) : Int) := by
            rw [Int.tmod_eq_emod_of_nonneg (Int.natCast_nonneg _)]; exact (Int.natCast_emod ..).symm
          have hdiv : ((v / f.length ^ c : Nat) : Int).tdiv f.length = ((v / f.length ^ (c + 1) : Nat) : Int) := by
            rw [Int.tdiv_eq_ediv_of_nonneg (Int.natCast_nonneg _), Nat.pow_succ, ← Nat.div_div_eq_div_mul]; exact (Int.natCast_ediv ..).symm
          rw [hj]
          rw [show (k : Int) - 1 - ((c + 1 : Nat) : Int) = ((k - 1 - c : Nat) : Int) - 1 from by omega, ← hs]
          have hjm : k - 1 - c < k := by omega
          generalize k - 1 - c = j at *
          generalize v / f.length ^ c % f.length = a at *
          generalize v / f.length ^ (c + 1) = b at *
          generalize v / f.length ^ c = g at *
          simp [hn1, hmod, hdiv, hjm]
          omega
        · rintro e rfl
          have hneg : ¬ ((k : Int) ≤ (k : Int) - 1) := by omega
          rw [digP_all]
          generalize digT f.length k v = W at *
          have hro : S.2.length + 1 ≤ roomy := by unfold roomy; omega
          simp [hneg, hro]
          rcases grp_lso o with ⟨rfl, ho⟩ | ⟨X, rfl, ho⟩
          · rw [ho] at hcl
            refine callR hcl rfl rfl (fun _ => by simp) ?_
            rw [rowsF_snoc]
            simp
            refine wpLoop_count (fun j e => e = fr [(1, some (.val (I k))), (2, some (.val (.mem .own none [tb f, tb s]))), (5, some (.val (I f.length))), (6, some (.val (I N))), (8, some (.val (.mem .own (some 1) (S.1.map B)))), (9, some (.val (.mem .own (some 1) (rowsF S.2 ++ [.mem .fresh (some 1) (W.map I)])))), (10, some (.val (I v))), (14, some (.val nil)), (16, some (.val (I j)))]) 0 ?_ ?_ 0 _ (by omega) ?_
            · intro j e hj
              omega
            · rintro e rfl
              simp [markL]
              omega
            · simp
          · rw [ho] at hcl
            simp only [lso_some] at hc1 hc2 ⊢
            refine callR hcl rfl rfl (fun _ => by simp) ?_
            rw [← rowsF_snoc]
            generalize S.2 ++ [W] = S2 at *
            simp
            refine wpLoop_count (fun j e => e = fr [(1, some (.val (I k))), (2, some (.val (.mem .own none [tb f, tb s]))), (5, some (.val (I f.length))), (6, some (.val (I N))), (8, some (.val (.mem .own (some 1) ((markL f.length S.1 (X.take j)).map B)))), (9, some (.val (.mem .own (some 1) (rowsF S2)))), (10, some (.val (I v))), (14, some (.val (.mem .own (some 1) (rows X)))), (16, some (.val (I j)))]) X.length ?_ ?_ 0 _ (by omega) ?_
            · rintro j e hj rfl
              obtain ⟨x1, x2, x3, x4⟩ := hc2 _ (List.getElem_mem hj)
              have hmk := markL_snoc f.length S.1 (X.take j) X[j]
              rw [← List.take_succ_eq_append_getElem hj] at hmk
              have hml := markL_length f.length (X.take j) S.1
              rw [hmk]
              generalize markL f.length S.1 (X.take j) = Mk at *
              have hpw : f.length ^ X[j].length ≤ 1048576 := by rw [x2, hNe]; omega
              simp [hj]
              refine wpLoop_count (fun c e => e = fr [(1, some (.val (I k))), (2, some (.val (.mem .own none [tb f, tb s]))), (5, some (.val (I f.length))), (6, some (.val (I N))), (8, some (.val (.mem .own (some 1) (Mk.map B)))), (9, some (.val (.mem .own (some 1) (rowsF S2)))), (10, some (.val (I v))), (14, some (.val (.mem .own (some 1) (rows X)))), (16, some (.val (I j))), (17, some (.val (I (numT f.length (X[j].take c))))), (18, some (.val (I c)))]) X[j].length ?_ ?_ 0 _ (by omega) ?_
              · rintro c e hc rfl
                obtain ⟨a1, a2, a3, a4, a5⟩ := num_step x1 (by omega) hpw hc
                simp [hj, hc, a5]
                omega
              · rintro e rfl
                have hlt : (numT f.length X[j]).toNat < Mk.length := by omega
                have hlt2 : numT f.length X[j] < Mk.length := by omega
                simp [hj, x4, hlt, hlt2]
                omega
              · simp [numT]
            · rintro e rfl
              simp
              omega
            · simp [markL]
        · simp [digP_zero]
    · rintro e rfl
      simp
    · rw [hS0]
      simp [rowsF]
  · rfl

/-! ### The program -/

theorem frz_grp (X : List (List Int)) : T.frz .fresh (.tup [.mem .own (some 1) (rows X), B true]) = .tup [.mem .fresh (some 1) (rowsF X), B true] := by
  show T.tup [T.mem .fresh (some 1) (T.frzL .fresh (rows X)), B true] = _
  rw [frzRowsF]
theorem frz_gno : T.frz .fresh (.tup [nil, B false]) = .tup [nil, B false] := rfl
def S_normI (pg : Pg) : Prop := ∀ (f s : List (List Int)) (k : Nat), fits f → fits s → isSol f s → k ≤ 8 → f.length ^ k ≤ 5000 → Call pg 294 [sol f s, I k, I ((f.length ^ k : Nat) : Int)] [sol f s, I k, I ((f.length ^ k : Nat) : Int)] (if nrm f s k = [] then nil else .mem .own (some 1) (rowsF (nrm f s k)))
def rowG' (X : List (List Int)) : T := if X = [] then nil else .mem .own (some 1) (rowsF X)
theorem rowG'_ne {X : List (List Int)} (h : X ≠ []) : rowG' X = .mem .own (some 1) (rowsF X) := by simp [rowG', h]
set_option maxRecDepth 10000 in
theorem t_normalWords {pg : Pg} (hp : pg.fn 294 = some c_impl_normalWords) (h262 : S_digI pg) (h352 : S_wordClass pg) (h263 : S_numI pg) : S_normI pg := by
  intro f s k hff hfs h hk8 hN
  have hpm := PM.of h.1
  have h0 := hpm.pos
  have h12 := hpm.small
  have hcv := fun v => cl_spec h k v
  have hdg := fun v : Nat => digT_rng (n := f.length) (m := k) (v := v) h0
  have hcls := fun v : Nat => h352 f s (digT f.length k v) 5000 hff hfs h (hdg v) (by rw [digT_length]; omega) (by omega) (by omega)
  have hlenS := nrmS_length f s k
  have hwds := nrmS_words f s k
  unfold nrm
  have hS0 : nrmS f s k 0 = (List.replicate (f.length ^ k) false, []) := rfl
  have hstep : ∀ v, nrmS f s k (v + 1) = if (nrmS f s k v).1.getD v false then nrmS f s k v else (markL f.length (nrmS f s k v).1 (clV f s k v), (nrmS f s k v).2 ++ [digT f.length k v]) := fun v => rfl
  generalize hNe : f.length ^ k = N at *
  show Call pg 294 _ _ (rowG' (nrmS f s k N).2)
  refine Call.intro hp rfl (by simp) ?_
  show wp _ _ c_impl_normalWords.body (post [.t 6] _ _ _) _
  simp [c_impl_normalWords]
  refine ⟨by unfold roomy; omega, ?_⟩
  refine wpLoop_count (fun v e => e = fr [(1, some (.val (I k))), (3, some (.val (.mem .own none [tb f, tb s]))), (7, some (.val (I f.length))), (8, some (.val (.mem .own (some 1) ((nrmS f s k v).1.map B)))), (9, some (.val (rowG' (nrmS f s k v).2))), (22, some (.val (I N))), (23, some (.val (I v)))]) N ?_ ?_ 0 _ (by omega) ?_
  · rintro v e hv rfl
    have hSl := hlenS v
    have hwv := (hwds v).1
    have hcl := hcls v
    have hdc := h262 f.length k v h0 (by omega) (by omega) (by omega)
    obtain ⟨hc1, hc2⟩ := hcv v
    rw [hstep]
    unfold clV at hc1 hc2 ⊢
    generalize cO f s (digT f.length k v) 5000 = o at *
    generalize nrmS f s k v = S at *
    have hkl : v < S.1.length := by omega
    have hg : S.1.getD v false = S.1[v] := by rw [List.getD_eq_getElem?_getD, List.getElem?_eq_getElem hkl]; rfl
    rw [hg]
    by_cases hb : S.1[v] = true
    · simp [hv, hkl, hb]
      omega
    · have hb' : S.1[v] = false := by simpa using hb
      simp [hv, hkl, hb']
      refine callR hdc rfl rfl (fun _ => by simp) ?_
      generalize digT f.length k v = W at *
      have hro : S.2.length + 1 ≤ roomy := by unfold roomy; omega
      have hne : S.2 ++ [W] ≠ [] := by simp
      rw [rowG'_ne hne]
      by_cases hS2 : S.2 = []
      · rw [show rowG' S.2 = nil from by simp [rowG', hS2]]
        simp [roomy]
        rw [show [T.mem .fresh (some 1) (List.map I W)] = rowsF (S.2 ++ [W]) from by simp [hS2, rowsF]]
        generalize S.2 ++ [W] = S2 at *
        rcases grp_lso o with ⟨rfl, ho⟩ | ⟨X, rfl, ho⟩
        · rw [ho] at hcl
          refine callR hcl rfl rfl (fun _ => by simp) ?_
          simp [frz_gno]
          refine wpLoop_count (fun j e => e = fr [(1, some (.val (I k))), (3, some (.val (.mem .own none [tb f, tb s]))), (7, some (.val (I f.length))), (8, some (.val (.mem .own (some 1) (S.1.map B)))), (9, some (.val (.mem .own (some 1) (rowsF S2)))), (22, some (.val (I N))), (23, some (.val (I v))), (44, some (.val nil)), (45, some (.val (I 0))), (46, some (.val (I j)))]) 0 ?_ ?_ 0 _ (by omega) ?_
          · intro j e hj
            omega
          · rintro e rfl
            simp [markL]
            omega
          · simp
        · rw [ho] at hcl
          simp only [lso_some] at hc1 hc2 ⊢
          refine callR hcl rfl rfl (fun _ => by simp) ?_
          simp [frz_grp]
          refine wpLoop_count (fun j e => e = fr [(1, some (.val (I k))), (3, some (.val (.mem .own none [tb f, tb s]))), (7, some (.val (I f.length))), (8, some (.val (.mem .own (some 1) ((markL f.length S.1 (X.take j)).map B)))), (9, some (.val (.mem .own (some 1) (rowsF S2)))), (22, some (.val (I N))), (23, some (.val (I v))), (44, some (.val (.mem .fresh (some 1) (rowsF X)))), (45, some (.val (I X.length))), (46, some (.val (I j)))]) X.length ?_ ?_ 0 _ (by omega) ?_
          · rintro j e hj rfl
            obtain ⟨x1, x2, x3, x4⟩ := hc2 _ (List.getElem_mem hj)
            have hmk := markL_snoc f.length S.1 (X.take j) X[j]
            rw [← List.take_succ_eq_append_getElem hj] at hmk
            have hml := markL_length f.length (X.take j) S.1
            rw [hmk]
            generalize markL f.length S.1 (X.take j) = Mk at *
            have hpw : f.length ^ X[j].length ≤ 1048576 := by rw [x2, hNe]; omega
            have hnm := h263 f.length X[j] x1 (by omega) (by omega) hpw
            have hlt : (numT f.length X[j]).toNat < Mk.length := by omega
            have hlt2 : numT f.length X[j] < Mk.length := by omega
            simp [hj]
            refine callR hnm rfl rfl (fun _ => rfl) ?_
            simp [x4, hlt, hlt2]
            omega
          · rintro e rfl
            simp
            omega
          · simp [markL]
      · rw [rowG'_ne hS2]
        simp [hro]
        rw [← rowsF_snoc]
        generalize S.2 ++ [W] = S2 at *
        rcases grp_lso o with ⟨rfl, ho⟩ | ⟨X, rfl, ho⟩
        · rw [ho] at hcl
          refine callR hcl rfl rfl (fun _ => by simp) ?_
          simp [frz_gno]
          refine wpLoop_count (fun j e => e = fr [(1, some (.val (I k))), (3, some (.val (.mem .own none [tb f, tb s]))), (7, some (.val (I f.length))), (8, some (.val (.mem .own (some 1) (S.1.map B)))), (9, some (.val (.mem .own (some 1) (rowsF S2)))), (22, some (.val (I N))), (23, some (.val (I v))), (44, some (.val nil)), (45, some (.val (I 0))), (46, some (.val (I j)))]) 0 ?_ ?_ 0 _ (by omega) ?_
          · intro j e hj
            omega
          · rintro e rfl
            simp [markL]
            omega
          · simp
        · rw [ho] at hcl
          simp only [lso_some] at hc1 hc2 ⊢
          refine callR hcl rfl rfl (fun _ => by simp) ?_
          simp [frz_grp]
          refine wpLoop_count (fun j e => e = fr [(1, some (.val (I k))), (3, some (.val (.mem .own none [tb f, tb s]))), (7, some (.val (I f.length))), (8, some (.val (.mem .own (some 1) ((markL f.length S.1 (X.take j)).map B)))), (9, some (.val (.mem .own (some 1) (rowsF S2)))), (22, some (.val (I N))), (23, some (.val (I v))), (44, some (.val (.mem .fresh (some 1) (rowsF X)))), (45, some (.val (I X.length))), (46, some (.val (I j)))]) X.length ?_ ?_ 0 _ (by omega) ?_
          · rintro j e hj rfl
            obtain ⟨x1, x2, x3, x4⟩ := hc2 _ (List.getElem_mem hj)
            have hmk := markL_snoc f.length S.1 (X.take j) X[j]
            rw [← List.take_succ_eq_append_getElem hj] at hmk
            have hml := markL_length f.length (X.take j) S.1
            rw [hmk]
            generalize markL f.length S.1 (X.take j) = Mk at *
            have hpw : f.length ^ X[j].length ≤ 1048576 := by rw [x2, hNe]; omega
            have hnm := h263 f.length X[j] x1 (by omega) (by omega) hpw
            have hlt : (numT f.length X[j]).toNat < Mk.length := by omega
            have hlt2 : numT f.length X[j] < Mk.length := by omega
            simp [hj]
            refine callR hnm rfl rfl (fun _ => rfl) ?_
            simp [x4, hlt, hlt2]
            omega
          · rintro e rfl
            simp
            omega
          · simp [markL]
  · rintro e rfl
    by_cases hS2 : (nrmS f s k N).2 = []
    · simp [rowG', hS2]
    · simp [rowG'_ne hS2]
  · rw [hS0]
    simp [rowG']
end Go.Mch
/- CountClasses. -/
namespace Go.Mch

def nmOk (f : List (List Int)) (p : Int) : Prop := (0 ≤ p ∧ p ≤ 8) ∧ f.length ^ p.toNat ≤ 5000
instance (f : List (List Int)) (p : Int) : Decidable (nmOk f p) := by unfold nmOk; infer_instance
open Classical in
noncomputable def nmR (f s : List (List Int)) (p : Int) : List (List Int) := if isSol f s ∧ nmOk f p then nrm f s p.toNat else []
open Classical in
noncomputable def nmC (f s : List (List Int)) (p : Int) : Int := if isSol f s then if 0 ≤ p ∧ p ≤ 8 then if f.length ^ p.toNat ≤ 5000 then 0 else 3 else 2 else 1
def S_many (pg : Pg) : Prop := ∀ (f s : List (List Int)) (p : Int), fits f → fits s → Call pg 295 [sol f s, I p] [sol f s, I p] (I (nmC f s p))
theorem t_l09Many {pg : Pg} (hp : pg.fn 295 = some c_spec_l09Many) (h41 : S_isSol pg 41) (h30 : S_in pg 30) : S_many pg := by
  intro f s p hf hs
  refine Call.intro hp rfl (by simp) ?_
  show wp _ _ c_spec_l09Many.body (post [.t 4] _ _ _) _
  simp [c_spec_l09Many]
  refine callR (h41 f s hf hs) rfl rfl (fun _ => rfl) ?_
  by_cases h : isSol f s
  · have hpm := PM.of h.1
    have h0 := hpm.pos
    have h12 := hpm.small
    simp [dec_true h]
    refine callR (h30 p 0 8) rfl rfl (fun _ => rfl) ?_
    by_cases h1 : 0 ≤ p ∧ p ≤ 8
    · simp [h1]
      obtain ⟨m, rfl⟩ := Int.eq_ofNat_of_zero_le h1.1
      have hm8 : m ≤ 8 := by omega
      have hbig : f.length ^ m ≤ 429981696 := Nat.le_trans (Nat.pow_le_pow_left h12 m) (Nat.le_trans (Nat.pow_le_pow_right (by omega) hm8) (by decide))
      have hpw : ∀ j, j ≤ m → f.length ^ j ≤ 429981696 := fun j hj => Nat.le_trans (Nat.pow_le_pow_right h0 hj) hbig
      refine wpLoop_count (fun j e => e = fr [(1, some (.val (I m))), (2, some (.val (.mem .own none [tb f, tb s]))), (5, some (.val (I ((f.length ^ j : Nat) : Int)))), (6, some (.val (I j)))]) m ?_ ?_ 0 _ (by omega) ?_
      · rintro j e hj rfl
        have hmul : ((f.length ^ j : Nat) : Int) * f.length = ((f.length ^ (j + 1) : Nat) : Int) := by rw [Nat.pow_succ, Int.natCast_mul]
        have hb := hpw (j + 1) (by omega)
        generalize hA : f.length ^ j = A at *
        generalize hB : f.length ^ (j + 1) = A' at *
        simp [hj, hmul]
        omega
      · rintro e rfl
        have e1 : nmC f s m = if f.length ^ m ≤ 5000 then 0 else 3 := by simp [nmC, h, h1]
        rw [e1]
        generalize f.length ^ m = A at *
        by_cases h5 : A ≤ 5000
        · have h5' : ¬ (5000 : Int) < A := by omega
          simp [h5, h5']
        · have h5' : (5000 : Int) < A := by omega
          simp [h5, h5']
      · rfl
    · have e2 : nmC f s p = 2 := by simp [nmC, h, h1]
      simp [h1, e2]
  · have e1 : nmC f s p = 1 := by simp [nmC, h]
    simp [dec_false h, e1]
theorem nm_0 {f s : List (List Int)} {p : Int} (h : nmC f s p = 0) : isSol f s ∧ nmOk f p := by
  unfold nmC at h
  split at h
  · rename_i h1
    split at h
    · rename_i h2
      split at h
      · rename_i h3; exact ⟨h1, h2, h3⟩
      · omega
    · omega
  · omega
theorem nm_ne {f s : List (List Int)} {p : Int} (h : nmC f s p ≠ 0) : nmR f s p = [] := by
  unfold nmR
  split
  · rename_i h1
    exact absurd (by simp [nmC, h1.1, h1.2.1, h1.2.2]) h
  · rfl
def S_cc (pg : Pg) (n : Nat) : Prop := ∀ (f s : List (List Int)) (p : Int), fits f → fits s → Call pg n [sol f s, I p] [sol f s, I p] (.tup [I (nmR f s p).length, I (nmC f s p)])
theorem t_cc_spec {pg : Pg} (hp : pg.fn 223 = some c_spec_CountClasses) (h295 : S_many pg) (h296 : S_normals pg) : S_cc pg 223 := by
  intro f s p hf hs
  refine Call.intro hp rfl (by simp) ?_
  show wp _ _ c_spec_CountClasses.body (post [.t 4, .t 5] _ _ _) _
  simp [c_spec_CountClasses]
  refine callR (h295 f s p hf hs) rfl rfl (fun _ => rfl) ?_
  by_cases h : nmC f s p = 0
  · obtain ⟨h1, h2, h3⟩ := nm_0 h
    have e1 : nmR f s p = nrm f s p.toNat := by simp [nmR, h1, h2, h3, nmOk]
    obtain ⟨m, rfl⟩ := Int.eq_ofNat_of_zero_le h2.1
    rw [Int.toNat_natCast] at h3 e1
    have hc := h296 f s m h1 (by omega) h3
    simp [h, e1]
    refine callR hc rfl rfl (fun _ => by simp [noOldL_rowsF]) ?_
    simp
  · simp [h, nm_ne h]
/-- NormalWords, of the program: the words are frozen. -/
def S_nmF (pg : Pg) : Prop := ∀ (f s : List (List Int)) (p : Int), fits f → fits s → Call pg 155 [sol f s, I p] [sol f s, I p] (.tup [rowG' (nmR f s p), I (nmC f s p)])
set_option maxRecDepth 10000 in
theorem t_NormalWords {pg : Pg} (hp : pg.fn 155 = some c_impl_NormalWords) (h42 : S_isSol pg 42) (h35 : S_in pg 35) (h294 : S_normI pg) : S_nmF pg := by
  intro f s p hf hs
  refine Call.intro hp rfl (by simp) ?_
  show wp _ _ c_impl_NormalWords.body (post [.t 4, .t 5] _ _ _) _
  simp [c_impl_NormalWords]
  refine callR (h42 f s hf hs) rfl rfl (fun _ => rfl) ?_
  by_cases h : isSol f s
  · have hpm := PM.of h.1
    have h0 := hpm.pos
    have h12 := hpm.small
    simp [dec_true h]
    refine callR (h35 p 0 8) rfl rfl (fun _ => rfl) ?_
    by_cases h1 : 0 ≤ p ∧ p ≤ 8
    · simp [h1]
      obtain ⟨m, rfl⟩ := Int.eq_ofNat_of_zero_le h1.1
      have hm8 : m ≤ 8 := by omega
      refine wpLoop_count (fun j e => f.length ^ j ≤ 5000 ∧ e = fr [(1, some (.val (I m))), (2, some (.val (.mem .own none [tb f, tb s]))), (6, some (.val (I ((f.length ^ j : Nat) : Int)))), (13, some (.val (I m))), (14, some (.val (I j)))]) m ?_ ?_ 0 _ (by omega) ?_
      · rintro j e hj ⟨hk5, rfl⟩
        have hmul : ((f.length ^ j : Nat) : Int) * f.length = ((f.length ^ (j + 1) : Nat) : Int) := by rw [Nat.pow_succ, Int.natCast_mul]
        have hb : f.length ^ (j + 1) ≤ 60000 := by
          rw [Nat.pow_succ]
          exact Nat.le_trans (Nat.mul_le_mul hk5 h12) (by omega)
        have hno := fun h5 : 5000 < f.length ^ (j + 1) => pow_step h0 hj h5
        generalize hA : f.length ^ j = A at *
        generalize hB : f.length ^ (j + 1) = A' at *
        simp [hj, hmul]
        by_cases h5 : A' ≤ 5000
        · have h5' : ¬ (5000 : Int) < A' := by omega
          simp [h5']
          omega
        · have h5' : (5000 : Int) < A' := by omega
          have hn := hno (by omega)
          have e2 : nmC f s m = 3 := by simp [nmC, h, h1, hn]
          simp [h5', e2, nm_ne (f := f) (s := s) (p := m) (by omega), rowG']
          omega
      · rintro e ⟨hk5, rfl⟩
        have e1 : nmR f s m = nrm f s m := by simp [nmR, h, nmOk, hk5]; omega
        have e2 : nmC f s m = 0 := by simp [nmC, h, h1, hk5]
        have hc := h294 f s m hf hs h hm8 hk5
        rw [show (if nrm f s m = [] then nil else T.mem .own (some 1) (rowsF (nrm f s m))) = rowG' (nrm f s m) from rfl] at hc
        rw [e1, e2]
        generalize nrm f s m = Z at *
        by_cases hZ : Z = []
        · subst hZ
          simp
          refine callR hc rfl rfl (fun _ => by simp [rowG']) ?_
          simp [rowG']
        · rw [rowG'_ne hZ] at hc ⊢
          simp
          refine callR hc rfl rfl (fun _ => by simp [noOldL_rowsF]) ?_
          simp
      · exact ⟨by simp, rfl⟩
    · have e2 : nmC f s p = 2 := by simp [nmC, h, h1]
      simp [h1, e2, nm_ne (f := f) (s := s) (p := p) (by omega), rowG']
  · have e1 : nmC f s p = 1 := by simp [nmC, h]
    simp [dec_false h, e1, nm_ne (f := f) (s := s) (p := p) (by omega), rowG']
theorem t_cc_impl {pg : Pg} (hp : pg.fn 157 = some c_impl_CountClasses) (h155 : S_nmF pg) : S_cc pg 157 := by
  intro f s p hf hs
  refine Call.intro hp rfl (by simp) ?_
  show wp _ _ c_impl_CountClasses.body (post [.t 4, .t 5] _ _ _) _
  simp [c_impl_CountClasses]
  have hc := h155 f s p hf hs
  generalize nmR f s p = Z at *
  by_cases hZ : Z = []
  · subst hZ
    refine callR hc rfl rfl (fun _ => by simp [rowG']) ?_
    simp [rowG']
  · rw [rowG'_ne hZ] at hc
    refine callR hc rfl rfl (fun _ => by simp [noOldL_rowsF]) ?_
    simp
end Go.Mch
/- The runs of the laws of CountClasses. -/
namespace Go.Mch
def S_law110 (pg : Pg) : Prop := S_lw_pN pg 110
theorem t_law110 {pg : Pg} (hp : pg.fn 110 = some (lw_pN 223 157)) (h223 : S_cc pg 223) (h157 : S_cc pg 157) (h14 : S_szSol pg) (h16 : S_toSol pg) (h18 : S_eqSol pg) : S_law110 pg := by
  exact t_lw_pN (R0 := (fun f s p => ((nmR f s p).length : Int))) (R1 := nmC) hp h223 h157  h14 h16 h18
end Go.Mch
