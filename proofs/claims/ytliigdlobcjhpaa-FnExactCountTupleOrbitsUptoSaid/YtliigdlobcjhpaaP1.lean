/- Our texts YfA YfC YfD YfE YfB YfF YfG YfI YfJ YfK YfM YfN YfO YfP YfQ YfR YfS YfT YhB YgA YgD YiD, end to end. -/
import Derived.Test.YtliigdlobcjhpaaYeA
import Derived.Test.YtliigdlobcjhpaaYeB
import Derived.Test.YtliigdlobcjhpaaM1
import Derived.Test.YtliigdlobcjhpaaM3
import Derived.ProofKit
import Derived.OpenShut
import Derived.JoinedCond
import Derived.WideKeyArgs
/- Lists of numbers and of lists as trees; what the laws read and make. -/
namespace Go.Mch

abbrev nil : T := .sc (.slice none 0 0)

/-- What a slice of the caller's is: nil, an empty one without cells, or one with cells. -/
inductive Rw (α : Type) where
  | no
  | odd (a : Addr)
  | of (l : List α)

def lst {α : Type} : Rw α → List α
  | .of l => l
  | _ => []
def lso {α : Type} (o : Option (List α)) : List α := o.getD []
def Rw.ofO {α : Type} : Option (List α) → Rw α
  | none => .no
  | some l => .of l

/-- A slice of the caller's. -/
def rawI : Rw Int → T
  | .no => nil
  | .odd a => .sc (.slice (some a) 0 0)
  | .of xs => .mem .old (some 1) (xs.map I)

@[simp] theorem lst_of {α : Type} (l : List α) : lst (.of l) = l := rfl
@[simp] theorem lst_no {α : Type} : lst (.no : Rw α) = [] := rfl
@[simp] theorem lst_odd {α : Type} (a : Addr) : lst (.odd a : Rw α) = [] := rfl
@[simp] theorem lso_some {α : Type} (l : List α) : lso (some l) = l := rfl
@[simp] theorem lso_none {α : Type} : lso (none : Option (List α)) = [] := rfl
@[simp] theorem lst_ofO {α : Type} (o : Option (List α)) : lst (Rw.ofO o) = lso o := by cases o <;> rfl

@[simp] theorem noOwnL_mapI (xs : List Int) : T.noOwnL (xs.map I) = true := by
  induction xs with
  | nil => rfl
  | cons x xs ih => simp [ih]
@[simp] theorem eryL_mapI (k : K) (xs : List Int) : T.eryL k (xs.map I) = xs.map I := by
  induction xs with
  | nil => rfl
  | cons x xs ih => simp [ih]
@[simp] theorem noOldL_mapI (xs : List Int) : T.noOldL (xs.map I) = true := by
  induction xs with
  | nil => rfl
  | cons x xs ih => simp [ih]
@[simp] theorem lendL_mapI (xs : List Int) : T.lendL (xs.map I) = xs.map I := by
  induction xs with
  | nil => rfl
  | cons x xs ih => simp [ih]
@[simp] theorem rawI_noOwn (a : Rw Int) : (rawI a).noOwn = true := by cases a <;> simp [rawI]
@[simp] theorem rawI_peek (a : Rw Int) (n : Nat) (p : List Nat) : (rawI a).peek n p = .val (rawI a) := by cases a <;> rfl
@[simp] theorem rawI_ery (a : Rw Int) : (rawI a).ery .old = rawI a := by cases a <;> simp [rawI]
@[simp] theorem rawI_len (a : Rw Int) : lenV (.val (rawI a)) = some (lst a).length := by cases a <;> simp [rawI]
@[simp] theorem rawI_idx (a : Rw Int) (i : Int) : idxV 1 (.val (rawI a)) i = if 0 ≤ i ∧ i < ((lst a).length : Int) then some (.val (.mem .old none (win ((lst a).map I) (i.toNat * 1) 1))) else none := by
  cases a with
  | no =>
    simp only [rawI, idxV, lst_no, List.length_nil, List.map_nil]
    rw [if_neg]
    omega
  | odd ad =>
    simp only [rawI, idxV, lst_odd, List.length_nil, List.map_nil]
    rw [if_neg]
    omega
  | of xs => simp [rawI]
/-- A slice of slices of the caller's. -/
def rawT : Rw (Rw Int) → T
  | .no => nil
  | .odd a => .sc (.slice (some a) 0 0)
  | .of rs => .mem .old (some 1) (rs.map rawI)
@[simp] theorem noOwnL_mapR (rs : List (Rw Int)) : T.noOwnL (rs.map rawI) = true := by
  induction rs with
  | nil => rfl
  | cons x xs ih => simp [ih]
@[simp] theorem eryL_mapR (rs : List (Rw Int)) : T.eryL .old (rs.map rawI) = rs.map rawI := by
  induction rs with
  | nil => rfl
  | cons x xs ih => simp [ih]
@[simp] theorem rawT_noOwn (a : Rw (Rw Int)) : (rawT a).noOwn = true := by cases a <;> simp [rawT]
@[simp] theorem rawT_peek (a : Rw (Rw Int)) (n : Nat) (p : List Nat) : (rawT a).peek n p = .val (rawT a) := by cases a <;> rfl
@[simp] theorem rawT_ery (a : Rw (Rw Int)) : (rawT a).ery .old = rawT a := by cases a <;> simp [rawT]
@[simp] theorem rawT_len (a : Rw (Rw Int)) : lenV (.val (rawT a)) = some (lst a).length := by cases a <;> simp [rawT]
@[simp] theorem rawT_idx (a : Rw (Rw Int)) (i : Int) : idxV 1 (.val (rawT a)) i = if 0 ≤ i ∧ i < ((lst a).length : Int) then some (.val (.mem .old none (win ((lst a).map rawI) (i.toNat * 1) 1))) else none := by
  cases a with
  | no =>
    simp only [rawT, idxV, lst_no, List.length_nil, List.map_nil]
    rw [if_neg]
    omega
  | odd ad =>
    simp only [rawT, idxV, lst_odd, List.length_nil, List.map_nil]
    rw [if_neg]
    omega
  | of xs => simp [rawT]
@[simp] theorem rawT_cells (a : Rw (Rw Int)) : (rawT a).cells = [rawT a] := by cases a <;> rfl
@[simp] theorem rawT_isCell (a : Rw (Rw Int)) : (rawT a).isCell = true := by cases a <;> rfl
@[simp] theorem rawI_isCell (a : Rw Int) : (rawI a).isCell = true := by cases a <;> rfl

/-- A call all of whose arguments are read only. -/
theorem callR {G : Rl} {d : Option Nat} {k : Env → Prop} {e : Env} {args : List (Opd × Mode)} {id : Nat} {caps ts : List T} {r : T} (hc : G id (ts ++ T.eryL .old caps) (ts ++ T.eryL .old caps) r) (hall : args.all (fun x => x.2 == .r) = true) (hlen : args.length = ts.length)
    (hold : e.lends args = true → r.noOld = true) (hk : k (e.setD d (.val r))) : callP G d k e args id caps ts := by
  refine ⟨ts, r, hc, rfl, fun h => ⟨hold h, hall⟩, ?_⟩
  have : ∀ (xs : List (Opd × Mode)) (us : List T), xs.all (fun x => x.2 == .r) = true → xs.length = us.length → e.back xs us = some e := by
    intro xs
    induction xs with
    | nil => intro us _ h; cases us with | nil => rfl | cons => simp at h
    | cons x xs ih =>
      intro us h h2
      obtain ⟨x, md⟩ := x
      simp only [List.all_cons, Bool.and_eq_true, beq_iff_eq] at h
      obtain ⟨rfl, h⟩ := h
      cases us with
      | nil => simp at h2
      | cons u us => simp only [Env.back]; exact ih us (by simpa using h) (by simpa using h2)
  rw [this args ts hall hlen]
  exact ⟨e, rfl, hk⟩

theorem set_fill {α : Type} {xs : List α} {z : α} {k : Nat} (hk : k < xs.length) :
    (List.take k xs ++ List.replicate (xs.length - k) z).set k xs[k] = List.take (k + 1) xs ++ List.replicate (xs.length - (k + 1)) z := by
  rw [List.set_append_right _ _ (by simp; omega)]
  have h1 : (List.take k xs).length = k := by simp; omega
  rw [h1, Nat.sub_self, show xs.length - k = (xs.length - (k + 1)) + 1 from by omega, List.replicate_succ, List.set_cons_zero]
  rw [List.take_succ_eq_append_getElem hk, List.append_assoc]
  rfl

theorem take_len {α : Type} (l : List α) {n : Nat} (h : l.length ≤ n) : l.take n = l := List.take_of_length_le h
@[simp] theorem take_map_len {α β : Type} (l : List α) (f : α → β) : List.take l.length (l.map f) = l.map f := List.take_of_length_le (by simp)

/-! ### Copies -/

def S_toI (pg : Pg) : Prop := ∀ a : Rw Int, (lst a).length ≤ 1048576 → Call pg 7 [rawI a] [rawI a] (ints .own (lst a))
theorem t_toI {pg : Pg} (hp : pg.fn 7 = some c_laws_toInt64S) : S_toI pg := by
  intro a hl
  refine Call.intro hp rfl (by simp) ?_
  show wp _ _ c_laws_toInt64S.body (post [.t 2] _ _ _) _
  simp [c_laws_toInt64S, ints]
  refine ⟨by unfold roomy; omega, ?_⟩
  refine wpLoop_count (fun k e => e = fr [(0, some (.val (rawI a))), (3, some (.val (.mem .own (some 1) ((lst a).map I |>.take k |>.append (List.replicate ((lst a).length - k) (I 0)))))), (4, some (.val (I k)))]) (lst a).length ?_ ?_ 0 _ (by omega) ?_
  · rintro k e hk rfl
    simp [hk]
    refine ⟨by omega, by omega, by omega, ?_⟩
    have := set_fill (xs := (lst a).map I) (z := I 0) (k := k) (by simpa using hk)
    simp at this
    rw [this]
  · rintro e rfl
    simp [take_len]
  · simp

theorem S_toI.at {pg : Pg} (h : S_toI pg) (a : Rw Int) (hl : (lst a).length ≤ 1048576) : Call pg 7 [rawI a] [rawI a] (.mem .own (some 1) ((lst a).map I)) := h a hl

/-- A table of the frame's own. -/
def rows (xss : List (List Int)) : List T := xss.map fun xs => .mem .own (some 1) (xs.map I)
@[simp] theorem rows_length (xss : List (List Int)) : (rows xss).length = xss.length := by simp [rows]

@[simp] theorem noOldL_rows (xss : List (List Int)) : T.noOldL (rows xss) = true := by
  induction xss with
  | nil => rfl
  | cons x xs ih => simp only [rows, List.map_cons] at ih ⊢; simp [ih]
@[simp] theorem lendL_rows (xss : List (List Int)) : T.lendL (rows xss) = rows xss := by
  induction xss with
  | nil => rfl
  | cons x xs ih => simp only [rows, List.map_cons] at ih ⊢; simp [ih]
/-- A slice that is only read. -/
abbrev ix (xs : List Int) : T := .mem .old (some 1) (xs.map I)
/-- The rows of a table that is only read. -/
def tbL (xss : List (List Int)) : List T := xss.map fun xs => ix xs
/-- A table that is only read. -/
abbrev tb (xss : List (List Int)) : T := .mem .old (some 1) (tbL xss)
@[simp] theorem tbL_length (xss : List (List Int)) : (tbL xss).length = xss.length := by simp [tbL]
@[simp] theorem noOwnL_tbL (xss : List (List Int)) : T.noOwnL (tbL xss) = true := by
  induction xss with
  | nil => rfl
  | cons x xs ih => simp only [tbL, List.map_cons] at ih ⊢; simp [ih]
@[simp] theorem eryL_tbL (xss : List (List Int)) : T.eryL .old (tbL xss) = tbL xss := by
  induction xss with
  | nil => rfl
  | cons x xs ih => simp only [tbL, List.map_cons] at ih ⊢; simp [ih]
@[simp] theorem eryL_rows (xss : List (List Int)) : T.eryL .old (rows xss) = tbL xss := by
  induction xss with
  | nil => rfl
  | cons x xs ih => simp only [rows, tbL, List.map_cons] at ih ⊢; simp [ih]
theorem rawT_tb (xss : List (List Int)) : rawT (.of (xss.map .of)) = tb xss := by simp [rawT, tbL, rawI]
@[simp] theorem rows_getElem (xss : List (List Int)) (j : Nat) (h : j < (rows xss).length) : (rows xss)[j] = .mem .own (some 1) ((xss[j]'(by simpa using h)).map I) := by simp [rows]

def small (a : Rw (Rw Int)) : Prop := (lst a).length ≤ 1048576 ∧ ∀ r ∈ lst a, (lst r).length ≤ 1048576

def S_toT (pg : Pg) : Prop := ∀ a, small a → Call pg 32 [rawT a] [rawT a] (.mem .own (some 1) (rows ((lst a).map lst)))
theorem t_toT {pg : Pg} (hp : pg.fn 32 = some c_laws_toInt64SS) (h7 : S_toI pg) : S_toT pg := by
  intro a ⟨hl, hr⟩
  refine Call.intro hp rfl (by simp) ?_
  show wp _ _ c_laws_toInt64SS.body (post [.t 2] _ _ _) _
  simp [c_laws_toInt64SS]
  refine ⟨by unfold roomy; omega, ?_⟩
  refine wpLoop_count (fun k e => e = fr [(0, some (.val (rawT a))), (3, some (.val (.mem .own (some 1) ((rows ((lst a).map lst)).take k ++ List.replicate ((lst a).length - k) nil)))), (4, some (.val (I k)))]) (lst a).length ?_ ?_ 0 _ (by omega) ?_
  · rintro k e hk rfl
    simp [hk]
    refine callR (h7.at _ (hr _ (List.getElem_mem hk))) rfl rfl (fun _ => by simp) ?_
    simp
    refine ⟨by omega, by omega, by omega, ?_⟩
    have := set_fill (xs := rows ((lst a).map lst)) (z := nil) (k := k) (by simpa using hk)
    simp [rows] at this
    simp [rows, this]
  · rintro e rfl
    simp [take_len]
  · simp


def S_toSol (pg : Pg) : Prop := ∀ a b, small a → small b → Call pg 16 [.agg [rawT a, rawT b]] [.agg [rawT a, rawT b]] (.agg [.mem .own (some 1) (rows ((lst a).map lst)), .mem .own (some 1) (rows ((lst b).map lst))])
theorem t_toSol {pg : Pg} (hp : pg.fn 16 = some c_laws_toSolution) (h32 : S_toT pg) : S_toSol pg := by
  intro a b ha hb
  refine Call.intro hp rfl (by simp) ?_
  show wp _ _ c_laws_toSolution.body (post [.cell 2 (some 2)] _ _ _) _
  simp [c_laws_toSolution]
  refine callR (h32 _ ha) rfl rfl (fun _ => by simp) ?_
  simp
  refine callR (h32 _ hb) rfl rfl (fun _ => by simp) ?_
  simp

/-! ### Sizes -/

def sz1 (r : Rw Int) (l : Int) : Int := if l - ((lst r).length : Int) < 0 then -1 else l - ((lst r).length : Int)
def szL : List (Rw Int) → Int → Int
  | [], l => l
  | r :: rs, l => if sz1 r l < 0 then -1 else szL rs (sz1 r l)
def szT (a : Rw (Rw Int)) (l : Int) : Int := if l - ((lst a).length : Int) < 0 then -1 else szL (lst a) (l - ((lst a).length : Int))
theorem sz1_le {r : Rw Int} {l : Int} (h : -1 ≤ l) : -1 ≤ sz1 r l ∧ sz1 r l ≤ max l 0 := by
  unfold sz1; split <;> omega
theorem szL_le : ∀ (rs : List (Rw Int)) {l : Int}, -1 ≤ l → -1 ≤ szL rs l ∧ szL rs l ≤ max l 0
  | [], l, h => by unfold szL; omega
  | r :: rs, l, h => by
    have h1 := sz1_le (r := r) h
    unfold szL
    split
    · omega
    · have := szL_le rs (l := sz1 r l) h1.1
      omega
theorem szT_le {a : Rw (Rw Int)} {l : Int} (h : -1 ≤ l) : -1 ≤ szT a l ∧ szT a l ≤ max l 0 := by
  unfold szT
  split
  · omega
  · have := szL_le (lst a) (l := l - ((lst a).length : Int)) (by omega)
    omega

def S_szI (pg : Pg) : Prop := ∀ (a : Rw Int) (l : Int), (lst a).length ≤ 1048576 → -1 ≤ l → l ≤ 1048576 → Call pg 45 [rawI a, I l] [rawI a, I l] (I (sz1 a l))
theorem t_szI {pg : Pg} (hp : pg.fn 45 = some c_laws_szInt64S) : S_szI pg := by
  intro a l ha h1 h2
  refine Call.intro hp rfl (by simp) ?_
  show wp _ _ c_laws_szInt64S.body (post [.t 4] _ _ _) _
  by_cases hlt : l - ((lst a).length : Int) < 0
  · simp [c_laws_szInt64S, hlt, sz1]
    omega
  · simp [c_laws_szInt64S, hlt, sz1]
    omega

def S_szT (pg : Pg) : Prop := ∀ (a : Rw (Rw Int)) (l : Int), small a → -1 ≤ l → l ≤ 1048576 → Call pg 27 [rawT a, I l] [rawT a, I l] (I (szT a l))
theorem t_szT {pg : Pg} (hp : pg.fn 27 = some c_laws_szInt64SS) (h45 : S_szI pg) : S_szT pg := by
  intro a l ⟨ha, hr⟩ h1 h2
  refine Call.intro hp rfl (by simp) ?_
  show wp _ _ c_laws_szInt64SS.body (post [.t 4] _ _ _) _
  by_cases hlt : l - ((lst a).length : Int) < 0
  · simp [c_laws_szInt64SS, hlt, szT]
    omega
  · simp [c_laws_szInt64SS, hlt, szT]
    refine ⟨by omega, ?_⟩
    refine wpLoop_count (fun k e => ∃ l' : Int, -1 ≤ l' ∧ l' ≤ 1048576 ∧ szL ((lst a).drop k) l' = szL (lst a) (l - ((lst a).length : Int)) ∧ e = fr [(0, some (.val (rawT a))), (1, some (.val (I l'))), (5, some (.val (I k)))]) (lst a).length ?_ ?_ 0 _ (by omega) ?_
    · rintro k e hk ⟨l', g1, g2, g3, rfl⟩
      simp [hk]
      have hd : (lst a).drop k = (lst a)[k] :: (lst a).drop (k + 1) := List.drop_eq_getElem_cons hk
      rw [hd] at g3
      simp only [szL] at g3
      have h3 := sz1_le (r := (lst a)[k]) g1
      refine callR (h45 _ _ (hr _ (List.getElem_mem hk)) g1 g2) rfl rfl (fun _ => rfl) ?_
      by_cases hn : sz1 (lst a)[k] l' < 0
      · simp [hn]
        rw [if_pos hn] at g3
        exact g3
      · simp [hn]
        rw [if_neg hn] at g3
        refine ⟨by omega, sz1 (lst a)[k] l', by omega, by omega, g3, ?_⟩
        simp
    · rintro e ⟨l', g1, g2, g3, rfl⟩
      simp
      rw [List.drop_length] at g3
      exact g3
    · exact ⟨_, by omega, by omega, rfl, by simp⟩

def S_szSol (pg : Pg) : Prop := ∀ (a b : Rw (Rw Int)) (l : Int), small a → small b → -1 ≤ l → l ≤ 1048576 → ∃ r, -1 ≤ r ∧ r ≤ 1048576 ∧ Call pg 14 [.agg [rawT a, rawT b], I l] [.agg [rawT a, rawT b], I l] (I r)
theorem t_szSol {pg : Pg} (hp : pg.fn 14 = some c_laws_szSolution) (h27 : S_szT pg) : S_szSol pg := by
  intro a b l ha hb h1 h2
  have h3 := szT_le (a := a) h1
  have h4 := szT_le (a := b) h3.1
  by_cases hn : szT a l < 0
  · refine ⟨-1, by omega, by omega, Call.intro hp rfl (by simp) ?_⟩
    show wp _ _ c_laws_szSolution.body (post [.t 4] _ _ _) _
    simp [c_laws_szSolution]
    refine callR (h27 _ _ ha h1 h2) rfl rfl (fun _ => rfl) ?_
    simp [hn]
  · refine ⟨szT b (szT a l), by omega, by omega, Call.intro hp rfl (by simp) ?_⟩
    show wp _ _ c_laws_szSolution.body (post [.t 4] _ _ _) _
    simp [c_laws_szSolution]
    refine callR (h27 _ _ ha h1 h2) rfl rfl (fun _ => rfl) ?_
    simp [hn]
    refine callR (h27 _ _ hb (by omega) (by omega)) rfl rfl (fun _ => rfl) ?_
    by_cases hn2 : szT b (szT a l) < 0
    · simp [hn2]; omega
    · simp [hn2]

/-! ### Equality -/

def S_eqI (pg : Pg) : Prop := ∀ a b : Rw Int, (lst a).length ≤ 1048576 → Call pg 9 [rawI a, rawI b] [rawI a, rawI b] (B (decide (lst a = lst b)))
theorem t_eqI {pg : Pg} (hp : pg.fn 9 = some c_laws_eqInt64S) : S_eqI pg := by
  intro a b ha
  refine Call.intro hp rfl (by simp) ?_
  show wp _ _ c_laws_eqInt64S.body (post [.t 4] _ _ _) _
  by_cases hl : (lst a).length = (lst b).length
  · simp [c_laws_eqInt64S, hl]
    refine wpLoop_count (fun k e => (∀ i, i < k → (lst a)[i]? = (lst b)[i]?) ∧ e = fr [(0, some (.val (rawI a))), (1, some (.val (rawI b))), (5, some (.val (I k)))]) (lst a).length ?_ ?_ 0 _ (by omega) ?_
    · rintro k e hk ⟨h1, rfl⟩
      have hk2 : k < (lst b).length := by omega
      by_cases hne : (lst a)[k] = (lst b)[k]
      · simp [hk, hk2, hne]
        refine ⟨by omega, fun i hi => ?_⟩
        rcases Nat.lt_or_ge i k with h2 | h2
        · exact h1 i h2
        · have : i = k := by omega
          subst this
          rw [List.getElem?_eq_getElem hk, List.getElem?_eq_getElem hk2, hne]
      · simp [hk, hk2, hne]
        intro h2
        exact hne (by simp [h2])
    · rintro e ⟨h1, rfl⟩
      simp [hl]
      apply List.ext_getElem?
      intro i
      rcases Nat.lt_or_ge i (lst a).length with h2 | h2
      · exact h1 i h2
      · rw [List.getElem?_eq_none h2, List.getElem?_eq_none (by omega)]
    · exact ⟨fun i hi => by omega, by simp⟩
  · have : lst a ≠ lst b := fun h => hl (by rw [h])
    have h2 : ((lst a).length : Int) ≠ (lst b).length := by omega
    simp [c_laws_eqInt64S, h2, this]

def S_eqT (pg : Pg) : Prop := ∀ a b : Rw (Rw Int), small a → Call pg 21 [rawT a, rawT b] [rawT a, rawT b] (B (decide ((lst a).map lst = (lst b).map lst)))
theorem t_eqT {pg : Pg} (hp : pg.fn 21 = some c_laws_eqInt64SS) (h9 : S_eqI pg) : S_eqT pg := by
  intro a b ⟨ha, hr⟩
  refine Call.intro hp rfl (by simp) ?_
  show wp _ _ c_laws_eqInt64SS.body (post [.t 4] _ _ _) _
  by_cases hl : (lst a).length = (lst b).length
  · simp [c_laws_eqInt64SS, hl]
    refine wpLoop_count (fun k e => (∀ i, i < k → ((lst a).map lst)[i]? = ((lst b).map lst)[i]?) ∧ e = fr [(0, some (.val (rawT a))), (1, some (.val (rawT b))), (5, some (.val (I k)))]) (lst a).length ?_ ?_ 0 _ (by omega) ?_
    · rintro k e hk ⟨h1, rfl⟩
      have hk2 : k < (lst b).length := by omega
      simp [hk, hk2]
      refine callR (h9 _ _ (hr _ (List.getElem_mem hk))) rfl rfl (fun _ => rfl) ?_
      by_cases hne : lst (lst a)[k] = lst (lst b)[k]
      · simp [hne]
        refine ⟨by omega, fun i hi => ?_⟩
        rcases Nat.lt_or_ge i k with h2 | h2
        · have := h1 i h2
          simpa using this
        · have : i = k := by omega
          subst this
          simp [hk, hk2, hne]
      · simp [hne]
        intro h2
        have h3 := congrArg (fun l => l[k]?) h2
        simp [hk, hk2] at h3
        exact hne h3
    · rintro e ⟨h1, rfl⟩
      simp [hl]
      apply List.ext_getElem?
      intro i
      rcases Nat.lt_or_ge i (lst a).length with h2 | h2
      · exact h1 i h2
      · rw [List.getElem?_eq_none (by simpa using h2), List.getElem?_eq_none (by simp; omega)]
    · exact ⟨fun i hi => by omega, by simp⟩
  · have : (lst a).map lst ≠ (lst b).map lst := fun h => hl (by have := congrArg List.length h; simpa using this)
    have h2 : ((lst a).length : Int) ≠ (lst b).length := by omega
    simp [c_laws_eqInt64SS, h2, this]

def S_eqRack (pg : Pg) : Prop := ∀ a b : Rw (Rw Int), small a → Call pg 10 [.agg [rawT a], .agg [rawT b]] [.agg [rawT a], .agg [rawT b]] (B (decide ((lst a).map lst = (lst b).map lst)))
def S_eqSol (pg : Pg) : Prop := ∀ a b c d : Rw (Rw Int), small a → small b → Call pg 18 [.agg [rawT a, rawT b], .agg [rawT c, rawT d]] [.agg [rawT a, rawT b], .agg [rawT c, rawT d]] (B (decide ((lst a).map lst = (lst c).map lst ∧ (lst b).map lst = (lst d).map lst)))
theorem t_eqSol {pg : Pg} (hp : pg.fn 18 = some c_laws_eqSolution) (h21 : S_eqT pg) : S_eqSol pg := by
  intro a b c d ha hb
  refine Call.intro hp rfl (by simp) ?_
  show wp _ _ c_laws_eqSolution.body (post [.t 4] _ _ _) _
  simp [c_laws_eqSolution]
  refine callR (h21 _ _ ha) rfl rfl (fun _ => rfl) ?_
  by_cases h : (lst a).map lst = (lst c).map lst
  · simp [h]
    refine callR (h21 _ _ hb) rfl rfl (fun _ => rfl) ?_
    by_cases h2 : (lst b).map lst = (lst d).map lst <;> simp [h2]
  · simp [h]

end Go.Mch
/- The first functions of the program and of the reference: ranges, places in lists, tables, permutations. -/
namespace Go.Mch

def S_in (pg : Pg) (f : Nat) : Prop := ∀ n lo hi : Int, Call pg f [I n, I lo, I hi] [I n, I lo, I hi] (B (decide (lo ≤ n ∧ n ≤ hi)))
theorem t_l01In {pg : Pg} (hp : pg.fn 30 = some c_spec_l01In) : S_in pg 30 := by
  intro n lo hi
  refine Call.intro hp rfl (by simp) ?_
  show wp _ _ c_spec_l01In.body (post [.t 6] _ _ _) _
  by_cases h1 : lo ≤ n
  · by_cases h2 : n ≤ hi <;> simp [c_spec_l01In, h1, h2]
  · simp [c_spec_l01In, h1, undefV]
theorem t_within {pg : Pg} (hp : pg.fn 35 = some c_impl_within) : S_in pg 35 := by
  intro n lo hi
  refine Call.intro hp rfl (by simp) ?_
  show wp _ _ c_impl_within.body (post [.t 6] _ _ _) _
  by_cases h1 : lo ≤ n
  · by_cases h2 : n ≤ hi <;> simp [c_impl_within, h1, h2]
  · simp [c_impl_within, h1, undefV]

def S_own (pg : Pg) : Prop := ∀ xs : List Int, xs.length ≤ 1048576 → Call pg 31 [ix xs] [ix xs] (.mem .own (some 1) (xs.map I))
theorem t_own {pg : Pg} (hp : pg.fn 31 = some c_spec_l01Own) : S_own pg := by
  intro xs hl
  refine Call.intro hp rfl (by simp) ?_
  show wp _ _ c_spec_l01Own.body (post [.t 2] _ _ _) _
  simp [c_spec_l01Own, roomy]
  omega

/-- The first place of a number in a list, or -1. -/
def ixOf : List Int → Int → Int
  | [], _ => -1
  | x :: xs, n => if x = n then 0 else if ixOf xs n < 0 then -1 else ixOf xs n + 1
/-! ### Tables -/

/-- A square table of its own places. -/
def Tab (t : List (List Int)) : Prop := ∀ r ∈ t, r.length = t.length ∧ ∀ v ∈ r, 0 ≤ v ∧ v < t.length

def isTable (t : List (List Int)) : Prop := 1 ≤ t.length ∧ t.length ≤ 12 ∧ Tab t

instance (t : List (List Int)) : Decidable (Tab t) := by unfold Tab; infer_instance
instance (t : List (List Int)) : Decidable (isTable t) := by unfold isTable; infer_instance

def S_table (pg : Pg) (f : Nat) : Prop := ∀ t : List (List Int), t.length ≤ 1048576 → (∀ r ∈ t, r.length ≤ 1048576) → Call pg f [tb t] [tb t] (B (decide (isTable t)))

@[simp] theorem tbL_getElem {t : List (List Int)} {k : Nat} (h : k < (tbL t).length) : (tbL t)[k] = ix (t[k]'(by simpa using h)) := by simp [tbL]

theorem t_l01Table {pg : Pg} (hp : pg.fn 46 = some c_spec_l01Table) (h30 : S_in pg 30) : S_table pg 46 := by
  intro t hl hr
  refine Call.intro hp rfl (by simp) ?_
  show wp _ _ c_spec_l01Table.body (post [.t 2] _ _ _) _
  simp [c_spec_l01Table]
  refine callR (h30 _ 1 12) rfl rfl (fun _ => rfl) ?_
  by_cases hn : 1 ≤ t.length ∧ t.length ≤ 12
  · have hn' : (1 : Int) ≤ t.length ∧ (t.length : Int) ≤ 12 := by omega
    simp [hn']
    refine wpLoop_count (fun k e => (∀ i (h : i < t.length), i < k → t[i].length = t.length ∧ ∀ v ∈ t[i], 0 ≤ v ∧ v < t.length) ∧ e = fr [(0, some (.val (tb t))), (3, some (.val (I t.length))), (4, some (.val (I k)))]) t.length ?_ ?_ 0 _ (by omega) ?_
    · rintro k e hk ⟨h1, rfl⟩
      by_cases hlen : t[k].length = t.length
      · simp [hk, hlen]
        refine wpLoop_count (fun j e => (∀ i (h : i < t[k].length), i < j → 0 ≤ t[k][i] ∧ t[k][i] < t.length) ∧ e = fr [(0, some (.val (tb t))), (3, some (.val (I t.length))), (4, some (.val (I k))), (5, some (.val (I j)))]) t.length ?_ ?_ 0 _ (by omega) ?_
        · rintro j e hj ⟨h2, rfl⟩
          have hj2 : j < t[k].length := by omega
          simp [hk, hj, hj2]
          refine ⟨by omega, ?_⟩
          refine callR (h30 _ 0 _) rfl rfl (fun _ => rfl) ?_
          by_cases hv : 0 ≤ t[k][j] ∧ t[k][j] ≤ (t.length : Int) - 1
          · simp [hv]
            refine ⟨by omega, fun i hi hij => ?_⟩
            rcases Nat.lt_or_ge i j with h3 | h3
            · exact h2 i hi h3
            · have : i = j := by omega
              subst this; omega
          · have hvd : ¬ isTable t := fun ht => hv (by
              have := (ht.2.2 t[k] (List.getElem_mem hk)).2 t[k][j] (List.getElem_mem hj2)
              omega)
            simp [hv, hvd]
        · rintro e ⟨h2, rfl⟩
          simp
          refine ⟨by omega, fun i hi hik => ?_⟩
          rcases Nat.lt_or_ge i k with h3 | h3
          · exact h1 i hi h3
          · have : i = k := by omega
            subst this
            refine ⟨hlen, fun v hv => ?_⟩
            obtain ⟨j, hj, rfl⟩ := List.getElem_of_mem hv
            exact h2 j hj (by omega)
        · simp
      · have hvd : ¬ isTable t := fun ht => hlen (ht.2.2 t[k] (List.getElem_mem hk)).1
        have hne : ((t[k].length : Nat) : Int) ≠ t.length := by omega
        simp [hk, hne, hvd]
    · rintro e ⟨h1, rfl⟩
      have : isTable t := ⟨hn.1, hn.2, fun r hr => by
        obtain ⟨i, hi, rfl⟩ := List.getElem_of_mem hr
        exact h1 i hi hi⟩
      simp [this]
    · simp
  · have hvd : ¬ isTable t := fun ht => hn ⟨ht.1, ht.2.1⟩
    have hn' : ¬ ((1 : Int) ≤ t.length ∧ (t.length : Int) ≤ 12) := by omega
    simp [hn', hvd]

end Go.Mch
/- Permutations; rows that pass a test; tables and pair maps as the program and the reference see them. -/
namespace Go.Mch

def isPerm (p : List Int) : Prop := 1 ≤ p.length ∧ p.length ≤ 12 ∧ ∀ x : Nat, x < p.length → (x : Int) ∈ p
instance (p : List Int) : Decidable (isPerm p) := by unfold isPerm; infer_instance

/-- All in range. -/
def inR (lo hi : Int) (xs : List Int) : Prop := ∀ x ∈ xs, lo ≤ x ∧ x ≤ hi
instance (lo hi : Int) (xs : List Int) : Decidable (inR lo hi xs) := by unfold inR; infer_instance

def S_allWithin (pg : Pg) : Prop := ∀ (xs : List Int) (lo hi : Int), xs.length ≤ 1048576 → Call pg 54 [ix xs, I lo, I hi] [ix xs, I lo, I hi] (B (decide (inR lo hi xs)))
theorem t_allWithin {pg : Pg} (hp : pg.fn 54 = some c_impl_allWithin) (h35 : S_in pg 35) : S_allWithin pg := by
  intro xs lo hi hl
  refine Call.intro hp rfl (by simp) ?_
  show wp _ _ c_impl_allWithin.body (post [.t 6] _ _ _) _
  simp [c_impl_allWithin]
  refine wpLoop_count (fun k e => (∀ i (h : i < xs.length), i < k → lo ≤ xs[i] ∧ xs[i] ≤ hi) ∧ e = fr [(1, some (.val (I lo))), (2, some (.val (I hi))), (9, some (.val (ix xs))), (10, some (.val (I xs.length))), (11, some (.val (I k)))]) xs.length ?_ ?_ 0 _ (by omega) ?_
  · rintro k e hk ⟨h1, rfl⟩
    simp [hk]
    refine callR (h35 _ _ _) rfl rfl (fun _ => rfl) ?_
    by_cases hm : lo ≤ xs[k] ∧ xs[k] ≤ hi
    · simp [hm]
      refine ⟨by omega, fun i hi hik => ?_⟩
      rcases Nat.lt_or_ge i k with h2 | h2
      · exact h1 i hi h2
      · have : i = k := by omega
        subst this; exact hm
    · have hvd : ¬ inR lo hi xs := fun h => hm (h _ (List.getElem_mem hk))
      simp [hm, hvd]
  · rintro e ⟨h1, rfl⟩
    have : inR lo hi xs := fun x hx => by
      obtain ⟨i, hi, rfl⟩ := List.getElem_of_mem hx
      exact h1 i hi hi
    simp [this]
  · simp

/-- Each of its places once. -/
def isPermuted (p : List Int) : Prop := (∀ x ∈ p, 0 ≤ x ∧ x < p.length) ∧ p.Nodup
instance (p : List Int) : Decidable (isPermuted p) := by unfold isPermuted; infer_instance

/-- What has been seen. -/
def seenL (p : List Int) (k : Nat) : List T := (List.range p.length).map fun i : Nat => B (decide ((i : Int) ∈ p.take k))
@[simp] theorem seenL_length (p : List Int) (k : Nat) : (seenL p k).length = p.length := by simp [seenL]
/-! ### A test for each row -/

def S_indexFunc (pg : Pg) : Prop := ∀ (t : List (List Int)) (P : List Int → Bool) (f : Nat) (caps : List T), t.length ≤ 1048576 → T.eryL .old caps = caps → T.noOwnL caps = true → (∀ r ∈ t, Call pg f (ix r :: caps) (ix r :: caps) (B (P r))) →
  ∃ r : Int, (0 ≤ r ↔ t.any P = true) ∧ Call pg 70 [tb t, .fn f caps] [tb t, .fn f caps] (I r)
theorem t_indexFunc {pg : Pg} (hp : pg.fn 70 = some c_slices_IndexFunc_____int64___int64_) : S_indexFunc pg := by
  intro t P f caps hl hc hno hf
  by_cases hex : ∃ (k : Nat) (hk : k < t.length), (∀ i (h : i < k), P t[i] = false) ∧ P t[k] = true
  · obtain ⟨m, hm, hm1, hm2⟩ := hex
    refine ⟨m, ⟨fun _ => List.any_eq_true.2 ⟨_, List.getElem_mem hm, hm2⟩, fun _ => by omega⟩, Call.intro hp rfl (by simp [hno]) ?_⟩
    show wp _ _ c_slices_IndexFunc_____int64___int64_.body (post [.t 4] _ _ _) _
    simp [c_slices_IndexFunc_____int64___int64_]
    refine wpLoop_count (fun k e => k ≤ m ∧ e = fr [(0, some (.val (tb t))), (1, some (.val (.fn f caps))), (7, some (.val (I t.length))), (8, some (.val (I k)))]) t.length ?_ ?_ 0 _ (by omega) ?_
    · rintro k e hk ⟨h1, rfl⟩
      simp [hk]
      refine callR (by simpa [hc] using hf t[k] (List.getElem_mem hk)) rfl rfl (fun _ => rfl) ?_
      rcases Nat.lt_or_ge k m with h2 | h2
      · simp [hm1 k h2]
        omega
      · have : k = m := by omega
        subst this
        simp [hm2, hno]
    · rintro e ⟨h1, rfl⟩
      omega
    · simp
  · have hall : ∀ i (h : i < t.length), P t[i] = false := by
      intro i
      induction i using Nat.strongRecOn with
      | _ i ih =>
        intro hi
        cases hv : P t[i] with
        | false => rfl
        | true => exact (hex ⟨i, hi, fun j hj => ih j hj (by omega), hv⟩).elim
    refine ⟨-1, ⟨fun h => by omega, fun h => by
      obtain ⟨r, hr, h2⟩ := List.any_eq_true.1 h
      obtain ⟨i, hi, rfl⟩ := List.getElem_of_mem hr
      rw [hall i hi] at h2; cases h2⟩, Call.intro hp rfl (by simp [hno]) ?_⟩
    show wp _ _ c_slices_IndexFunc_____int64___int64_.body (post [.t 4] _ _ _) _
    simp [c_slices_IndexFunc_____int64___int64_]
    refine wpLoop_count (fun k e => e = fr [(0, some (.val (tb t))), (1, some (.val (.fn f caps))), (7, some (.val (I t.length))), (8, some (.val (I k)))]) t.length ?_ ?_ 0 _ (by omega) ?_
    · rintro k e hk rfl
      simp [hk]
      refine callR (by simpa [hc] using hf t[k] (List.getElem_mem hk)) rfl rfl (fun _ => rfl) ?_
      simp [hall k hk]
      omega
    · rintro e rfl
      simp [hno]
    · simp

def S_containsFunc (pg : Pg) : Prop := ∀ (t : List (List Int)) (P : List Int → Bool) (f : Nat) (caps : List T), t.length ≤ 1048576 → T.eryL .old caps = caps → T.noOwnL caps = true → (∀ r ∈ t, Call pg f (ix r :: caps) (ix r :: caps) (B (P r))) →
  Call pg 63 [tb t, .fn f caps] [tb t, .fn f caps] (B (t.any P))
theorem t_containsFunc {pg : Pg} (hp : pg.fn 63 = some c_slices_ContainsFunc_____int64___int64_) (h70 : S_indexFunc pg) : S_containsFunc pg := by
  intro t P f caps hl hc hno hf
  obtain ⟨r, h1, h2⟩ := h70 t P f caps hl hc hno hf
  refine Call.intro hp rfl (by simp [hno]) ?_
  show wp _ _ c_slices_ContainsFunc_____int64___int64_.body (post [.t 4] _ _ _) _
  simp [c_slices_ContainsFunc_____int64___int64_, hno, hc]
  refine callR h2 rfl rfl (fun _ => rfl) ?_
  cases h : t.any P with
  | true => simp [h1.2 h, hno]
  | false =>
    have : ¬ 0 ≤ r := fun hh => by rw [h1.1 hh] at h; cases h
    simp [this, hno]

end Go.Mch
/- Tables and pair maps as the program and the reference see them. -/
namespace Go.Mch

def S_isTable1 (pg : Pg) : Prop := ∀ (r : List Int) (n : Int), r.length ≤ 1048576 → 0 ≤ n → n ≤ 1048576 → Call pg 64 [ix r, .mem .old none [I n]] [ix r, .mem .old none [I n]] (B (decide ((r.length : Int) ≠ n ∨ ¬ inR 0 (n - 1) r)))
theorem t_isTable1 {pg : Pg} (hp : pg.fn 64 = some c_impl_IsTable_1) (h54 : S_allWithin pg) : S_isTable1 pg := by
  intro r n hl h1 h2
  refine Call.intro hp rfl (by simp) ?_
  show wp _ _ c_impl_IsTable_1.body (post [.t 3] _ _ _) _
  by_cases hn : (r.length : Int) = n
  · simp [c_impl_IsTable_1, hn]
    refine ⟨by omega, ?_⟩
    refine callR (h54 _ _ _ hl) rfl rfl (fun _ => rfl) ?_
    by_cases hr : inR 0 (n - 1) r <;> simp [hr]
  · simp [c_impl_IsTable_1, hn, undefV]

theorem t_isTable {pg : Pg} (hp : pg.fn 50 = some c_impl_IsTable) (h35 : S_in pg 35) (h64 : S_isTable1 pg) (h63 : S_containsFunc pg) : S_table pg 50 := by
  intro t hl hr
  refine Call.intro hp rfl (by simp) ?_
  show wp _ _ c_impl_IsTable.body (post [.t 2] _ _ _) _
  simp [c_impl_IsTable]
  refine callR (h35 _ 1 12) rfl rfl (fun _ => rfl) ?_
  by_cases hn : 1 ≤ t.length ∧ t.length ≤ 12
  · have hn' : (1 : Int) ≤ t.length ∧ (t.length : Int) ≤ 12 := by omega
    simp [hn']
    refine callR (h63 t (fun r => decide ((r.length : Int) ≠ t.length ∨ ¬ inR 0 ((t.length : Int) - 1) r)) 64 [.mem .old none [I t.length]] hl rfl rfl (fun r hm => h64 r _ (hr r hm) (by omega) (by omega))) rfl rfl (fun _ => rfl) ?_
    simp
    by_cases ht : isTable t
    · simp [ht]
      intro r hm
      have := ht.2.2 r hm
      exact ⟨by omega, fun v hv => by have := this.2 v hv; omega⟩
    · simp [ht]
      rcases Classical.em (∃ x, x ∈ t ∧ (¬ ((x.length : Nat) : Int) = t.length ∨ ¬ inR 0 ((t.length : Int) - 1) x)) with h | h
      · exact h
      · exfalso
        refine ht ⟨hn.1, hn.2, fun r hm => ?_⟩
        have h1 : ((r.length : Nat) : Int) = t.length ∧ inR 0 ((t.length : Int) - 1) r := by
          refine Classical.byContradiction fun h2 => h ⟨r, hm, ?_⟩
          rcases Classical.em (((r.length : Nat) : Int) = t.length) with h3 | h3
          · exact .inr fun h4 => h2 ⟨h3, h4⟩
          · exact .inl h3
        exact ⟨by omega, fun v hv => by have := h1.2 v hv; omega⟩
  · have hvd : ¬ isTable t := fun ht => hn ⟨ht.1, ht.2.1⟩
    have hn' : ¬ ((1 : Int) ≤ t.length ∧ (t.length : Int) ≤ 12) := by omega
    simp [hn', hvd, undefV]

def permRows (t : List (List Int)) : Prop := ∀ r ∈ t, isPermuted r
instance (t : List (List Int)) : Decidable (permRows t) := by unfold permRows; infer_instance

def S_same (pg : Pg) : Prop := ∀ a b : List Int, a.length ≤ 1048576 → Call pg 67 [ix a, ix b] [ix a, ix b] (B (decide (a = b)))
theorem t_same {pg : Pg} (hp : pg.fn 67 = some c_spec_l01Same) : S_same pg := by
  intro a b ha
  refine Call.intro hp rfl (by simp) ?_
  show wp _ _ c_spec_l01Same.body (post [.t 4] _ _ _) _
  by_cases hl : a.length = b.length
  · simp [c_spec_l01Same, hl]
    refine wpLoop_count (fun k e => (∀ i, i < k → a[i]? = b[i]?) ∧ e = fr [(0, some (.val (ix a))), (1, some (.val (ix b))), (5, some (.val (I k)))]) a.length ?_ ?_ 0 _ (by omega) ?_
    · rintro k e hk ⟨h1, rfl⟩
      have hk2 : k < b.length := by omega
      by_cases hne : a[k] = b[k]
      · simp [hk, hk2, hne]
        refine ⟨by omega, fun i hi => ?_⟩
        rcases Nat.lt_or_ge i k with h2 | h2
        · exact h1 i h2
        · have : i = k := by omega
          subst this
          rw [List.getElem?_eq_getElem hk, List.getElem?_eq_getElem hk2, hne]
      · simp [hk, hk2, hne]
        intro h2
        exact hne (by simp [h2])
    · rintro e ⟨h1, rfl⟩
      simp [hl]
      apply List.ext_getElem?
      intro i
      rcases Nat.lt_or_ge i a.length with h2 | h2
      · exact h1 i h2
      · rw [List.getElem?_eq_none h2, List.getElem?_eq_none (by omega)]
    · exact ⟨fun i hi => by omega, by simp⟩
  · have : a ≠ b := fun h => hl (by rw [h])
    have h2 : (a.length : Int) ≠ b.length := by omega
    simp [c_spec_l01Same, h2, this]

/-! ### Pair maps -/

abbrev sol (f s : List (List Int)) : T := .agg [tb f, tb s]
def isPairMap (f s : List (List Int)) : Prop := isTable f ∧ isTable s ∧ f.length = s.length
instance (f s : List (List Int)) : Decidable (isPairMap f s) := by unfold isPairMap; infer_instance

def fits (t : List (List Int)) : Prop := t.length ≤ 1048576 ∧ ∀ r ∈ t, r.length ≤ 1048576

def S_pairMap (pg : Pg) (n : Nat) : Prop := ∀ f s : List (List Int), fits f → fits s → Call pg n [sol f s] [sol f s] (B (decide (isPairMap f s)))
theorem t_l02Map {pg : Pg} (hp : pg.fn 56 = some c_spec_l02Map) (h46 : S_table pg 46) : S_pairMap pg 56 := by
  intro f s hf hs
  refine Call.intro hp rfl (by simp) ?_
  show wp _ _ c_spec_l02Map.body (post [.t 2] _ _ _) _
  simp [c_spec_l02Map]
  refine callR (h46 _ hf.1 hf.2) rfl rfl (fun _ => rfl) ?_
  by_cases h1 : isTable f
  · simp [h1]
    refine callR (h46 _ hs.1 hs.2) rfl rfl (fun _ => rfl) ?_
    by_cases h2 : isTable s
    · simp [h2, isPairMap, h1]
      omega
    · simp [h2, isPairMap, undefV]
  · simp [h1, isPairMap, undefV]
theorem t_isPairMap {pg : Pg} (hp : pg.fn 59 = some c_impl_IsPairMap) (h50 : S_table pg 50) : S_pairMap pg 59 := by
  intro f s hf hs
  refine Call.intro hp rfl (by simp) ?_
  show wp _ _ c_impl_IsPairMap.body (post [.t 2] _ _ _) _
  simp [c_impl_IsPairMap]
  refine callR (h50 _ hf.1 hf.2) rfl rfl (fun _ => rfl) ?_
  by_cases h1 : isTable f
  · simp [h1]
    refine callR (h50 _ hs.1 hs.2) rfl rfl (fun _ => rfl) ?_
    by_cases h2 : isTable s
    · simp [h2, isPairMap, h1]
      omega
    · simp [h2, isPairMap, undefV]
  · simp [h1, isPairMap, undefV]

/-! ### Values of tables -/

/-- The value of a table at places. -/
def v2 (t : List (List Int)) (x y : Nat) : Int := (t.getD x []).getD y 0
theorem get_v2 {t : List (List Int)} {x y : Nat} (hx : x < t.length) (hy : y < (t[x]).length) : (t[x])[y] = v2 t x y := by
  simp [v2, List.getD_eq_getElem?_getD, hx, hy]
theorem Tab.row {t : List (List Int)} (h : Tab t) {x : Nat} (hx : x < t.length) : (t[x]).length = t.length := (h _ (List.getElem_mem hx)).1
theorem Tab.nonneg {t : List (List Int)} (h : Tab t) (x y : Nat) : 0 ≤ v2 t x y := by
  unfold v2
  rw [List.getD_eq_getElem?_getD, List.getD_eq_getElem?_getD]
  cases h1 : t[x]? with
  | none => simp
  | some r =>
    simp only [Option.getD_some]
    cases h2 : r[y]? with
    | none => simp
    | some v => exact ((h r (List.mem_of_getElem? h1)).2 v (List.mem_of_getElem? h2)).1
theorem Tab.lt {t : List (List Int)} (h : Tab t) (h0 : 0 < t.length) (x y : Nat) : v2 t x y < t.length := by
  unfold v2
  rw [List.getD_eq_getElem?_getD, List.getD_eq_getElem?_getD]
  cases h1 : t[x]? with
  | none => simp; omega
  | some r =>
    simp only [Option.getD_some]
    cases h2 : r[y]? with
    | none => simp; omega
    | some v => exact ((h r (List.mem_of_getElem? h1)).2 v (List.mem_of_getElem? h2)).2
theorem Tab.ltN {t : List (List Int)} (h : Tab t) (h0 : 0 < t.length) (x y : Nat) : (v2 t x y).toNat < t.length := by
  have := h.lt h0 x y
  have := h.nonneg x y
  omega

@[simp] theorem tdiv_nat (a b : Nat) : (a : Int).tdiv (b : Int) = ((a / b : Nat) : Int) := rfl
@[simp] theorem tmod_nat (a b : Nat) : (a : Int).tmod (b : Int) = ((a % b : Nat) : Int) := rfl

theorem least {P : Nat → Prop} {m : Nat} (h : ∃ k, k < m ∧ P k) : ∃ k, k < m ∧ P k ∧ ∀ i, i < k → ¬ P i := by
  obtain ⟨k, h1, h2⟩ := h
  induction k using Nat.strongRecOn with
  | _ k ih =>
    by_cases hh : ∃ i, i < k ∧ P i
    · obtain ⟨i, h3, h4⟩ := hh
      exact ih i h3 (by omega) h4
    · exact ⟨k, h1, h2, fun i hi hp => hh ⟨i, hi, hp⟩⟩

end Go.Mch
/- Marks: numbers written into what was handed over, and read again. -/
namespace Go.Mch

/-- A slice of the frame's own, or nil. -/
def ownI : Option (List Int) → T
  | none => nil
  | some xs => .mem .own (some 1) (xs.map I)

def up (k : Int) (n : Nat) : List Int := (List.range n).map fun i : Nat => k + i
@[simp] theorem up_length (k : Int) (n : Nat) : (up k n).length = n := by simp [up]

def held : List Int → Int → Int
  | [], k => k
  | x :: xs, k => if x = k then held xs (k + 1) else -1

theorem held_up : ∀ (n : Nat) (k : Int), held (up k n) k = k + n
  | 0, k => by simp [up, held]
  | n + 1, k => by
    have h : up k (n + 1) = k :: up (k + 1) n := by
      simp only [up, List.range_succ_eq_map, List.map_cons, List.map_map]
      congr 1
      · simp
      · apply List.map_congr_left
        intro i _
        simp only [Function.comp]
        omega
    rw [h, held, if_pos rfl, held_up n (k + 1)]
    omega

def S_heldI (pg : Pg) : Prop := ∀ (a : Rw Int) (k : Int), (lst a).length ≤ 1048576 → -1 ≤ k → k ≤ 4611686018427387904 → Call pg 13 [rawI a, I k] [rawI a, I k] (I (held (lst a) k))
/-- Marks behind j places. -/
def upto (k : Int) (xs : List Int) (j : Nat) : List Int := (List.range xs.length).map fun i : Nat => if i < j then k + i else xs.getD i 0
@[simp] theorem upto_length (k : Int) (xs : List Int) (j : Nat) : (upto k xs j).length = xs.length := by simp [upto]
def S_markI (pg : Pg) : Prop := ∀ (a : Option (List Int)) (k : Int), (lso a).length ≤ 1048576 → -1 ≤ k → k ≤ 4611686018427387904 → Call pg 12 [ownI a, I k] [ownI (a.map fun xs => up k xs.length), I k] (I (k + (lso a).length))
theorem S_markI.at {pg : Pg} (h : S_markI pg) (xs : List Int) (k : Int) (h1 : xs.length ≤ 1048576) (h2 : -1 ≤ k) (h3 : k ≤ 4611686018427387904) : Call pg 12 [.mem .own (some 1) (xs.map I), I k] [.mem .own (some 1) ((up k xs.length).map I), I k] (I (k + xs.length)) := h (some xs) k h1 h2 h3

/-- Rows of the frame's own, or nil. -/
def ownT : Option (List (List Int)) → T
  | none => nil
  | some xss => .mem .own (some 1) (rows xss)

/-- The mark at which row j begins. -/
def kAt (k : Int) (xss : List (List Int)) (j : Nat) : Int := k + ((xss.take j).map List.length).sum
def smallT (xss : List (List Int)) : Prop := xss.length ≤ 1048576 ∧ ∀ r ∈ xss, r.length ≤ 1048576

theorem kAt_zero (k : Int) (xss : List (List Int)) : kAt k xss 0 = k := by simp [kAt]
theorem kAt_succ (k : Int) (xss : List (List Int)) {j : Nat} (hj : j < xss.length) : kAt k xss (j + 1) = kAt k xss j + (xss[j]).length := by
  unfold kAt
  rw [List.take_succ_eq_append_getElem hj, List.map_append, List.sum_append]
  simp only [List.map_cons, List.map_nil, List.sum_cons, List.sum_nil, Int.natCast_add]
  omega
theorem kAt_le {k : Int} {xss : List (List Int)} (h : smallT xss) : ∀ j, j ≤ xss.length → k ≤ kAt k xss j ∧ kAt k xss j ≤ k + j * 1048576
  | 0, _ => by simp [kAt]
  | j + 1, hj => by
    have h1 := kAt_le (k := k) h j (by omega)
    have h2 := h.2 _ (List.getElem_mem (show j < xss.length by omega))
    rw [kAt_succ k xss (by omega)]
    simp only [Int.natCast_add]
    omega

def upT (k : Int) (xss : List (List Int)) : List (List Int) := (List.range xss.length).map fun j => up (kAt k xss j) (xss.getD j []).length
@[simp] theorem upT_length (k : Int) (xss : List (List Int)) : (upT k xss).length = xss.length := by simp [upT]
def uptoT (k : Int) (xss : List (List Int)) (j : Nat) : List (List Int) := (List.range xss.length).map fun i => if i < j then up (kAt k xss i) (xss.getD i []).length else xss.getD i []
@[simp] theorem uptoT_length (k : Int) (xss : List (List Int)) (j : Nat) : (uptoT k xss j).length = xss.length := by simp [uptoT]
def heldL : List (List Int) → Int → Int
  | [], k => k
  | r :: rs, k => if held r k < 0 then -1 else heldL rs (held r k)

theorem heldL_up : ∀ (n : Nat) (xss : List (List Int)) (k : Int) (j : Nat), 0 ≤ k → j + n = xss.length → heldL ((upT k xss).drop j) (kAt k xss j) = kAt k xss xss.length
  | 0, xss, k, j, _, h => by
    have : j = xss.length := by omega
    subst this
    have : (upT k xss).drop xss.length = [] := by rw [List.drop_eq_nil_iff]; simp
    rw [this]; rfl
  | n + 1, xss, k, j, hk, h => by
    have hj : j < xss.length := by omega
    have hd : (upT k xss).drop j = (upT k xss)[j]'(by simpa using hj) :: (upT k xss).drop (j + 1) := List.drop_eq_getElem_cons (by simpa using hj)
    have hg : (upT k xss)[j]'(by simpa using hj) = up (kAt k xss j) (xss[j]).length := by
      simp [upT, List.getD_eq_getElem?_getD, List.getElem?_eq_getElem hj]
    have hp : 0 ≤ kAt k xss j := by unfold kAt; omega
    rw [hd, hg, heldL, held_up, if_neg (by omega), ← kAt_succ k xss hj]
    exact heldL_up n xss k (j + 1) hk (by omega)
theorem heldL_all (xss : List (List Int)) (k : Int) (hk : 0 ≤ k) : heldL (upT k xss) k = kAt k xss xss.length := by
  have := heldL_up xss.length xss k 0 hk (by omega)
  rwa [kAt_zero, List.drop_zero] at this

def S_heldT (pg : Pg) : Prop := ∀ (a : Rw (Rw Int)) (k : Int), small a → -1 ≤ k → k ≤ 2305843009213693952 → Call pg 24 [rawT a, I k] [rawT a, I k] (I (heldL ((lst a).map lst) k))
def S_markT (pg : Pg) : Prop := ∀ (a : Option (List (List Int))) (k : Int), smallT (lso a) → 0 ≤ k → k ≤ 2305843009213693952 → Call pg 23 [ownT a, I k] [ownT (a.map (upT k)), I k] (I (kAt k (lso a) (lso a).length))
theorem S_markT.at {pg : Pg} (h : S_markT pg) (xss : List (List Int)) (k : Int) (h1 : smallT xss) (h2 : 0 ≤ k) (h3 : k ≤ 2305843009213693952) : Call pg 23 [.mem .own (some 1) (rows xss), I k] [.mem .own (some 1) (rows (upT k xss)), I k] (I (kAt k xss xss.length)) := h (some xss) k h1 h2 h3
end Go.Mch
/- Pair maps that are bijections and satisfy the equation. -/
namespace Go.Mch

/-- Two pairs, by number, that are led to the same one. -/
def coll (f s : List (List Int)) (a b : Nat) : Prop :=
  a ≠ b ∧ v2 f (a / f.length) (a % f.length) = v2 f (b / f.length) (b % f.length) ∧ v2 s (a / f.length) (a % f.length) = v2 s (b / f.length) (b % f.length)
def Inj (f s : List (List Int)) : Prop := ∀ a, a < f.length * f.length → ∀ b, b < f.length * f.length → ¬ coll f s a b
instance (f s : List (List Int)) (a b : Nat) : Decidable (coll f s a b) := by unfold coll; infer_instance
instance (f s : List (List Int)) : Decidable (Inj f s) := by unfold Inj; infer_instance

/-- What a pair map of tables has. -/
structure PM (f s : List (List Int)) : Prop where
  tf : Tab f
  ts : Tab s
  len : s.length = f.length
  pos : 0 < f.length
  small : f.length ≤ 12
theorem PM.of {f s : List (List Int)} (h : isPairMap f s) : PM f s := ⟨h.1.2.2, h.2.1.2.2, h.2.2.symm, h.1.1, h.1.2.1⟩

theorem dm_lt {n a : Nat} (h : a < n * n) : a / n < n ∧ a % n < n := by
  have hn : 0 < n := by
    rcases Nat.eq_zero_or_pos n with h0 | h0
    · subst h0; simp at h
    · exact h0
  exact ⟨Nat.div_lt_of_lt_mul h, Nat.mod_lt _ hn⟩

def S_coll57 (pg : Pg) : Prop := ∀ f s : List (List Int), PM f s → ∃ l : List Int, (l.length = 0 ↔ Inj f s) ∧ l.length ≤ 4 ∧ Call pg 57 [sol f s] [sol f s] (.mem .own (some 1) (l.map I))
set_option maxRecDepth 10000 in
theorem t_coll57 {pg : Pg} (hp : pg.fn 57 = some c_spec_l02Collision) : S_coll57 pg := by
  intro f s h
  have h0 := h.pos
  have h12 := h.small
  have h0' : f.length ≠ 0 := by omega
  have hsq : f.length * f.length ≤ 144 := Nat.mul_le_mul h12 h12
  have hsq' : ((f.length : Int) * f.length) ≤ 144 := by exact_mod_cast hsq
  have hsq0 : 0 ≤ ((f.length : Int) * f.length) := by exact_mod_cast Nat.zero_le _
  have fr' := fun x hx => h.tf.row (x := x) hx
  have sr' : ∀ x (hx : x < s.length), (s[x]).length = f.length := fun x hx => (h.ts.row hx).trans h.len
  have loop : ∀ (a b : Nat), a < f.length * f.length → b < f.length * f.length → coll f s a b → True := fun _ _ _ _ _ => trivial
  by_cases hex : ∃ a, a < f.length * f.length ∧ ∃ b, b < f.length * f.length ∧ coll f s a b
  · obtain ⟨a, ha, hb, hmin⟩ := least hex
    obtain ⟨b, hb, hc, hmin2⟩ := least hb
    have hni : ¬ Inj f s := fun hi => hi a ha b hb hc
    refine ⟨[((a / f.length : Nat) : Int), ((a % f.length : Nat) : Int), ((b / f.length : Nat) : Int), ((b % f.length : Nat) : Int)], by simp [hni], by simp, Call.intro hp rfl (by simp) ?_⟩
    show wp _ _ c_spec_l02Collision.body (post [.t 2] _ _ _) _
    simp [c_spec_l02Collision]
    refine wpLoop_count (fun k e => k ≤ a ∧ e = fr [(1, some (.val (.mem .own none [tb f, tb s]))), (3, some (.val (I f.length))), (4, some (.val (I k)))]) (f.length * f.length) ?_ ?_ 0 _ (by omega) ?_
    · rintro k e hk ⟨h1, rfl⟩
      have hk1 := dm_lt hk
      have hki : (k : Int) < (f.length : Int) * f.length := by exact_mod_cast hk
      have hq1 : 0 ≤ (k : Int) / f.length ∧ (k : Int) / f.length < f.length := ⟨by exact_mod_cast Nat.zero_le _, by exact_mod_cast hk1.1⟩
      have hr1 : 0 ≤ (k : Int) % f.length ∧ (k : Int) % f.length < f.length := ⟨by exact_mod_cast Nat.zero_le _, by exact_mod_cast hk1.2⟩
      have ht1 : ((k : Int) / f.length).toNat = k / f.length := by rw [← Int.natCast_ediv]; exact Int.toNat_natCast _
      have hu1 : ((k : Int) % f.length).toNat = k % f.length := by rw [← Int.natCast_emod]; exact Int.toNat_natCast _
      simp [hki]
      refine ⟨by omega, ?_⟩
      rcases Nat.lt_or_ge k a with hka | hka
      · refine wpLoop_count (fun j e => e = fr [(1, some (.val (.mem .own none [tb f, tb s]))), (3, some (.val (I f.length))), (4, some (.val (I k))), (5, some (.val (I j)))]) (f.length * f.length) ?_ ?_ 0 _ (by omega) ?_
        · rintro j e hj rfl
          have hj1 := dm_lt hj
          have hji : (j : Int) < (f.length : Int) * f.length := by exact_mod_cast hj
          have hq2 : 0 ≤ (j : Int) / f.length ∧ (j : Int) / f.length < f.length := ⟨by exact_mod_cast Nat.zero_le _, by exact_mod_cast hj1.1⟩
          have hr2 : 0 ≤ (j : Int) % f.length ∧ (j : Int) % f.length < f.length := ⟨by exact_mod_cast Nat.zero_le _, by exact_mod_cast hj1.2⟩
          have ht2 : ((j : Int) / f.length).toNat = j / f.length := by rw [← Int.natCast_ediv]; exact Int.toNat_natCast _
          have hu2 : ((j : Int) % f.length).toNat = j % f.length := by rw [← Int.natCast_emod]; exact Int.toNat_natCast _
          have hnc : ¬ coll f s k j := fun hcc => hmin k hka ⟨j, hj, hcc⟩
          by_cases hkj : k = j
          · subst hkj
            clear hj hj1 hnc
            simp [hji, h0', undefV]
            omega
          · have hkjI : (k : Int) ≠ j := by omega
            by_cases hv1 : v2 f (k / f.length) (k % f.length) = v2 f (j / f.length) (j % f.length)
            · by_cases hv2 : v2 s (k / f.length) (k % f.length) = v2 s (j / f.length) (j % f.length)
              · have hcc : coll f s k j := ⟨hkj, hv1, hv2⟩
                exact (hnc hcc).elim
              · simp [hkjI, hk1, hj1, hq1, hq2, hr1, hr2, ht1, ht2, hu1, hu2, hji, h0', fr', sr', h.len, get_v2, hv1, hv2]
                omega
            · simp [hkjI, hk1, hj1, hq1, hq2, hr1, hr2, ht1, ht2, hu1, hu2, hji, h0', fr', get_v2, undefV, hv1]
              omega
        · rintro e rfl
          simp
          omega
        · simp
      · have hka2 : k = a := by omega
        subst hka2
        refine wpLoop_count (fun j e => j ≤ b ∧ e = fr [(1, some (.val (.mem .own none [tb f, tb s]))), (3, some (.val (I f.length))), (4, some (.val (I k))), (5, some (.val (I j)))]) (f.length * f.length) ?_ ?_ 0 _ (by omega) ?_
        · rintro j e hj ⟨hjb, rfl⟩
          have hj1 := dm_lt hj
          have hji : (j : Int) < (f.length : Int) * f.length := by exact_mod_cast hj
          have hq2 : 0 ≤ (j : Int) / f.length ∧ (j : Int) / f.length < f.length := ⟨by exact_mod_cast Nat.zero_le _, by exact_mod_cast hj1.1⟩
          have hr2 : 0 ≤ (j : Int) % f.length ∧ (j : Int) % f.length < f.length := ⟨by exact_mod_cast Nat.zero_le _, by exact_mod_cast hj1.2⟩
          have ht2 : ((j : Int) / f.length).toNat = j / f.length := by rw [← Int.natCast_ediv]; exact Int.toNat_natCast _
          have hu2 : ((j : Int) % f.length).toNat = j % f.length := by rw [← Int.natCast_emod]; exact Int.toNat_natCast _
          rcases Nat.lt_or_ge j b with hlt | hge
          · have hnc : ¬ coll f s k j := hmin2 j hlt
            by_cases hkj : k = j
            · subst hkj
              clear hj hj1 hnc
              simp [hji, h0', undefV]
              omega
            · have hkjI : (k : Int) ≠ j := by omega
              by_cases hv1 : v2 f (k / f.length) (k % f.length) = v2 f (j / f.length) (j % f.length)
              · by_cases hv2 : v2 s (k / f.length) (k % f.length) = v2 s (j / f.length) (j % f.length)
                · have hcc : coll f s k j := ⟨hkj, hv1, hv2⟩
                  exact (hnc hcc).elim
                · simp [hkjI, hk1, hj1, hq1, hq2, hr1, hr2, ht1, ht2, hu1, hu2, hji, h0', fr', sr', h.len, get_v2, hv1, hv2]
                  omega
              · simp [hkjI, hk1, hj1, hq1, hq2, hr1, hr2, ht1, ht2, hu1, hu2, hji, h0', fr', get_v2, undefV, hv1]
                omega
          · have hjb2 : j = b := by omega
            subst hjb2
            obtain ⟨hkj, hv1, hv2⟩ := hc
            have hkjI : (k : Int) ≠ j := by omega
            simp [hkjI, hk1, hj1, hq1, hq2, hr1, hr2, ht1, ht2, hu1, hu2, hji, h0', fr', sr', h.len, get_v2, hv1, hv2]
            try omega
        · rintro e ⟨h1, rfl⟩
          omega
        · simp
    · rintro e ⟨h1, rfl⟩
      omega
    · simp
  · have hi : Inj f s := fun a ha b hb hc => hex ⟨a, ha, b, hb, hc⟩
    refine ⟨[], by simp [hi], by simp, Call.intro hp rfl (by simp) ?_⟩
    show wp _ _ c_spec_l02Collision.body (post [.t 2] _ _ _) _
    simp [c_spec_l02Collision]
    refine wpLoop_count (fun k e => e = fr [(1, some (.val (.mem .own none [tb f, tb s]))), (3, some (.val (I f.length))), (4, some (.val (I k)))]) (f.length * f.length) ?_ ?_ 0 _ (by omega) ?_
    · rintro k e hk rfl
      have hk1 := dm_lt hk
      have hki : (k : Int) < (f.length : Int) * f.length := by exact_mod_cast hk
      have hq1 : 0 ≤ (k : Int) / f.length ∧ (k : Int) / f.length < f.length := ⟨by exact_mod_cast Nat.zero_le _, by exact_mod_cast hk1.1⟩
      have hr1 : 0 ≤ (k : Int) % f.length ∧ (k : Int) % f.length < f.length := ⟨by exact_mod_cast Nat.zero_le _, by exact_mod_cast hk1.2⟩
      have ht1 : ((k : Int) / f.length).toNat = k / f.length := by rw [← Int.natCast_ediv]; exact Int.toNat_natCast _
      have hu1 : ((k : Int) % f.length).toNat = k % f.length := by rw [← Int.natCast_emod]; exact Int.toNat_natCast _
      simp [hki]
      refine ⟨by omega, ?_⟩
      refine wpLoop_count (fun j e => e = fr [(1, some (.val (.mem .own none [tb f, tb s]))), (3, some (.val (I f.length))), (4, some (.val (I k))), (5, some (.val (I j)))]) (f.length * f.length) ?_ ?_ 0 _ (by omega) ?_
      · rintro j e hj rfl
        have hj1 := dm_lt hj
        have hji : (j : Int) < (f.length : Int) * f.length := by exact_mod_cast hj
        have hq2 : 0 ≤ (j : Int) / f.length ∧ (j : Int) / f.length < f.length := ⟨by exact_mod_cast Nat.zero_le _, by exact_mod_cast hj1.1⟩
        have hr2 : 0 ≤ (j : Int) % f.length ∧ (j : Int) % f.length < f.length := ⟨by exact_mod_cast Nat.zero_le _, by exact_mod_cast hj1.2⟩
        have ht2 : ((j : Int) / f.length).toNat = j / f.length := by rw [← Int.natCast_ediv]; exact Int.toNat_natCast _
        have hu2 : ((j : Int) % f.length).toNat = j % f.length := by rw [← Int.natCast_emod]; exact Int.toNat_natCast _
        have hnc : ¬ coll f s k j := hi k hk j hj
        by_cases hkj : k = j
        · subst hkj
          clear hj hj1 hnc
          simp [hji, h0', undefV]
          omega
        · have hkjI : (k : Int) ≠ j := by omega
          by_cases hv1 : v2 f (k / f.length) (k % f.length) = v2 f (j / f.length) (j % f.length)
          · by_cases hv2 : v2 s (k / f.length) (k % f.length) = v2 s (j / f.length) (j % f.length)
            · have hcc : coll f s k j := ⟨hkj, hv1, hv2⟩
              exact (hnc hcc).elim
            · simp [hkjI, hk1, hj1, hq1, hq2, hr1, hr2, ht1, ht2, hu1, hu2, hji, h0', fr', sr', h.len, get_v2, hv1, hv2]
              omega
          · simp [hkjI, hk1, hj1, hq1, hq2, hr1, hr2, ht1, ht2, hu1, hu2, hji, h0', fr', get_v2, undefV, hv1]
            omega
      · rintro e rfl
        simp
        omega
      · simp
    · rintro e rfl
      simp
      try omega
    · simp

def S_coll60 (pg : Pg) : Prop := ∀ f s : List (List Int), PM f s → ∃ o : Option (List Int), (o = none ↔ Inj f s) ∧ Call pg 60 [sol f s] [sol f s] (ownI o)
set_option maxRecDepth 10000 in
theorem t_coll60 {pg : Pg} (hp : pg.fn 60 = some c_impl_collisionOf) : S_coll60 pg := by
  intro f s h
  have h0 := h.pos
  have h12 := h.small
  have h0' : f.length ≠ 0 := by omega
  have hsq : f.length * f.length ≤ 144 := Nat.mul_le_mul h12 h12
  have hsq' : ((f.length : Int) * f.length) ≤ 144 := by exact_mod_cast hsq
  have hsq0 : 0 ≤ ((f.length : Int) * f.length) := by exact_mod_cast Nat.zero_le _
  have fr' := fun x hx => h.tf.row (x := x) hx
  have sr' : ∀ x (hx : x < s.length), (s[x]).length = f.length := fun x hx => (h.ts.row hx).trans h.len
  have loop : ∀ (a b : Nat), a < f.length * f.length → b < f.length * f.length → coll f s a b → True := fun _ _ _ _ _ => trivial
  by_cases hex : ∃ a, a < f.length * f.length ∧ ∃ b, b < f.length * f.length ∧ coll f s a b
  · obtain ⟨a, ha, hb, hmin⟩ := least hex
    obtain ⟨b, hb, hc, hmin2⟩ := least hb
    have hni : ¬ Inj f s := fun hi => hi a ha b hb hc
    refine ⟨some [((a / f.length : Nat) : Int), ((a % f.length : Nat) : Int), ((b / f.length : Nat) : Int), ((b % f.length : Nat) : Int)], by simp [hni], Call.intro hp rfl (by simp) ?_⟩
    simp only [ownI]
    show wp _ _ c_impl_collisionOf.body (post [.t 2] _ _ _) _
    simp [c_impl_collisionOf]
    refine ⟨by omega, ?_⟩
    refine wpLoop_count (fun k e => k ≤ a ∧ e = fr [(1, some (.val (.mem .own none [tb f, tb s]))), (3, some (.val (I f.length))), (15, some (.val (I ((f.length : Int) * f.length)))), (16, some (.val (I k)))]) (f.length * f.length) ?_ ?_ 0 _ (by omega) ?_
    · rintro k e hk ⟨h1, rfl⟩
      have hk1 := dm_lt hk
      have hki : (k : Int) < (f.length : Int) * f.length := by exact_mod_cast hk
      have hq1 : 0 ≤ (k : Int) / f.length ∧ (k : Int) / f.length < f.length := ⟨by exact_mod_cast Nat.zero_le _, by exact_mod_cast hk1.1⟩
      have hr1 : 0 ≤ (k : Int) % f.length ∧ (k : Int) % f.length < f.length := ⟨by exact_mod_cast Nat.zero_le _, by exact_mod_cast hk1.2⟩
      have ht1 : ((k : Int) / f.length).toNat = k / f.length := by rw [← Int.natCast_ediv]; exact Int.toNat_natCast _
      have hu1 : ((k : Int) % f.length).toNat = k % f.length := by rw [← Int.natCast_emod]; exact Int.toNat_natCast _
      simp [hki, h0']
      refine ⟨by omega, by omega, ?_⟩
      rcases Nat.lt_or_ge k a with hka | hka
      · refine wpLoop_count (fun j e => e = fr [(1, some (.val (.mem .own none [tb f, tb s]))), (3, some (.val (I f.length))), (4, some (.val (I k))), (5, some (.val (I ((k / f.length : Nat) : Int)))), (6, some (.val (I ((k % f.length : Nat) : Int)))), (15, some (.val (I ((f.length : Int) * f.length)))), (16, some (.val (I k))), (27, some (.val (I ((f.length : Int) * f.length)))), (28, some (.val (I j)))]) (f.length * f.length) ?_ ?_ 0 _ (by omega) ?_
        · rintro j e hj rfl
          have hj1 := dm_lt hj
          have hji : (j : Int) < (f.length : Int) * f.length := by exact_mod_cast hj
          have hq2 : 0 ≤ (j : Int) / f.length ∧ (j : Int) / f.length < f.length := ⟨by exact_mod_cast Nat.zero_le _, by exact_mod_cast hj1.1⟩
          have hr2 : 0 ≤ (j : Int) % f.length ∧ (j : Int) % f.length < f.length := ⟨by exact_mod_cast Nat.zero_le _, by exact_mod_cast hj1.2⟩
          have ht2 : ((j : Int) / f.length).toNat = j / f.length := by rw [← Int.natCast_ediv]; exact Int.toNat_natCast _
          have hu2 : ((j : Int) % f.length).toNat = j % f.length := by rw [← Int.natCast_emod]; exact Int.toNat_natCast _
          have hnc : ¬ coll f s k j := fun hcc => hmin k hka ⟨j, hj, hcc⟩
          by_cases hkj : k = j
          · subst hkj
            clear hj hj1 hnc
            simp [hji, h0', undefV]
            omega
          · have hkjI : (k : Int) ≠ j := by omega
            by_cases hv1 : v2 f (k / f.length) (k % f.length) = v2 f (j / f.length) (j % f.length)
            · by_cases hv2 : v2 s (k / f.length) (k % f.length) = v2 s (j / f.length) (j % f.length)
              · have hcc : coll f s k j := ⟨hkj, hv1, hv2⟩
                exact (hnc hcc).elim
              · simp [hkjI, hk1, hj1, hq1, hq2, hr1, hr2, ht1, ht2, hu1, hu2, hji, h0', fr', sr', h.len, get_v2, hv1, hv2]
                omega
            · simp [hkjI, hk1, hj1, hq1, hq2, hr1, hr2, ht1, ht2, hu1, hu2, hji, h0', fr', get_v2, undefV, hv1]
              omega
        · rintro e rfl
          simp
          omega
        · simp
      · have hka2 : k = a := by omega
        subst hka2
        refine wpLoop_count (fun j e => j ≤ b ∧ e = fr [(1, some (.val (.mem .own none [tb f, tb s]))), (3, some (.val (I f.length))), (4, some (.val (I k))), (5, some (.val (I ((k / f.length : Nat) : Int)))), (6, some (.val (I ((k % f.length : Nat) : Int)))), (15, some (.val (I ((f.length : Int) * f.length)))), (16, some (.val (I k))), (27, some (.val (I ((f.length : Int) * f.length)))), (28, some (.val (I j)))]) (f.length * f.length) ?_ ?_ 0 _ (by omega) ?_
        · rintro j e hj ⟨hjb, rfl⟩
          have hj1 := dm_lt hj
          have hji : (j : Int) < (f.length : Int) * f.length := by exact_mod_cast hj
          have hq2 : 0 ≤ (j : Int) / f.length ∧ (j : Int) / f.length < f.length := ⟨by exact_mod_cast Nat.zero_le _, by exact_mod_cast hj1.1⟩
          have hr2 : 0 ≤ (j : Int) % f.length ∧ (j : Int) % f.length < f.length := ⟨by exact_mod_cast Nat.zero_le _, by exact_mod_cast hj1.2⟩
          have ht2 : ((j : Int) / f.length).toNat = j / f.length := by rw [← Int.natCast_ediv]; exact Int.toNat_natCast _
          have hu2 : ((j : Int) % f.length).toNat = j % f.length := by rw [← Int.natCast_emod]; exact Int.toNat_natCast _
          rcases Nat.lt_or_ge j b with hlt | hge
          · have hnc : ¬ coll f s k j := hmin2 j hlt
            by_cases hkj : k = j
            · subst hkj
              clear hj hj1 hnc
              simp [hji, h0', undefV]
              omega
            · have hkjI : (k : Int) ≠ j := by omega
              by_cases hv1 : v2 f (k / f.length) (k % f.length) = v2 f (j / f.length) (j % f.length)
              · by_cases hv2 : v2 s (k / f.length) (k % f.length) = v2 s (j / f.length) (j % f.length)
                · have hcc : coll f s k j := ⟨hkj, hv1, hv2⟩
                  exact (hnc hcc).elim
                · simp [hkjI, hk1, hj1, hq1, hq2, hr1, hr2, ht1, ht2, hu1, hu2, hji, h0', fr', sr', h.len, get_v2, hv1, hv2]
                  omega
              · simp [hkjI, hk1, hj1, hq1, hq2, hr1, hr2, ht1, ht2, hu1, hu2, hji, h0', fr', get_v2, undefV, hv1]
                omega
          · have hjb2 : j = b := by omega
            subst hjb2
            obtain ⟨hkj, hv1, hv2⟩ := hc
            have hkjI : (k : Int) ≠ j := by omega
            simp [hkjI, hk1, hj1, hq1, hq2, hr1, hr2, ht1, ht2, hu1, hu2, hji, h0', fr', sr', h.len, get_v2, hv1, hv2]
            try omega
        · rintro e ⟨h1, rfl⟩
          omega
        · simp
    · rintro e ⟨h1, rfl⟩
      omega
    · simp
  · have hi : Inj f s := fun a ha b hb hc => hex ⟨a, ha, b, hb, hc⟩
    refine ⟨none, by simp [hi], Call.intro hp rfl (by simp) ?_⟩
    simp only [ownI]
    show wp _ _ c_impl_collisionOf.body (post [.t 2] _ _ _) _
    simp [c_impl_collisionOf]
    refine ⟨by omega, ?_⟩
    refine wpLoop_count (fun k e => e = fr [(1, some (.val (.mem .own none [tb f, tb s]))), (3, some (.val (I f.length))), (15, some (.val (I ((f.length : Int) * f.length)))), (16, some (.val (I k)))]) (f.length * f.length) ?_ ?_ 0 _ (by omega) ?_
    · rintro k e hk rfl
      have hk1 := dm_lt hk
      have hki : (k : Int) < (f.length : Int) * f.length := by exact_mod_cast hk
      have hq1 : 0 ≤ (k : Int) / f.length ∧ (k : Int) / f.length < f.length := ⟨by exact_mod_cast Nat.zero_le _, by exact_mod_cast hk1.1⟩
      have hr1 : 0 ≤ (k : Int) % f.length ∧ (k : Int) % f.length < f.length := ⟨by exact_mod_cast Nat.zero_le _, by exact_mod_cast hk1.2⟩
      have ht1 : ((k : Int) / f.length).toNat = k / f.length := by rw [← Int.natCast_ediv]; exact Int.toNat_natCast _
      have hu1 : ((k : Int) % f.length).toNat = k % f.length := by rw [← Int.natCast_emod]; exact Int.toNat_natCast _
      simp [hki, h0']
      refine ⟨by omega, by omega, ?_⟩
      refine wpLoop_count (fun j e => e = fr [(1, some (.val (.mem .own none [tb f, tb s]))), (3, some (.val (I f.length))), (4, some (.val (I k))), (5, some (.val (I ((k / f.length : Nat) : Int)))), (6, some (.val (I ((k % f.length : Nat) : Int)))), (15, some (.val (I ((f.length : Int) * f.length)))), (16, some (.val (I k))), (27, some (.val (I ((f.length : Int) * f.length)))), (28, some (.val (I j)))]) (f.length * f.length) ?_ ?_ 0 _ (by omega) ?_
      · rintro j e hj rfl
        have hj1 := dm_lt hj
        have hji : (j : Int) < (f.length : Int) * f.length := by exact_mod_cast hj
        have hq2 : 0 ≤ (j : Int) / f.length ∧ (j : Int) / f.length < f.length := ⟨by exact_mod_cast Nat.zero_le _, by exact_mod_cast hj1.1⟩
        have hr2 : 0 ≤ (j : Int) % f.length ∧ (j : Int) % f.length < f.length := ⟨by exact_mod_cast Nat.zero_le _, by exact_mod_cast hj1.2⟩
        have ht2 : ((j : Int) / f.length).toNat = j / f.length := by rw [← Int.natCast_ediv]; exact Int.toNat_natCast _
        have hu2 : ((j : Int) % f.length).toNat = j % f.length := by rw [← Int.natCast_emod]; exact Int.toNat_natCast _
        have hnc : ¬ coll f s k j := hi k hk j hj
        by_cases hkj : k = j
        · subst hkj
          clear hj hj1 hnc
          simp [hji, h0', undefV]
          omega
        · have hkjI : (k : Int) ≠ j := by omega
          by_cases hv1 : v2 f (k / f.length) (k % f.length) = v2 f (j / f.length) (j % f.length)
          · by_cases hv2 : v2 s (k / f.length) (k % f.length) = v2 s (j / f.length) (j % f.length)
            · have hcc : coll f s k j := ⟨hkj, hv1, hv2⟩
              exact (hnc hcc).elim
            · simp [hkjI, hk1, hj1, hq1, hq2, hr1, hr2, ht1, ht2, hu1, hu2, hji, h0', fr', sr', h.len, get_v2, hv1, hv2]
              omega
          · simp [hkjI, hk1, hj1, hq1, hq2, hr1, hr2, ht1, ht2, hu1, hu2, hji, h0', fr', get_v2, undefV, hv1]
            omega
      · rintro e rfl
        simp
        omega
      · simp
    · rintro e rfl
      simp
      try omega
    · simp


end Go.Mch
/- The equation of solutions, as the reference and the program test it. -/
namespace Go.Mch

/-- The value of a table at numbers. -/
def g2 (t : List (List Int)) (x y : Int) : Int := v2 t x.toNat y.toNat
theorem get_g2 {t : List (List Int)} {x y : Int} (hx : x.toNat < t.length) (hy : y.toNat < (t[x.toNat]).length) : (t[x.toNat])[y.toNat] = g2 t x y := get_v2 hx hy
def inN (n : Nat) (w : List Int) : Prop := ∀ x ∈ w, 0 ≤ x ∧ x < n
theorem PM.gF {f s : List (List Int)} (h : PM f s) (x y : Int) : 0 ≤ g2 f x y ∧ g2 f x y < f.length := ⟨h.tf.nonneg _ _, h.tf.lt h.pos _ _⟩
theorem PM.gS {f s : List (List Int)} (h : PM f s) (x y : Int) : 0 ≤ g2 s x y ∧ g2 s x y < f.length := ⟨h.ts.nonneg _ _, by have := h.ts.lt (by rw [h.len]; exact h.pos) x.toNat y.toNat; rw [h.len] at this; exact this⟩

/-- A word, moved at a place. -/
def dW (f s : List (List Int)) (w : List Int) (i : Nat) : List Int :=
  (w.set i (g2 f (w.getD i 0) (w.getD (i + 1) 0))).set (i + 1) (g2 s (w.getD i 0) (w.getD (i + 1) 0))
@[simp] theorem dW_length (f s : List (List Int)) (w : List Int) (i : Nat) : (dW f s w i).length = w.length := by simp [dW]
theorem set_in {n : Nat} {w : List Int} (h : inN n w) {i : Nat} {v : Int} (hv : 0 ≤ v ∧ v < n) : inN n (w.set i v) := by
  intro x hx
  rcases List.mem_or_eq_of_mem_set hx with h1 | h1
  · exact h x h1
  · rw [h1]; exact hv
theorem dW_in {f s : List (List Int)} (h : PM f s) {w : List Int} (hw : inN f.length w) (i : Nat) : inN f.length (dW f s w i) := set_in (set_in hw (h.gF _ _)) (h.gS _ _)

def S_do (pg : Pg) (n : Nat) : Prop := ∀ (f s : List (List Int)) (w : List Int) (i : Nat), PM f s → i + 1 < w.length → w.length ≤ 1048576 → inN f.length w →
  Call pg n [sol f s, ix w, I i] [sol f s, ix w, I i] (.mem .own (some 1) ((dW f s w i).map I))
set_option maxRecDepth 10000 in
theorem do_of {pg : Pg} {n : Nat} (hp : pg.fn n = some c_spec_l02Do) (h31 : S_own pg) : S_do pg n := by
  intro f s w i h hi hl hw
  refine Call.intro hp rfl (by simp) ?_
  show wp _ _ c_spec_l02Do.body (post [.t 6] _ _ _) _
  have h1 := hw _ (List.getElem_mem (show i < w.length by omega))
  have h2 := hw _ (List.getElem_mem hi)
  have fr' := fun x hx => h.tf.row (x := x) hx
  have sr' : ∀ x (hx : x < s.length), (s[x]).length = f.length := fun x hx => (h.ts.row hx).trans h.len
  have hi0 : i < w.length := by omega
  have hiI : (i : Int) + 1 < w.length := by omega
  have e1 : ((i : Int) + 1).toNat = i + 1 := by omega
  have t1 : (w[i]).toNat < f.length := by omega
  have t2 : (w[i + 1]).toNat < f.length := by omega
  have hb : -9223372036854775808 ≤ (i : Int) + 1 ∧ (i : Int) + 1 ≤ 9223372036854775807 := by omega
  have hb0 : 0 ≤ (i : Int) + 1 := by omega
  simp [c_spec_l02Do]
  refine callR (h31 _ hl) rfl rfl (fun _ => by simp) ?_
  simp [hi, hb, hb0, hi0, hiI, e1, h1, h2, t1, t2, fr', sr', h.len, get_g2]
  refine ⟨by omega, by omega, ?_⟩
  simp [dW, hi0, hi]

/-- The equation at three numbers, and everywhere. -/
def ybAt (f s : List (List Int)) (x y z : Nat) : Prop := dW f s (dW f s (dW f s [(x : Int), y, z] 0) 1) 0 = dW f s (dW f s (dW f s [(x : Int), y, z] 1) 0) 1
def YB (f s : List (List Int)) : Prop := ∀ x y z : Nat, x < f.length → y < f.length → z < f.length → ybAt f s x y z
instance (f s : List (List Int)) (x y z : Nat) : Decidable (ybAt f s x y z) := by unfold ybAt; infer_instance

theorem first3 (P : Nat → Nat → Nat → Prop) (n : Nat) : (∀ x y z, x < n → y < n → z < n → ¬ P x y z) ∨
    ∃ a b c, a < n ∧ b < n ∧ c < n ∧ P a b c ∧ ∀ x y z, x < n → y < n → z < n → P x y z → a < x ∨ (a = x ∧ (b < y ∨ (b = y ∧ c ≤ z))) := by
  by_cases h : ∃ a, a < n ∧ ∃ b, b < n ∧ ∃ c, c < n ∧ P a b c
  · right
    obtain ⟨a, ha, hb, h1⟩ := least h
    obtain ⟨b, hb, hc, h2⟩ := least hb
    obtain ⟨c, hc, hp, h3⟩ := least hc
    refine ⟨a, b, c, ha, hb, hc, hp, fun x y z hx hy hz hq => ?_⟩
    rcases Nat.lt_trichotomy a x with g | g | g
    · exact .inl g
    · subst g
      right
      refine ⟨rfl, ?_⟩
      rcases Nat.lt_trichotomy b y with g | g | g
      · exact .inl g
      · subst g
        right
        refine ⟨rfl, ?_⟩
        rcases Nat.lt_or_ge z c with g | g
        · exact absurd hq (h3 z g)
        · exact g
      · exact absurd ⟨z, hz, hq⟩ (h2 y g)
    · exact absurd ⟨y, hy, z, hz, hq⟩ (h1 x g)
  · left
    intro x y z hx hy hz hp
    exact h ⟨x, hx, y, hy, z, hz, hp⟩

/-- The first three numbers at which the equation fails; or the size, where it holds. -/
theorem fault (f s : List (List Int)) : ∃ (a b c : Nat) (l : List Int), (l.length = 0 ↔ YB f s) ∧ (a < f.length → l = [(a : Int), b, c] ∧ b < f.length ∧ c < f.length ∧ ¬ ybAt f s a b c) ∧ (¬ a < f.length → a = f.length ∧ l = []) ∧ l.length ≤ 3 ∧
    ∀ x y z, x < f.length → y < f.length → z < f.length → ¬ ybAt f s x y z → a < x ∨ (a = x ∧ (b < y ∨ (b = y ∧ c ≤ z))) := by
  rcases first3 (fun x y z => ¬ ybAt f s x y z) f.length with h | ⟨a, b, c, ha, hb, hc, hp, h⟩
  · refine ⟨f.length, 0, 0, [], ⟨fun _ x y z hx hy hz => ?_, fun _ => rfl⟩, fun h => absurd h (Nat.lt_irrefl _), fun _ => ⟨rfl, rfl⟩, by simp, fun x y z hx hy hz hn => absurd hn (h x y z hx hy hz)⟩
    exact Decidable.of_not_not (h x y z hx hy hz)
  · exact ⟨a, b, c, [(a : Int), b, c], ⟨fun h => by simp at h, fun h => absurd (h a b c ha hb hc) hp⟩, fun _ => ⟨rfl, hb, hc, hp⟩, fun h => absurd ha h, by simp, h⟩

def S_fault58 (pg : Pg) : Prop := ∀ f s : List (List Int), PM f s → ∃ l : List Int, (l.length = 0 ↔ YB f s) ∧ l.length ≤ 3 ∧ Call pg 58 [sol f s] [sol f s] (.mem .own (some 1) (l.map I))

theorem w3_in {n x y z : Nat} (hx : x < n) (hy : y < n) (hz : z < n) : inN n [(x : Int), y, z] := by
  intro v hv
  simp at hv
  omega

set_option maxRecDepth 10000 in
theorem t_fault58 {pg : Pg} (hp : pg.fn 58 = some c_spec_l02Fault) (h68 : S_do pg 68) (h67 : S_same pg) : S_fault58 pg := by
  intro f s h
  obtain ⟨a, b, c, l, hl, hf1, hf2, hf3, hmin⟩ := fault f s
  have h0 := h.pos
  have h12 := h.small
  refine ⟨l, hl, hf3, Call.intro hp rfl (by simp) ?_⟩
  show wp _ _ c_spec_l02Fault.body (post [.t 2] _ _ _) _
  simp [c_spec_l02Fault]
  refine wpLoop_count (fun x e => x ≤ a ∧ e = fr [(1, some (.val (.mem .own none [tb f, tb s]))), (3, some (.val (I f.length))), (4, some (.val (I x)))]) f.length ?_ ?_ 0 _ (by omega) ?_
  · rintro x e hx ⟨hxa, rfl⟩
    simp [hx]
    refine wpLoop_count (fun y e => (x = a → y ≤ b) ∧ e = fr [(1, some (.val (.mem .own none [tb f, tb s]))), (3, some (.val (I f.length))), (4, some (.val (I x))), (5, some (.val (I y)))]) f.length ?_ ?_ 0 _ (by omega) ?_
    · rintro y e hy ⟨hyb, rfl⟩
      simp [hy]
      refine wpLoop_count (fun z e => (x = a → y = b → z ≤ c) ∧ e = fr [(1, some (.val (.mem .own none [tb f, tb s]))), (3, some (.val (I f.length))), (4, some (.val (I x))), (5, some (.val (I y))), (6, some (.val (I z)))]) f.length ?_ ?_ 0 _ (by omega) ?_
      · rintro z e hz ⟨hzc, rfl⟩
        have hw := w3_in hx hy hz
        have d1 := dW_in h hw 0
        have d2 := dW_in h d1 1
        have d3 := dW_in h hw 1
        have d4 := dW_in h d3 0
        simp [hz]
        refine callR (h68 f s [(x : Int), y, z] 0 h (by simp) (by simp) hw) rfl rfl (fun _ => by simp) ?_
        simp
        refine callR (h68 f s _ 1 h (by simp) (by simp) d1) rfl rfl (fun _ => by simp) ?_
        simp
        refine callR (h68 f s _ 0 h (by simp) (by simp) d2) rfl rfl (fun _ => by simp) ?_
        simp
        refine callR (h68 f s [(x : Int), y, z] 1 h (by simp) (by simp) hw) rfl rfl (fun _ => by simp) ?_
        simp
        refine callR (h68 f s _ 0 h (by simp) (by simp) d3) rfl rfl (fun _ => by simp) ?_
        simp
        refine callR (h68 f s _ 1 h (by simp) (by simp) d4) rfl rfl (fun _ => by simp) ?_
        simp
        refine callR (h67 _ _ (by simp)) rfl rfl (fun _ => rfl) ?_
        by_cases hy2 : ybAt f s x y z
        · have hy3 := hy2
          unfold ybAt at hy3
          simp [hy3]
          have : ¬ (x = a ∧ y = b ∧ z = c) := fun ⟨e1, e2, e3⟩ => by
            subst e1 e2 e3
            exact (hf1 hx).2.2.2 hy2
          omega
        · have hy3 := hy2
          unfold ybAt at hy3
          have := hmin x y z hx hy hz hy2
          have e1 : x = a := by omega
          subst e1
          have e2 : y = b := by have := hyb rfl; omega
          subst e2
          have e3 : z = c := by have := hzc rfl rfl; omega
          subst e3
          simp [hy3, (hf1 hx).1]
      · rintro e ⟨hzc, rfl⟩
        simp
        have : ¬ (x = a ∧ y = b) := fun ⟨e1, e2⟩ => by
          have := hzc e1 e2
          have := (hf1 (by omega)).2.2.1
          omega
        omega
      · simp
    · rintro e ⟨hyb, rfl⟩
      simp
      have : ¬ x = a := fun e1 => by
        have := hyb e1
        have := (hf1 (by omega)).2.1
        omega
      omega
    · simp
  · rintro e ⟨h1, rfl⟩
    simp [(hf2 (by omega)).2]
  · simp

theorem yb_v2 (f s : List (List Int)) (x y z : Nat) : ybAt f s x y z ↔
    (v2 f (v2 f x y).toNat (v2 f (v2 s x y).toNat z).toNat = v2 f x (v2 f y z).toNat ∧
     v2 s (v2 f x y).toNat (v2 f (v2 s x y).toNat z).toNat = v2 f (v2 s x (v2 f y z).toNat).toNat (v2 s y z).toNat ∧
     v2 s (v2 s x y).toNat z = v2 s (v2 s x (v2 f y z).toNat).toNat (v2 s y z).toNat) := by
  simp [ybAt, dW, g2]

def S_fault61 (pg : Pg) : Prop := ∀ f s : List (List Int), PM f s → ∃ o : Option (List Int), (o = none ↔ YB f s) ∧ Call pg 61 [sol f s] [sol f s] (ownI o)
set_option maxRecDepth 10000 in
theorem t_fault61 {pg : Pg} (hp : pg.fn 61 = some c_impl_equationFault) : S_fault61 pg := by
  intro f s h
  obtain ⟨a, b, c, l, hl, hf1, hf2, hf3, hmin⟩ := fault f s
  have h0 := h.pos
  have h12 := h.small
  have fr' := fun x hx => h.tf.row (x := x) hx
  have sr' : ∀ x (hx : x < s.length), (s[x]).length = f.length := fun x hx => (h.ts.row hx).trans h.len
  have hF0 : ∀ i j, 0 ≤ v2 f i j := h.tf.nonneg
  have hF1 : ∀ i j, v2 f i j < f.length := h.tf.lt h0
  have hF2 : ∀ i j, (v2 f i j).toNat < f.length := h.tf.ltN h0
  have hS0 : ∀ i j, 0 ≤ v2 s i j := h.ts.nonneg
  have hS1 : ∀ i j, v2 s i j < f.length := fun i j => by have := h.ts.lt (by rw [h.len]; exact h0) i j; rw [h.len] at this; exact this
  have hS2 : ∀ i j, (v2 s i j).toNat < f.length := fun i j => by have := hS0 i j; have := hS1 i j; omega
  refine ⟨if a < f.length then some l else none, ?_, Call.intro hp rfl (by simp) ?_⟩
  · by_cases ha : a < f.length
    · have h1 := (hf1 ha).1
      rw [← hl, if_pos ha, h1]
      simp
    · have h1 := (hf2 ha).2
      rw [← hl, if_neg ha, h1]
      simp
  show wp _ _ c_impl_equationFault.body (post [.t 2] _ _ _) _
  simp [c_impl_equationFault]
  refine wpLoop_count (fun x e => x ≤ a ∧ e = fr [(1, some (.val (.mem .own none [tb f, tb s]))), (3, some (.val (I f.length))), (16, some (.val (I f.length))), (17, some (.val (I x)))]) f.length ?_ ?_ 0 _ (by omega) ?_
  · rintro x e hx ⟨hxa, rfl⟩
    simp [hx]
    refine wpLoop_count (fun y e => (x = a → y ≤ b) ∧ e = fr [(1, some (.val (.mem .own none [tb f, tb s]))), (3, some (.val (I f.length))), (4, some (.val (I x))), (16, some (.val (I f.length))), (17, some (.val (I x))), (20, some (.val (I f.length))), (21, some (.val (I y)))]) f.length ?_ ?_ 0 _ (by omega) ?_
    · rintro y e hy ⟨hyb, rfl⟩
      simp [hy]
      refine wpLoop_count (fun z e => (x = a → y = b → z ≤ c) ∧ e = fr [(1, some (.val (.mem .own none [tb f, tb s]))), (3, some (.val (I f.length))), (4, some (.val (I x))), (5, some (.val (I y))), (16, some (.val (I f.length))), (17, some (.val (I x))), (20, some (.val (I f.length))), (21, some (.val (I y))), (24, some (.val (I f.length))), (25, some (.val (I z)))]) f.length ?_ ?_ 0 _ (by omega) ?_
      · rintro z e hz ⟨hzc, rfl⟩
        have hyb2 := yb_v2 f s x y z
        simp [hx, hy, hz, fr', sr', h.len, get_v2, hF0, hF1, hF2, hS0, hS1, hS2]
        have bad : ¬ ybAt f s x y z → x = a ∧ y = b ∧ z = c := fun hn => by
          have := hmin x y z hx hy hz hn
          have e1 : x = a := by omega
          have e2 : y = b := by have := hyb e1; omega
          have e3 : z = c := by have := hzc e1 e2; omega
          exact ⟨e1, e2, e3⟩
        by_cases e1 : v2 f (v2 f x y).toNat (v2 f (v2 s x y).toNat z).toNat = v2 f x (v2 f y z).toNat
        · by_cases e2 : v2 s (v2 f x y).toNat (v2 f (v2 s x y).toNat z).toNat = v2 f (v2 s x (v2 f y z).toNat).toNat (v2 s y z).toNat
          · by_cases e3 : v2 s (v2 s x y).toNat z = v2 s (v2 s x (v2 f y z).toNat).toNat (v2 s y z).toNat
            · simp [e1, e2, e3]
              have : ¬ (x = a ∧ y = b ∧ z = c) := fun ⟨g1, g2, g3⟩ => by
                subst g1 g2 g3
                exact (hf1 hx).2.2.2 (hyb2.2 ⟨e1, e2, e3⟩)
              omega
            · obtain ⟨g1, g2, g3⟩ := bad fun hh => e3 (hyb2.1 hh).2.2
              subst g1 g2 g3
              simp [e1, e2, e3, hx, (hf1 hx).1, ownI]
          · obtain ⟨g1, g2, g3⟩ := bad fun hh => e2 (hyb2.1 hh).2.1
            subst g1 g2 g3
            simp [e1, e2, undefV, hx, (hf1 hx).1, ownI]
        · obtain ⟨g1, g2, g3⟩ := bad fun hh => e1 (hyb2.1 hh).1
          subst g1 g2 g3
          simp [e1, undefV, hx, (hf1 hx).1, ownI]
      · rintro e ⟨hzc, rfl⟩
        simp
        have : ¬ (x = a ∧ y = b) := fun ⟨e1, e2⟩ => by
          have := hzc e1 e2
          have := (hf1 (by omega)).2.2.1
          omega
        omega
      · simp
    · rintro e ⟨hyb, rfl⟩
      simp
      have : ¬ x = a := fun e1 => by
        have := hyb e1
        have := (hf1 (by omega)).2.1
        omega
      omega
    · simp
  · rintro e ⟨h1, rfl⟩
    have h2 : ¬ a < f.length := by omega
    simp [h2, ownI]
  · simp

def isSol (f s : List (List Int)) : Prop := isPairMap f s ∧ Inj f s ∧ YB f s

/-- A sentence that is decided somehow. -/
noncomputable def dec (p : Prop) : Bool := @decide p (Classical.propDecidable p)
theorem dec_true {p : Prop} (h : p) : dec p = true := by simp [dec, h]
theorem dec_false {p : Prop} (h : ¬ p) : dec p = false := by simp [dec, h]

def S_isSol (pg : Pg) (n : Nat) : Prop := ∀ f s : List (List Int), fits f → fits s → Call pg n [sol f s] [sol f s] (B (dec (isSol f s)))
theorem t_l02Is {pg : Pg} (hp : pg.fn 41 = some c_spec_l02Is) (h56 : S_pairMap pg 56) (h57 : S_coll57 pg) (h58 : S_fault58 pg) : S_isSol pg 41 := by
  intro f s hf hs
  refine Call.intro hp rfl (by simp) ?_
  show wp _ _ c_spec_l02Is.body (post [.t 2] _ _ _) _
  simp [c_spec_l02Is]
  refine callR (h56 f s hf hs) rfl rfl (fun _ => rfl) ?_
  by_cases h1 : isPairMap f s
  · have hpm := PM.of h1
    obtain ⟨l, hl, hl2, hc⟩ := h57 f s hpm
    simp [h1]
    refine callR hc rfl rfl (fun _ => by simp) ?_
    by_cases h2 : Inj f s
    · have h3 := hl.2 h2
      obtain ⟨l2, hm, hm2, hc2⟩ := h58 f s hpm
      simp [h3]
      refine callR hc2 rfl rfl (fun _ => by simp) ?_
      by_cases h4 : YB f s
      · have h5 := hm.2 h4
        simp [h5, dec_true (show isSol f s from ⟨h1, h2, h4⟩)]
      · have h5 : ¬ l2.length = 0 := fun h => h4 (hm.1 h)
        have h6 : ¬ ((l2.length : Nat) : Int) = 0 := by omega
        simp [h5, dec_false (show ¬ isSol f s from fun h => h4 h.2.2)]
    · have h3 : ¬ l.length = 0 := fun h => h2 (hl.1 h)
      have h6 : ¬ ((l.length : Nat) : Int) = 0 := by omega
      simp [h3, undefV, dec_false (show ¬ isSol f s from fun h => h2 h.2.1)]
  · simp [h1, undefV, dec_false (show ¬ isSol f s from fun h => h1 h.1)]

theorem t_IsSolution {pg : Pg} (hp : pg.fn 42 = some c_impl_IsSolution) (h59 : S_pairMap pg 59) (h60 : S_coll60 pg) (h61 : S_fault61 pg) : S_isSol pg 42 := by
  intro f s hf hs
  refine Call.intro hp rfl (by simp) ?_
  show wp _ _ c_impl_IsSolution.body (post [.t 2] _ _ _) _
  simp [c_impl_IsSolution]
  refine callR (h59 f s hf hs) rfl rfl (fun _ => rfl) ?_
  by_cases h1 : isPairMap f s
  · have hpm := PM.of h1
    obtain ⟨l, hl, hc⟩ := h60 f s hpm
    simp [h1]
    refine callR hc rfl rfl (fun _ => by cases l <;> simp [ownI]) ?_
    by_cases h2 : Inj f s
    · have h3 := hl.2 h2
      subst h3
      obtain ⟨l2, hm, hc2⟩ := h61 f s hpm
      simp [ownI]
      refine callR hc2 rfl rfl (fun _ => by cases l2 <;> simp [ownI]) ?_
      by_cases h4 : YB f s
      · have h5 := hm.2 h4
        subst h5
        simp [ownI, dec_true (show isSol f s from ⟨h1, h2, h4⟩)]
      · cases l2 with
        | none => exact absurd (hm.1 rfl) h4
        | some l2 => simp [ownI, dec_false (show ¬ isSol f s from fun h => h4 h.2.2)]
    · cases l with
      | none => exact absurd (hl.1 rfl) h2
      | some l => simp [ownI, undefV, dec_false (show ¬ isSol f s from fun h => h2 h.2.1)]
  · simp [h1, undefV, dec_false (show ¬ isSol f s from fun h => h1 h.1)]
end Go.Mch
/- The law of FixedPairs. -/
namespace Go.Mch

/-- An own table or nil, as one that is only read. -/
def eT : Option (List (List Int)) → T
  | none => nil
  | some X => tb X
def ryT (o : Option (List (List Int))) : Rw (Rw Int) := Rw.ofO (o.map fun X => X.map .of)
theorem rawT_ry (o : Option (List (List Int))) : rawT (ryT o) = eT o := by
  cases o with
  | none => rfl
  | some X => exact rawT_tb X
theorem map_lst_of {α : Type} (X : List (List α)) : (X.map Rw.of).map lst = X := by simp [Function.comp_def]
theorem lst_ry (o : Option (List (List Int))) : (lst (ryT o)).map lst = lso o := by
  cases o with
  | none => rfl
  | some X => exact map_lst_of X
theorem small_ry {o : Option (List (List Int))} (h : smallT (lso o)) : small (ryT o) := by
  cases o with
  | none => exact ⟨by simp [ryT, Rw.ofO, lst], by simp [ryT, Rw.ofO, lst]⟩
  | some X => exact ⟨by simpa [ryT, Rw.ofO] using h.1, by simpa [ryT, Rw.ofO] using h.2⟩
theorem S_eqT.o {pg : Pg} (h : S_eqT pg) (o o' : Option (List (List Int))) (hs : smallT (lso o)) : Call pg 21 [eT o, eT o'] [eT o, eT o'] (B (decide (lso o = lso o'))) := by
  have := h (ryT o) (ryT o') (small_ry hs)
  simp only [rawT_ry, lst_ry] at this
  exact this
theorem S_heldT.o {pg : Pg} (h : S_heldT pg) (o : Option (List (List Int))) (k : Int) (hs : smallT (lso o)) (h1 : -1 ≤ k) (h2 : k ≤ 2305843009213693952) : Call pg 24 [eT o, I k] [eT o, I k] (I (heldL (lso o) k)) := by
  have := h (ryT o) k (small_ry hs) h1 h2
  simp only [rawT_ry, lst_ry] at this
  exact this
theorem S_eqSol.o {pg : Pg} (h : S_eqSol pg) (X Y Z W : List (List Int)) (hX : smallT X) (hY : smallT Y) : Call pg 18 [.agg [tb X, tb Y], .agg [tb Z, tb W]] [.agg [tb X, tb Y], .agg [tb Z, tb W]] (B (decide (X = Z ∧ Y = W))) := by
  have := h (ryT (some X)) (ryT (some Y)) (ryT (some Z)) (ryT (some W)) (small_ry hX) (small_ry hY)
  simp only [rawT_ry, lst_ry] at this
  exact this

theorem fitsT_of {a : Rw (Rw Int)} (h : small a) : fits ((lst a).map lst) := ⟨by simpa using h.1, by simpa using h.2⟩
theorem upT_small {X : List (List Int)} (h : smallT X) (k : Int) : smallT (upT k X) := by
  refine ⟨by simpa [upT] using h.1, fun r hr => ?_⟩
  simp only [upT, List.mem_map, List.mem_range] at hr
  obtain ⟨j, hj, rfl⟩ := hr
  rw [up_length]
  have := h.2 X[j] (List.getElem_mem hj)
  simpa [List.getD_eq_getElem?_getD, hj] using this

end Go.Mch
/- TupleMove, of the reference and of the program. -/
namespace Go.Mch

def isTup (n : Int) (xs : List Int) : Prop := xs.length ≤ 12 ∧ inR 0 (n - 1) xs
instance (n : Int) (xs : List Int) : Decidable (isTup n xs) := by unfold isTup; infer_instance
def S_clone (pg : Pg) : Prop := ∀ xs : List Int, xs.length ≤ 1048576 → Call pg 36 [ix xs] [ix xs] (.mem .own (some 1) (xs.map I))
theorem t_clone {pg : Pg} (hp : pg.fn 36 = some c_slices_Clone___int64_int64_) : S_clone pg := by
  intro xs hl
  refine Call.intro hp rfl (by simp) ?_
  show wp _ _ c_slices_Clone___int64_int64_.body (post [.t 2] _ _ _) _
  simp [c_slices_Clone___int64_int64_, roomy]
  omega

set_option maxRecDepth 10000 in
theorem t_moved {pg : Pg} (hp : pg.fn 44 = some c_impl_moved) (h36 : S_clone pg) : S_do pg 44 := by
  intro f s w i h hi hl hw
  refine Call.intro hp rfl (by simp) ?_
  show wp _ _ c_impl_moved.body (post [.t 6] _ _ _) _
  have h1 := hw _ (List.getElem_mem (show i < w.length by omega))
  have h2 := hw _ (List.getElem_mem hi)
  have fr' := fun x hx => h.tf.row (x := x) hx
  have sr' : ∀ x (hx : x < s.length), (s[x]).length = f.length := fun x hx => (h.ts.row hx).trans h.len
  have hi0 : i < w.length := by omega
  have hiI : (i : Int) + 1 < w.length := by omega
  have e1 : ((i : Int) + 1).toNat = i + 1 := by omega
  have t1 : (w[i]).toNat < f.length := by omega
  have t2 : (w[i + 1]).toNat < f.length := by omega
  have hb : -9223372036854775808 ≤ (i : Int) + 1 ∧ (i : Int) + 1 ≤ 9223372036854775807 := by omega
  have hb0 : 0 ≤ (i : Int) + 1 := by omega
  simp [c_impl_moved]
  refine callR (h36 _ hl) rfl rfl (fun _ => by simp) ?_
  simp [hi, hb, hb0, hi0, hiI, e1, h1, h2, t1, t2, fr', sr', h.len, get_g2]
  refine ⟨by omega, ?_⟩
  simp [dW, hi0, hi]

/-- What TupleMove takes. -/
def tmOk (f : List (List Int)) (w : List Int) (p : Int) : Prop := isTup f.length w ∧ 0 ≤ p ∧ p ≤ (w.length : Int) - 2
instance (f : List (List Int)) (w : List Int) (p : Int) : Decidable (tmOk f w p) := by unfold tmOk; infer_instance
end Go.Mch
/- The law of TupleMove. -/
namespace Go.Mch

/-- An own list or nil, as one that is only read. -/
def eI : Option (List Int) → T
  | none => nil
  | some X => ix X
theorem rawI_ry (o : Option (List Int)) : rawI (Rw.ofO o) = eI o := by cases o <;> rfl
theorem S_eqI.o {pg : Pg} (h : S_eqI pg) (o o' : Option (List Int)) (hs : (lso o).length ≤ 1048576) : Call pg 9 [eI o, eI o'] [eI o, eI o'] (B (decide (lso o = lso o'))) := by
  have := h (Rw.ofO o) (Rw.ofO o') (by simpa using hs)
  simp only [rawI_ry, lst_ofO] at this
  exact this
theorem S_heldI.o {pg : Pg} (h : S_heldI pg) (o : Option (List Int)) (k : Int) (hs : (lso o).length ≤ 1048576) (h1 : -1 ≤ k) (h2 : k ≤ 4611686018427387904) : Call pg 13 [eI o, I k] [eI o, I k] (I (held (lso o) k)) := by
  have := h (Rw.ofO o) k (by simpa using hs) h1 h2
  simp only [rawI_ry, lst_ofO] at this
  exact this
end Go.Mch
/- Racks, as the reference and the program test them. -/
namespace Go.Mch

/-- Left distributive at three numbers. -/
def sdAt (t : List (List Int)) (x y z : Nat) : Prop := v2 t x (v2 t y z).toNat = v2 t (v2 t x y).toNat (v2 t x z).toNat
instance (t : List (List Int)) (x y z : Nat) : Decidable (sdAt t x y z) := by unfold sdAt; infer_instance
end Go.Mch
/- RackMove, of the reference and of the program. -/
namespace Go.Mch

theorem S_eqRack.o {pg : Pg} (h : S_eqRack pg) (X Z : List (List Int)) (hX : smallT X) : Call pg 10 [.agg [tb X], .agg [tb Z]] [.agg [tb X], .agg [tb Z]] (B (decide (X = Z))) := by
  have := h (ryT (some X)) (ryT (some Z)) (small_ry hX)
  simp only [rawT_ry, lst_ry] at this
  exact this

end Go.Mch
/- Columns, tables turned over, permutations one behind another, copies of tables. -/
namespace Go.Mch

@[simp] theorem frzL_mapI (k : K) (xs : List Int) : T.frzL k (xs.map I) = xs.map I := by
  induction xs with
  | nil => rfl
  | cons x xs ih => simp [ih]
@[simp] theorem frzL_tbL (k : K) (t : List (List Int)) : T.frzL k (tbL t) = tbL t := by
  induction t with
  | nil => rfl
  | cons x xs ih => simp only [tbL, List.map_cons] at ih ⊢; simp [ih]
/-- A square table by its values. -/
def tabL (n : Nat) (g : Nat → Nat → Int) : List (List Int) := (List.range n).map fun x => (List.range n).map fun y => g x y
@[simp] theorem tabL_length (n : Nat) (g : Nat → Nat → Int) : (tabL n g).length = n := by simp [tabL]
def colL (t : List (List Int)) (y : Nat) : List Int := (List.range t.length).map fun x => v2 t x y
/-- A table, rows and columns exchanged. -/
def turnL (t : List (List Int)) : List (List Int) := tabL t.length fun x y => v2 t y x
@[simp] theorem colL_length (t : List (List Int)) (y : Nat) : (colL t y).length = t.length := by simp [colL]
@[simp] theorem turnL_length (t : List (List Int)) : (turnL t).length = t.length := by simp [turnL]
/-- A nondegenerate pair map, as both test it. -/
def nonDeg (f s : List (List Int)) : Prop := permRows f ∧ permRows (turnL s)
instance (f s : List (List Int)) : Decidable (nonDeg f s) := by unfold nonDeg; infer_instance
end Go.Mch
/- Permutations one behind another, copies of tables; LambdaMaps, RhoMaps, IsAbelianLeft, of the reference and of the program. -/
namespace Go.Mch

/-- Do p, then q. -/
def thenL (p q : List Int) : List Int := p.map fun x => q.getD x.toNat 0
@[simp] theorem thenL_length (p q : List Int) : (thenL p q).length = p.length := by simp [thenL]
/-! ### Copies of tables -/

/-! ### LambdaMaps, RhoMaps -/

/-! ### IsAbelianLeft -/

def abel (f : List (List Int)) : Prop := ∀ x y : Nat, x < f.length → y < f.length → thenL (f.getD x []) (f.getD y []) = thenL (f.getD y []) (f.getD x [])
instance (f : List (List Int)) : Decidable (abel f) := by
  have : abel f ↔ ∀ x ∈ List.range f.length, ∀ y ∈ List.range f.length, thenL (f.getD x []) (f.getD y []) = thenL (f.getD y []) (f.getD x []) := by
    simp only [abel, List.mem_range]
    exact ⟨fun h x hx y hy => h x y hx hy, fun h x y hx hy => h x hx y hy⟩
  exact decidable_of_iff _ this.symm
theorem Tab.inN {t : List (List Int)} (h : Tab t) {x : Nat} (hx : x < t.length) : inN t.length t[x] := fun v hv => (h _ (List.getElem_mem hx)).2 v hv

end Go.Mch
/- The guitar map, back and forth, and the derived rack, of the reference and of the program. -/
namespace Go.Mch

@[simp] theorem dec_True : dec True = true := dec_true trivial
@[simp] theorem dec_False : dec False = false := dec_false id
/-! ### The guitar map -/

end Go.Mch
/- The guitar map taken back, the derived rack, of the reference and of the program. -/
namespace Go.Mch

/-- The guitar map taken back, to i numbers. -/
def gbL (f : List (List Int)) (w : List Int) : Nat → List Int
  | 0 => []
  | i + 1 => gbL f w i ++ [(gbL f w i).foldl (fun x o => ixOf (f.getD o.toNat []) x) (w.getD i 0)]
@[simp] theorem gbL_length (f : List (List Int)) (w : List Int) : ∀ i, (gbL f w i).length = i
  | 0 => rfl
  | i + 1 => by simp [gbL, gbL_length f w i]
end Go.Mch
/- The derived rack, of the reference and of the program. -/
namespace Go.Mch

/-- A value of the derived rack. -/
def raV (f s : List (List Int)) (x y : Nat) : Int := v2 f x (v2 s y (ixOf (f.getD y []) x).toNat).toNat
def raT (f s : List (List Int)) : List (List Int) := tabL f.length (raV f s)
@[simp] theorem raT_length (f s : List (List Int)) : (raT f s).length = f.length := by simp [raT]

/-! ### DerivedRack -/

def S_heldRack (pg : Pg) : Prop := ∀ (o : Option (List (List Int))) (k : Int), smallT (lso o) → 0 ≤ k → k ≤ 2305843009213693952 → heldL (lso o) k ≤ 4611686018427387904 → Call pg 149 [.agg [eT o], I k] [.agg [eT o], I k] (I (if heldL (lso o) k < 0 then -1 else heldL (lso o) k))
end Go.Mch
/- Marks and marks read again of racks and solutions, empty ones among them; what the runs of all laws use. -/
namespace Go.Mch

@[simp] theorem isPrefixOf_cons2 (a b : Nat) (as bs : List Nat) : (a :: as).isPrefixOf (b :: bs) = (a == b && as.isPrefixOf bs) := rfl

theorem S_heldRack.at {pg : Pg} (h : S_heldRack pg) (Y : List (List Int)) (m : Int) (hY : smallT Y) (h1 : 0 ≤ m) (h2 : m ≤ 1152921504606846976) : Call pg 149 [.agg [tb (upT m Y)], I m] [.agg [tb (upT m Y)], I m] (I (kAt m Y Y.length)) := by
  have hk := kAt_le (k := m) hY Y.length (Nat.le_refl _)
  have hl := hY.1
  have := h (some (upT m Y)) m (upT_small hY m) h1 (by omega) (by simp [heldL_all _ _ h1]; omega)
  simp only [lso_some, heldL_all _ _ h1] at this
  rw [if_neg (by omega)] at this
  exact this
def S_heldSol (pg : Pg) : Prop := ∀ (o o' : Option (List (List Int))) (k m : Int), smallT (lso o) → smallT (lso o') → 0 ≤ k → k ≤ 1152921504606846976 → 0 ≤ heldL (lso o) k → heldL (lso o) k ≤ 1152921504606846976 → heldL (lso o') (heldL (lso o) k) = m → 0 ≤ m → Call pg 172 [.agg [eT o, eT o'], I k] [.agg [eT o, eT o'], I k] (I m)
theorem S_heldSol.at {pg : Pg} (h : S_heldSol pg) (X Y : List (List Int)) (m : Int) (hX : smallT X) (hY : smallT Y) (h1 : 0 ≤ m) (h2 : m ≤ 1048576) : Call pg 172 [.agg [tb (upT m X), tb (upT (kAt m X X.length) Y)], I m] [.agg [tb (upT m X), tb (upT (kAt m X X.length) Y)], I m] (I (kAt (kAt m X X.length) Y Y.length)) := by
  have hk := kAt_le (k := m) hX X.length (Nat.le_refl _)
  have hk2 := kAt_le (k := kAt m X X.length) hY Y.length (Nat.le_refl _)
  have hl := hX.1
  have e1 := heldL_all X m h1
  have e2 := heldL_all Y (kAt m X X.length) (by omega)
  exact h (some (upT m X)) (some (upT _ Y)) m _ (upT_small hX m) (upT_small hY _) h1 (by omega) (by simp [e1]; omega) (by simp [e1]; omega) (by simp [e1, e2]) (by omega)
end Go.Mch
/- The runs of the exact laws, by their shapes: sol-bool,int, sol-int,int, sol,int-int,int, sol,ints,int-int,int, sol,ints,ints-bool,int. -/
namespace Go.Mch
/-- The laws of this shape: sol, int to int, int. -/
def lw_pN (a b : Nat) : F where
  np := 2
  rs := [.t 4]
  body :=
    (.seq
    (.region none [ ⟨some 2, none, .box (.t 0)⟩, ⟨some 4, none, .mv (.c (.bool false))⟩] [1, 2]) (.seq
    (.region none [ ⟨some 5, none, .mv (.c (.int .i64 1048576))⟩] [1, 2, 5]) (.seq
    (.region none [ ⟨some 11, none, .ld (some 2) (.t 2)⟩, ⟨some 12, none, .mv (.t 5)⟩, ⟨some 13, none, .call (.f 14) [((.t 11), .r), ((.t 12), .r)]⟩, ⟨some 5, none, .mv (.t 13)⟩] [1, 2, 5]) (.seq (.seq
    (.region none [ ⟨some 14, none, .mv (.t 5)⟩, ⟨some 15, none, .bin .lss (.t 14) (.c (.int .i64 0))⟩] [1, 2, 15]) (.cond (.t 15) (.seq
    (.region none [ ⟨some 4, none, .mv (.c (.bool true))⟩] [4]) .ret) .skip)) (.seq
    (.region none [ ⟨some 17, none, .ld (some 2) (.t 2)⟩, ⟨some 18, none, .call (.f 16) [((.t 17), .r)]⟩, ⟨some 19, none, .mv (.t 1)⟩, ⟨some 20, none, .call (.f a) [((.t 18), .r), ((.t 19), .r)]⟩, ⟨some 16, none, .mv (.t 20)⟩, ⟨some 21, none, .ext (.t 16) 0⟩, ⟨some 22, none, .ext (.t 16) 1⟩, ⟨some 6, none, .mv (.t 21)⟩, ⟨some 7, none, .mv (.t 22)⟩] [1, 2, 6, 7]) (.seq
    (.region none [ ⟨some 23, none, .ld (some 2) (.t 2)⟩, ⟨some 24, none, .call (.f 16) [((.t 23), .r)]⟩, ⟨some 8, none, .alloc [(.slice none 0 0), (.slice none 0 0)]⟩, ⟨none, none, .st (some 2) (.t 8) (.t 24)⟩] [1, 2, 6, 7, 8]) (.seq
    (.region none [ ⟨some 26, none, .ld (some 2) (.t 8)⟩, ⟨some 27, none, .mv (.t 1)⟩, ⟨some 28, none, .call (.f b) [((.t 26), .r), ((.t 27), .r)]⟩, ⟨some 25, none, .mv (.t 28)⟩, ⟨some 29, none, .ext (.t 25) 0⟩, ⟨some 30, none, .ext (.t 25) 1⟩, ⟨some 9, none, .mv (.t 29)⟩, ⟨some 10, none, .mv (.t 30)⟩] [2, 6, 7, 8, 9, 10]) (.seq (.seq
    (.region none [ ⟨some 31, none, .mv (.t 9)⟩, ⟨some 32, none, .mv (.t 6)⟩, ⟨some 33, none, .bin .neq (.t 31) (.t 32)⟩, ⟨some 34, none, .mv (.t 33)⟩, ⟨some 35, (some (34, false)), .mv (.t 10)⟩, ⟨some 36, (some (34, false)), .mv (.t 7)⟩, ⟨some 37, (some (34, false)), .bin .neq (.t 35) (.t 36)⟩, ⟨some 38, none, .pick (.t 34) (.c (.bool true)) (.t 37)⟩] [2, 8, 38]) (.cond (.t 38) (.seq
    (.region none [ ⟨some 4, none, .mv (.c (.bool false))⟩] [4]) .ret) .skip)) (.seq (.seq
    (.region (some [39, 40, 41]) [ ⟨some 39, none, .ld (some 2) (.t 8)⟩, ⟨some 40, none, .ld (some 2) (.t 2)⟩, ⟨some 41, none, .call (.f 16) [((.t 40), .r)]⟩, ⟨some 42, none, .call (.f 18) [((.t 39), .r), ((.t 41), .r)]⟩, ⟨some 43, none, .un .not (.t 42)⟩] [43]) (.cond (.t 43) (.seq
    (.region none [ ⟨some 4, none, .mv (.c (.bool false))⟩] [4]) .ret) .skip)) (.seq
    (.region none [ ⟨some 4, none, .mv (.c (.bool true))⟩] [4]) .ret))))))))))
def S_sh_pN (pg : Pg) (n : Nat) (R0 : List (List Int) → List (List Int) → Int → Int) (R1 : List (List Int) → List (List Int) → Int → Int) : Prop := ∀ (f0 s0 : List (List Int)) (p1 : Int), fits f0 → fits s0 → Call pg n [sol f0 s0, I p1] [sol f0 s0, I p1] (.tup [I (R0 f0 s0 p1), I (R1 f0 s0 p1)])
def S_lw_pN (pg : Pg) (n : Nat) : Prop := ∀ (a0 b0 : Rw (Rw Int)) (p1 : Int), small a0 → small b0 → ∃ args', Call pg n [.agg [rawT a0, rawT b0], I p1] args' (B true)
set_option maxRecDepth 20000 in
theorem t_lw_pN {pg : Pg} {n a b : Nat} {R0 : List (List Int) → List (List Int) → Int → Int} {R1 : List (List Int) → List (List Int) → Int → Int} (hp : pg.fn n = some (lw_pN a b)) (hA : S_sh_pN pg a R0 R1) (hB : S_sh_pN pg b R0 R1)  (h14 : S_szSol pg) (h16 : S_toSol pg) (h18 : S_eqSol pg) : S_lw_pN pg n := by
  intro a0 b0 p1 ha0 hb0
  refine ⟨[.agg [rawT a0, rawT b0], I p1], Call.intro hp rfl (by simp) ?_⟩
  obtain ⟨r, hr1, hr2, hsz⟩ := h14 a0 b0 1048576 ha0 hb0 (by omega) (by omega)
  have hto0 := h16 a0 b0 ha0 hb0
  have hfa0 := fitsT_of ha0
  have hfb0 := fitsT_of hb0
  generalize hF0 : (lst a0).map lst = F0 at *
  generalize hS0 : (lst b0).map lst = S0 at *
  have hc1 := hA F0 S0 p1 hfa0 hfb0
  have hc2 := hB F0 S0 p1 hfa0 hfb0
  generalize R0 F0 S0 p1 = o0 at *
  generalize R1 F0 S0 p1 = o1 at *
  show wp _ _ (lw_pN a b).body (post [.t 4] _ _ _) _
  simp [lw_pN]
  refine callR hsz rfl rfl (fun _ => rfl) ?_
  by_cases hneg : r < 0
  · simp [hneg]
  · simp [hneg]
    refine callR hto0 rfl rfl (fun _ => by simp) ?_
    simp
    refine callR hc1 rfl rfl (fun _ => by simp) ?_
    simp
    refine callR hto0 rfl rfl (fun _ => by simp) ?_
    simp
    refine callR hc2 rfl rfl (fun _ => by simp) ?_
    simp
    refine callR hto0 rfl rfl (fun _ => by simp) ?_
    simp
    refine callR (h18.o F0 S0 F0 S0 hfa0 hfb0) rfl rfl (fun _ => rfl) ?_
    simp
end Go.Mch
/- From a statement's arguments to trees, and from a call that the machine makes good to what a statement asks. -/
namespace Go.Mch

/-- What is let of the caller's memory: all of it is the caller's. -/
abbrev okCl : K → Nat → Prop := fun k _ => k = .old

theorem repL_of {fm : Nat → Nat} {ok : K → Nat → Prop} {w : World} {g : Nat → Value} : ∀ (ts : List T) (i : Nat), (∀ j (h : j < ts.length), rep fm ok w (g (i + j)) ts[j]) → repL fm ok w g i ts
  | [], _, _ => trivial
  | t :: ts, i, h => ⟨h 0 (by simp), repL_of ts (i + 1) fun j hj => by
      have := h (j + 1) (by simpa using hj)
      simpa [show i + 1 + j = i + (j + 1) from by omega] using this⟩

/-- A call with the caller's arguments. -/
theorem run_true {P : Program} {fm : Nat → Nat} {f : Nat} {args args' : List T} (h : Pact P fm f args args' (B true)) (hno : T.noOwnL args = true) {w : World} {vs : Array Value} (hs : vs.size = args.length)
    (hrep : ∀ s t, args[s]? = some t → rep fm okCl w (vs.getD s undef) t) :
    Calls P (fm f) vs w fun e w' => e = .returned (.bool true) ∧ Keeps (fun _ => False) w w' := by
  have hA : ∀ b, (fun _ => False : Nat → Prop) b → b < w.heap.size := fun _ h => h.elim
  have hc : ∀ s t, init args s = some (.val t) → ∀ b, cnt w (vs.getD s undef) b t = 0 := by
    intro s t ht b
    obtain ⟨u, h1, h2⟩ := init_some ht
    cases h2
    exact cnt_noOwn _ _ _ _ (noOwnL_get hno h1)
  have hR : R (cx0 fm w (fun _ => False) (fun _ => False) hA) (init args) (fun s => vs.getD s undef) w := by
    refine ⟨Keeps.refl _ _, ⟨fun _ => 0, fun s t ht b => ?_⟩, fun s x hx => ?_⟩
    · rw [hc s t ht b]; simp
    · obtain ⟨t, h1, rfl⟩ := init_some hx
      refine .inl ⟨t, rfl, rep_ok (fun k b _ _ hk => ?_) t _ (fun b hb _ _ => ?_) (hrep s t h1)⟩
      · cases hk
        refine ⟨id, by simp, by simp, fun _ => ⟨?_, id⟩⟩
        rintro ⟨s', t', h3, h4⟩
        rw [hc s' t' h3 b] at h4
        omega
      · have h5 := hc s t hx b
        omega
  refine (h.2 w vs _ _ hA hs (fun _ _ hm => hm) hR).mono fun e w' hb => ?_
  cases e with
  | returned v =>
    obtain ⟨q, e', vl', _, h2, _, h4, _⟩ := hb
    refine ⟨?_, h2.keeps⟩
    have h5 := h2.rep q (.val (B true)) (by simp [Env.add])
    rcases h5 with ⟨t, h6, h7⟩ | h7
    · cases h6
      simp only [rep] at h7
      rw [← h4, h7.1]
    · simp only [arep, rep] at h7
      rw [← h4, h7.2.1]
  | _ => exact hb.elim

theorem Keeps.but {w w' : World} (h : Keeps (fun _ => False) w w') (may : MemPlace → Prop) : w.keptBut w' may := by
  refine ⟨h.os, h.output, fun i hi => ?_⟩
  rw [h.block i hi id]
  exact (World.keptBut_refl w may).2.2 i hi

theorem Keeps.at {w w' : World} (h : Keeps (fun _ => False) w w') {p : MemPlace} (hp : p.block < w.heap.size) : w.sameAt w' p := by
  cases p with
  | cell b off => exact World.cell?_of_block (a := ⟨b, off, none⟩) (h.block b hp id)
  | map b => exact h.block b hp id

/-! ### What is read is a tree -/

section
variable {H : Type} {enc : TypeId × Value → H} {P : Program} {w : World} {base : Nat} {sp : Nat → Bool} {held : Bool} {fm : Nat → Nat}

theorem each {α : Type} {Q : Nat → α → Prop} : ∀ (n : Nat), (∀ i, i < n → ∃ z, Q i z) → ∃ zs : List α, zs.length = n ∧ ∀ i (h : i < zs.length), Q i zs[i]
  | 0, _ => ⟨[], rfl, fun i h => by simp at h⟩
  | n + 1, h => by
    obtain ⟨zs, h1, h2⟩ := each n fun i hi => h i (by omega)
    obtain ⟨z, hz⟩ := h n (by omega)
    refine ⟨zs ++ [z], by simp [h1], fun i hi => ?_⟩
    rcases Nat.lt_or_ge i zs.length with hl | hl
    · rw [List.getElem_append_left hl]; exact h2 i hl
    · have : i = n := by simp at hi; omega
      subst this
      rw [List.getElem_append_right hl]
      simp [h1, hz]

/-- A slice, as it is read. -/
theorem open_raw {t e : TypeId} {fuel : Nat} {cs : List Value} {x : DataW H × List MemPlace} (ht : P.underlying t = some (.slice e)) (hc : P.cellsOf e = 1)
    (h : DataW.trod enc P w base (fun _ => true) held fuel t cs = some x) :
    (cs = [.slice none 0 0] ∧ x.1 = .nil) ∨ (∃ a, cs = [.slice (some a) 0 0] ∧ x.1 = .slice [] []) ∨
    ∃ b off len cap ds rest n, cs = [.slice (some ⟨b, off, none⟩) len cap] ∧ len ≤ cap ∧ x.1 = .slice ds rest ∧ ds.length = len ∧
      ∀ i, i < len → ∃ c y, w.cell? ⟨b, off + i, none⟩ = some c ∧ DataW.trod enc P w base (fun _ => true) held n e [c] = some y ∧ ds[i]? = some y.1 := by
  rcases DataW.trod_slice ht h with ⟨h1, rfl⟩ | ⟨a, len, cap, elems, rest, n, _, rfl, rfl, hb, hl, _, hlen, hel, hsp, _⟩
  · exact .inl ⟨h1, rfl⟩
  right
  obtain ⟨hr1, hr2⟩ := hsp rfl
  have cell : ∀ a' y, (w.cells? base a' (P.cellsOf e)).bind (DataW.trod enc P w base (fun _ => true) held n e) = some y → ∃ c, w.cell? a' = some c ∧ DataW.trod enc P w base (fun _ => true) held n e [c] = some y := by
    intro a' y hy
    rw [hc, Option.bind_eq_some_iff] at hy
    obtain ⟨c1, h1, h2⟩ := hy
    have h3 := (World.cells?_some h1).2.1
    match c1, h3 with
    | [c], _ => exact ⟨c, Go.ChangeShapes.cell_of_cells?_one h1, h2⟩
  by_cases hz : cap = 0
  · subst hz
    have h0 : len = 0 := by omega
    subst h0
    have h1 : elems = [] := List.eq_nil_of_length_eq_zero hlen
    have h2 : rest = [] := List.eq_nil_of_length_eq_zero (by simpa using hr1)
    subst h1 h2
    exact .inl ⟨a, rfl, rfl⟩
  right
  have hspot : a.spot = none := by
    by_cases h0 : 0 < len
    · have h1 : 0 < elems.length := by omega
      have := hel 0 h0
      rw [List.getElem?_eq_getElem h1] at this
      obtain ⟨c, hc1, _⟩ := cell _ _ this
      simp only [Nat.zero_mul] at hc1
      have := World.cell?_spot hc1
      simpa [Addr.add] using this
    · have h1 : 0 < rest.length := by omega
      have := hr2 0 (by omega)
      rw [List.getElem?_eq_getElem h1] at this
      obtain ⟨c, hc1, _⟩ := cell _ _ this
      have h2 := World.cell?_spot hc1
      simpa [Addr.add, show len = 0 from by omega] using h2
  obtain ⟨b, off, spot⟩ := a
  simp only at hspot
  subst hspot
  refine ⟨b, off, len, cap, elems.map (·.1), rest.map (·.1), n, rfl, hl, rfl, by simpa using hlen, fun i hi => ?_⟩
  have h1 : i < elems.length := by omega
  have h2 := hel i hi
  rw [List.getElem?_eq_getElem h1] at h2
  obtain ⟨c, h3, h4⟩ := cell _ _ h2
  refine ⟨c, elems[i], ?_, h4, by simp [h1]⟩
  rw [hc, Nat.mul_one] at h3
  rw [← Go.WideShapes.add_plain]; exact h3

theorem rep_slice {b off len cap : Nat} {us : List T} (hlen : us.length = len) (hl : len ≤ cap) (hno : T.noOwnL us = true) (h : ∀ i (hi : i < us.length), ∃ c, w.cell? ⟨b, off + i, none⟩ = some c ∧ rep fm okCl w c us[i]) :
    rep fm okCl w (.slice (some ⟨b, off, none⟩) len cap) (.mem .old (some 1) us) := by
  rw [rep_mem]
  refine ⟨⟨⟨len, rfl, by simp [hlen], by simp, hl⟩, fun i hi => ?_⟩, fun _ => rfl, by simp, fun _ => hno, ?_⟩
  · obtain ⟨c, hc, _⟩ := h i hi
    simp only [blk, ofs]
    rw [hc]; rfl
  · refine repL_of us 0 fun j hj => ?_
    obtain ⟨c, hc, hr⟩ := h j hj
    simp only [kid, Nat.zero_add]
    rw [hc]
    exact hr

/-- How much a datum holds. -/
structure Bulk (m : DataW H → Nat) : Prop where
  slice : ∀ es rest, es.length ≤ m (.slice es rest)
  elem : ∀ es rest d, d ∈ es → m d ≤ m (.slice es rest)
  part : ∀ ps d, d ∈ ps → m d ≤ m (.agg ps)

theorem open_rawI {m : DataW H → Nat} (hm : Bulk m) {t e : TypeId} {fuel : Nat} {cs : List Value} {x : DataW H × List MemPlace} (ht : P.underlying t = some (.slice e)) (he : P.underlying e = some (.int .i64)) (hc : P.cellsOf e = 1)
    (h : DataW.trod enc P w base (fun _ => true) held fuel t cs = some x) : ∃ v o, cs = [v] ∧ rep fm okCl w v (rawI o) ∧ (lst o).length ≤ m x.1 ∧ ∀ n ∈ lst o, (Lit.int .i64 n).wf = true := by
  rcases open_raw ht hc h with ⟨rfl, hx⟩ | ⟨a, rfl, hx⟩ | ⟨b, off, len, cap, ds, rest, n, rfl, hl, hx, hlen, hel⟩
  · exact ⟨_, .no, rfl, ⟨rfl, rfl⟩, by simp, by simp⟩
  · exact ⟨_, .odd a, rfl, ⟨rfl, rfl⟩, by simp, by simp⟩
  · obtain ⟨zs, h1, h2⟩ := each (Q := fun i (z : Int) => w.cell? ⟨b, off + i, none⟩ = some (.int .i64 z) ∧ (Lit.int .i64 z).wf = true) len (fun i hi => by
      obtain ⟨c, y, h3, h4, _⟩ := hel i hi
      obtain ⟨z, h5, _, h6⟩ := DataW.trod_int he h4
      simp only [List.cons.injEq, and_true] at h5
      exact ⟨z, by rw [h3, h5], h6⟩)
    refine ⟨_, .of zs, rfl, rep_slice (by simp [h1]) hl (by simp) (fun i hi => ?_), ?_, fun n hn => ?_⟩
    · have hi' : i < zs.length := by simpa using hi
      exact ⟨_, (h2 i hi').1, by simp [rep, scal]⟩
    · rw [hx]
      exact Nat.le_trans (by simp [h1, hlen]) (hm.slice ds rest)
    · obtain ⟨i, hi, rfl⟩ := List.getElem_of_mem hn
      exact (h2 i hi).2

theorem open_rawT {m : DataW H → Nat} (hm : Bulk m) {t r e : TypeId} {fuel : Nat} {cs : List Value} {x : DataW H × List MemPlace} (ht : P.underlying t = some (.slice r)) (hr : P.underlying r = some (.slice e)) (he : P.underlying e = some (.int .i64)) (hcr : P.cellsOf r = 1) (hc : P.cellsOf e = 1)
    (h : DataW.trod enc P w base (fun _ => true) held fuel t cs = some x) : ∃ v o, cs = [v] ∧ rep fm okCl w v (rawT o) ∧ (lst o).length ≤ m x.1 ∧ ∀ q ∈ lst o, (lst q).length ≤ m x.1 ∧ ∀ n ∈ lst q, (Lit.int .i64 n).wf = true := by
  rcases open_raw ht hcr h with ⟨rfl, hx⟩ | ⟨a, rfl, hx⟩ | ⟨b, off, len, cap, ds, rest, n, rfl, hl, hx, hlen, hel⟩
  · exact ⟨_, .no, rfl, ⟨rfl, rfl⟩, by simp, by simp⟩
  · exact ⟨_, .odd a, rfl, ⟨rfl, rfl⟩, by simp, by simp⟩
  · obtain ⟨zs, h1, h2⟩ := each (Q := fun i (z : Rw Int) => ∃ c, w.cell? ⟨b, off + i, none⟩ = some c ∧ rep fm okCl w c (rawI z) ∧ (lst z).length ≤ m x.1 ∧ ∀ n ∈ lst z, (Lit.int .i64 n).wf = true) len (fun i hi => by
      obtain ⟨c, y, h3, h4, h5⟩ := hel i hi
      obtain ⟨v, o, h6, h7, h8, h9⟩ := open_rawI (fm := fm) hm hr he hc h4
      simp only [List.cons.injEq, and_true] at h6
      refine ⟨o, c, h3, h6 ▸ h7, Nat.le_trans h8 ?_, h9⟩
      rw [hx]
      exact hm.elem ds rest _ (List.mem_of_getElem? h5))
    refine ⟨_, .of zs, rfl, rep_slice (by simp [h1]) hl (by simp) (fun i hi => ?_), ?_, fun n hn => ?_⟩
    · have hi' : i < zs.length := by simpa using hi
      obtain ⟨c, h3, h4, _⟩ := h2 i hi'
      exact ⟨c, h3, by simpa using h4⟩
    · rw [hx]
      exact Nat.le_trans (by simp [h1, hlen]) (hm.slice ds rest)
    · obtain ⟨i, hi, rfl⟩ := List.getElem_of_mem hn
      obtain ⟨c, _, _, h3⟩ := h2 i hi
      exact h3

/-- An argument that is a number. -/
theorem open_argN {rc : Reach} {b0 : Nat} {t : TypeId} {v : Value} {d : DataW H} {ps : List MemPlace} (ht : P.underlying t = some (.int .i64)) (hval : Value.okWide P w rc b0 t v)
    (h : DataW.Trod enc P w base (fun _ => true) held t v d ps) : ∃ n, rep fm okCl w v (I n) ∧ (Lit.int .i64 n).wf = true := by
  obtain ⟨n, rfl, _, _, hw⟩ := Go.ChangeShapes.open_int ht hval h
  exact ⟨n, ⟨rfl, rfl⟩, hw⟩

/-- A structure of two tables. -/
theorem open_sol {m : DataW H → Nat} (hm : Bulk m) {rc : Reach} {b0 : Nat} {t r e : TypeId} {f0 f1 : Field} {v : Value} {d : DataW H} {ps : List MemPlace} (ht : P.underlying t = some (.struct #[f0, f1])) (h0 : P.underlying f0.type = some (.slice r)) (h1 : P.underlying f1.type = some (.slice r)) (hr : P.underlying r = some (.slice e)) (he : P.underlying e = some (.int .i64))
    (hn : P.cellsOf t = 2) (hn0 : P.cellsOf f0.type = 1) (hn1 : P.cellsOf f1.type = 1) (hcr : P.cellsOf r = 1) (hc : P.cellsOf e = 1) (hof : f0.offset = 0) (hof1 : f1.offset = 1)
    (hval : Value.okWide P w rc b0 t v) (h : DataW.Trod enc P w base (fun _ => true) held t v d ps) :
    ∃ a b, rep fm okCl w v (.agg [rawT a, rawT b]) ∧ ((lst a).length ≤ m d ∧ ∀ q ∈ lst a, (lst q).length ≤ m d ∧ ∀ n ∈ lst q, (Lit.int .i64 n).wf = true) ∧ ((lst b).length ≤ m d ∧ ∀ q ∈ lst b, (lst q).length ≤ m d ∧ ∀ n ∈ lst q, (Lit.int .i64 n).wf = true) := by
  obtain ⟨cs, rfl, hs⟩ := Go.WideShapes.okWide_struct ht hval
  obtain ⟨fuel, h⟩ := h
  obtain ⟨y0, y1, n, hx, hl, g0, g1⟩ := Go.ChangeShapes.trod_struct2 ht h
  simp only [Prod.mk.injEq] at hx
  obtain ⟨rfl, rfl⟩ := hx
  rw [hn] at hs
  obtain ⟨c0, c1, rfl⟩ : ∃ c0 c1, cs = #[c0, c1] := by
    match cs, hs with
    | ⟨[c0, c1]⟩, _ => exact ⟨c0, c1, rfl⟩
  simp only [Value.cells, hof, hn0, List.drop_zero, List.take_succ_cons, List.take_zero] at g0
  simp only [Value.cells, hof1, hn1, List.drop_succ_cons, List.drop_zero, List.take_succ_cons, List.take_zero] at g1
  obtain ⟨v0, a, e1, e2, e3, e4⟩ := open_rawT (fm := fm) hm h0 hr he hcr hc g0
  obtain ⟨v1, b, i1, i2, i3, i4⟩ := open_rawT (fm := fm) hm h1 hr he hcr hc g1
  simp only [List.cons.injEq, and_true] at e1 i1
  subst e1 i1
  have hp : m y0.1 ≤ m (.agg [y0.1, y1.1]) := hm.part _ _ (by simp)
  have hp1 : m y1.1 ≤ m (.agg [y0.1, y1.1]) := hm.part _ _ (by simp)
  exact ⟨a, b, ⟨⟨_, rfl, rfl⟩, by simpa [kid] using e2, by simpa [kid] using i2, trivial⟩, ⟨by omega, fun q hq => ⟨Nat.le_trans (e4 q hq).1 hp, (e4 q hq).2⟩⟩, ⟨by omega, fun q hq => ⟨Nat.le_trans (i4 q hq).1 hp1, (i4 q hq).2⟩⟩⟩

/-! ### What a statement asks -/

theorem all_stays {W W' : World} {sp' : Nat → Bool} (hl : laidOutB P = true) : ∀ {ts : List TypeId} {vs : List Value} {ds : List (DataW H)} {ps : List MemPlace}, (∀ t ∈ ts, P.readableRec t = true ∧ t < P.types.size) →
    DataW.TrodAll enc P W 0 (fun _ => true) true ts vs ds ps → (∀ p ∈ ps, W.sameAt W' p) → (∀ p ∈ ps, sp' p.block = true) → DataW.TrodAll enc P W' 0 sp' true ts vs ds ps
  | [], vs, ds, ps, _, h, _, _ => by
    obtain ⟨rfl, rfl, rfl⟩ := Go.ChangeShapes.trodAll_nil h
    rfl
  | t :: ts, vs, ds, ps, ht, h, h1, h2 => by
    obtain ⟨v, vs', d, ds', p, q, rfl, rfl, rfl, h3, h4⟩ := Go.ChangeShapes.trodAll_cons h
    exact ⟨p, q, Go.WideElems.Trod_stays hl (ht t (by simp)).1 (ht t (by simp)).2 h3 (fun x hx => h1 x (by simp [hx])) (fun x hx => h2 x (by simp [hx])),
      all_stays hl (fun t' h' => ht t' (by simp [h'])) h4 (fun x hx => h1 x (by simp [hx])) (fun x hx => h2 x (by simp [hx])), rfl⟩

/-- The call returned true, and what was there is as it was. -/
theorem post_true {f : Func} {s : ChangeSpec} {W W' : World} {args : Array Value} {ds gs : List (DataW H)} {before : List MemPlace} {rt : TypeId} (hW : DataW.Whole enc P f.params.toList s.vars false W args.toList ds gs before) (hK : Keeps (fun _ => False) W W')
    (hv : s.vars = []) (hres : f.resultTypes = #[rt]) (hrt : P.underlying rt = some .bool) (hl : laidOutB P = true) (hr : ∀ t ∈ f.params.toList, P.readableRec t = true ∧ t < P.types.size)
    (hfn : s.fn H ds = { results := [.lit (.bool true)], args := ds }) : s.post enc P f false true false false W args (.bool true) W' := by
  have hlt := hW.lt
  have hW' := hW
  obtain ⟨p, q, hA, hV, rfl, _, _⟩ := hW
  rw [hv] at hV
  have hg : gs = [] ∧ q = [] := by
    cases gs with
    | nil => exact ⟨rfl, by simpa [DataW.TrodVars] using hV⟩
    | cons d ds => simp [DataW.TrodVars] at hV
  obtain ⟨rfl, rfl⟩ := hg
  simp only [List.append_nil] at hlt
  refine ⟨ds, [], p ++ [], [], p, [], hW', ?_, ?_, ?_, hK.but _, by simp⟩
  · rw [List.append_nil, hfn, hres]
    refine ⟨[], [], ⟨1, ?_⟩, rfl, rfl⟩
    simp [DataW.trod, hrt, Value.cells]
  · rw [List.append_nil, hfn]
    exact all_stays hl hr hA (fun x hx => hK.at (hlt x hx)) (fun x hx => by simpa using hlt x hx)
  · rw [List.append_nil, hfn, hv]
    rfl
end
end Go.Mch
/- Orbits of tuples, found by going on from each: in plain Lean. -/
namespace Go.Mch

/-- A number that has not been seen is seen and put into the queue. -/
def visW (st : List Bool × List Nat) (w : Nat) : List Bool × List Nat := if st.1.getD w false then st else (st.1.set w true, st.2 ++ [w])
def left (st : List Bool × List Nat) : Nat := st.1.count false + st.2.length
@[simp] theorem visW_length (st : List Bool × List Nat) (w : Nat) : (visW st w).1.length = st.1.length := by unfold visW; split <;> simp
theorem visL_length (ws : List Nat) (st : List Bool × List Nat) : (ws.foldl visW st).1.length = st.1.length := by
  induction ws generalizing st with
  | nil => rfl
  | cons w ws ih => simp [ih]
theorem count_set {l : List Bool} : ∀ {w : Nat}, w < l.length → l.getD w false = false → (l.set w true).count false + 1 = l.count false := by
  induction l with
  | nil => intro w h; simp at h
  | cons b l ih =>
    intro w h h2
    cases w with
    | zero => simp at h2; subst h2; simp
    | succ w =>
      have := ih (w := w) (by simpa using h) (by simpa using h2)
      cases b <;> simp <;> omega
theorem visW_left {st : List Bool × List Nat} {w : Nat} (h : w < st.1.length) : left (visW st w) = left st := by
  unfold visW
  split
  · rfl
  · rename_i h2
    have := count_set h (by simpa using h2)
    simp only [left, List.length_append, List.length_cons, List.length_nil]
    omega
theorem visL_left {ws : List Nat} : ∀ {st : List Bool × List Nat}, (∀ w ∈ ws, w < st.1.length) → left (ws.foldl visW st) = left st := by
  induction ws with
  | nil => intro st _; rfl
  | cons w ws ih =>
    intro st h
    simp only [List.foldl_cons]
    rw [ih (fun v hv => by simp; exact h v (by simp [hv])), visW_left (h w (by simp))]
theorem visL_rng {N : Nat} {ws : List Nat} : ∀ {st : List Bool × List Nat}, (∀ w ∈ ws, w < N) → (∀ w ∈ st.2, w < N) → ∀ w ∈ (ws.foldl visW st).2, w < N := by
  induction ws with
  | nil => intro st _ h; exact h
  | cons w ws ih =>
    intro st h h2
    simp only [List.foldl_cons]
    refine ih (fun v hv => h v (by simp [hv])) ?_
    unfold visW
    split
    · exact h2
    · intro v hv
      rcases List.mem_append.1 hv with h3 | h3
      · exact h2 v h3
      · simp only [List.mem_singleton] at h3; subst h3; exact h v (by simp)

/-- What has been seen when the queue is empty. -/
def bfsF (nb : Nat → List Nat) : Nat → List Bool → List Nat → List Bool
  | 0, s, _ => s
  | _ + 1, s, [] => s
  | f + 1, s, v :: q => bfsF nb f ((nb v).foldl visW (s, q)).1 ((nb v).foldl visW (s, q)).2
/-- What has been seen, and how many orbits there were, when k starts are done. -/
def orbC (nb : Nat → List Nat) (N : Nat) : Nat → List Bool × Int
  | 0 => (List.replicate N false, 0)
  | k + 1 => if (orbC nb N k).1.getD k false then orbC nb N k else (bfsF nb (N + 1) ((orbC nb N k).1.set k true) [k], (orbC nb N k).2 + 1)
theorem bfsF_length (nb : Nat → List Nat) : ∀ (f : Nat) (s : List Bool) (q : List Nat), (bfsF nb f s q).length = s.length
  | 0, _, _ => rfl
  | _ + 1, _, [] => rfl
  | f + 1, s, v :: q => by rw [bfsF, bfsF_length nb f, visL_length]
@[simp] theorem orbC_length (nb : Nat → List Nat) (N k : Nat) : (orbC nb N k).1.length = N := by
  induction k with
  | zero => simp [orbC]
  | succ k ih => unfold orbC; split <;> simp [ih, bfsF_length]
theorem orbC_cnt (nb : Nat → List Nat) (N k : Nat) : 0 ≤ (orbC nb N k).2 ∧ (orbC nb N k).2 ≤ k := by
  induction k with
  | zero => simp [orbC]
  | succ k ih => unfold orbC; split <;> simp <;> omega

/-! ### Tuples and their numbers -/

def digT (n m v : Nat) : List Int := (List.range m).map fun j => ((v / n ^ (m - 1 - j) % n : Nat) : Int)
@[simp] theorem digT_length (n m v : Nat) : (digT n m v).length = m := by simp [digT]
theorem digT_rng {n m v : Nat} (hn : 0 < n) : inN n (digT n m v) := fun x hx => by
  simp only [digT, List.mem_map, List.mem_range] at hx
  obtain ⟨j, _, rfl⟩ := hx
  have := Nat.mod_lt (v / n ^ (m - 1 - j)) hn
  omega
def numT (n : Nat) (w : List Int) : Int := w.foldl (fun a x => a * n + x) 0
theorem numT_snoc (n : Nat) (w : List Int) (x : Int) : numT n (w ++ [x]) = numT n w * n + x := by simp [numT]
theorem numT_rng {n : Nat} {w : List Int} (hw : inN n w) : ∀ k, k ≤ w.length → 0 ≤ numT n (w.take k) ∧ numT n (w.take k) < ((n ^ k : Nat) : Int) := by
  intro k
  induction k with
  | zero => intro _; simp [numT]
  | succ k ih =>
    intro hk
    obtain ⟨h1, h2⟩ := ih (by omega)
    have hx := hw _ (List.getElem_mem (show k < w.length by omega))
    rw [List.take_succ_eq_append_getElem (by omega), numT_snoc, Nat.pow_succ, Int.natCast_mul]
    constructor
    · have := Int.mul_nonneg h1 (show (0 : Int) ≤ n by omega)
      omega
    · have h3 : numT n (w.take k) + 1 ≤ ((n ^ k : Nat) : Int) := by omega
      have := Int.mul_le_mul_of_nonneg_right h3 (show (0 : Int) ≤ n by omega)
      rw [Int.add_mul, Int.one_mul] at this
      omega
/-- The numbers of the tuples that one move leads to. -/
def nbT (f s : List (List Int)) (m v : Nat) : List Nat := (List.range (m - 1)).map fun i => (numT f.length (dW f s (digT f.length m v) i)).toNat
theorem nbT_get {f s : List (List Int)} {m v i : Nat} (hi : i < (nbT f s m v).length) : (nbT f s m v)[i] = (numT f.length (dW f s (digT f.length m v) i)).toNat := by simp [nbT]
@[simp] theorem nbT_length (f s : List (List Int)) (m v : Nat) : (nbT f s m v).length = m - 1 := by simp [nbT]
theorem num_mv {f s : List (List Int)} (h : PM f s) {m v : Nat} (i : Nat) : 0 ≤ numT f.length (dW f s (digT f.length m v) i) ∧ numT f.length (dW f s (digT f.length m v) i) < ((f.length ^ m : Nat) : Int) := by
  have := numT_rng (dW_in h (digT_rng (n := f.length) (m := m) (v := v) h.pos) i) m (by simp [dW_length])
  rwa [List.take_of_length_le (by simp [dW_length])] at this
theorem nbT_rng {f s : List (List Int)} (h : PM f s) {m v : Nat} : ∀ w ∈ nbT f s m v, w < f.length ^ m := fun w hw => by
  simp only [nbT, List.mem_map, List.mem_range] at hw
  obtain ⟨i, _, rfl⟩ := hw
  have := num_mv h (m := m) (v := v) i
  omega

def S_digS (pg : Pg) : Prop := ∀ n m v : Nat, 0 < n → n ≤ 1048576 → m ≤ 1048576 → v ≤ 1048576 → Call pg 260 [I v, I n, I m] [I v, I n, I m] (.mem .own (some 1) ((digT n m v).map I))
/-- The last c digits. -/
def digP (n m v c : Nat) : List Int := (List.range m).map fun j => if m - c ≤ j then ((v / n ^ (m - 1 - j) % n : Nat) : Int) else 0
@[simp] theorem digP_length (n m v c : Nat) : (digP n m v c).length = m := by simp [digP]
theorem digP_zero (n m v : Nat) : digP n m v 0 = List.replicate m 0 := by
  apply List.ext_getElem
  · simp
  · intro i h1 h2
    have : ¬ m ≤ i := by simpa using h1
    simp [digP, this]
theorem digP_all (n m v : Nat) : digP n m v m = digT n m v := by
  apply List.map_congr_left
  intro j _
  rw [if_pos (by omega)]
theorem digP_succ {n m v c : Nat} (hc : c < m) : (digP n m v c).set (m - 1 - c) ((v / n ^ c % n : Nat) : Int) = digP n m v (c + 1) := by
  apply List.ext_getElem
  · simp
  · intro i h1 h2
    simp only [digP_length] at h2
    simp only [List.getElem_set, digP, List.getElem_map, List.getElem_range]
    by_cases hi : m - 1 - c = i
    · rw [if_pos hi, if_pos (by omega), show m - 1 - i = c from by omega]
    · rw [if_neg hi]
      by_cases h3 : m - c ≤ i
      · rw [if_pos h3, if_pos (by omega)]
      · rw [if_neg h3, if_neg (by omega)]
theorem div_le' (v c n : Nat) : v / n ^ c ≤ v := Nat.div_le_self _ _
theorem t_digits {pg : Pg} (hp : pg.fn 260 = some c_spec_l06Digits) : S_digS pg := by
  intro n m v hn hn2 hm hv
  refine Call.intro hp rfl (by simp) ?_
  show wp _ _ c_spec_l06Digits.body (post [.t 6] _ _ _) _
  have hn1 : ¬ n = 0 := by omega
  simp [c_spec_l06Digits]
  refine ⟨by unfold roomy; omega, by omega, ?_⟩
  refine wpLoop_count (fun c e => e = fr [(0, some (.val (I ((v / n ^ c : Nat) : Int)))), (1, some (.val (I n))), (7, some (.val (.mem .own (some 1) ((digP n m v c).map I)))), (8, some (.val (I ((m : Int) - 1 - c))))]) m ?_ ?_ 0 _ (by omega) ?_
  · rintro c e hc rfl
    have hj : (m : Int) - 1 - c = ((m - 1 - c : Nat) : Int) := by omega
    have hs := digP_succ (n := n) (v := v) hc
    have hd := div_le' v c n
    have hd2 := div_le' v (c + 1) n
    have hmod : ((v / n ^ c : Nat) : Int).tmod n = ((v / n ^ c % n : Nat) : Int) := by
      rw [Int.tmod_eq_emod_of_nonneg (Int.natCast_nonneg _)]; exact (Int.natCast_emod ..).symm
    have hdiv : ((v / n ^ c : Nat) : Int).tdiv n = ((v / n ^ (c + 1) : Nat) : Int) := by
      rw [Int.tdiv_eq_ediv_of_nonneg (Int.natCast_nonneg _), Nat.pow_succ, ← Nat.div_div_eq_div_mul]; exact (Int.natCast_ediv ..).symm
    rw [hj]
    rw [show (m : Int) - 1 - ((c + 1 : Nat) : Int) = ((m - 1 - c : Nat) : Int) - 1 from by omega, ← hs]
    have hjm : m - 1 - c < m := by omega
    generalize m - 1 - c = j at *
    generalize v / n ^ c % n = a at *
    generalize v / n ^ (c + 1) = b at *
    generalize v / n ^ c = g at *
    simp [hn1, hmod, hdiv, hjm]
    omega
  · rintro e rfl
    have hneg : ¬ ((m : Int) ≤ (m : Int) - 1) := by omega
    simp [digP_all, hneg]
  · simp [digP_zero]

def S_digI (pg : Pg) : Prop := ∀ n m v : Nat, 0 < n → n ≤ 1048576 → m ≤ 1048576 → v ≤ 1048576 → Call pg 262 [I n, I m, I v] [I n, I m, I v] (.mem .own (some 1) ((digT n m v).map I))
theorem t_tupleOf {pg : Pg} (hp : pg.fn 262 = some c_impl_tupleOf) : S_digI pg := by
  intro n m v hn hn2 hm hv
  refine Call.intro hp rfl (by simp) ?_
  show wp _ _ c_impl_tupleOf.body (post [.t 6] _ _ _) _
  have hn1 : ¬ n = 0 := by omega
  simp [c_impl_tupleOf]
  refine ⟨by unfold roomy; omega, by omega, ?_⟩
  refine wpLoop_count (fun c e => e = fr [(0, some (.val (I n))), (2, some (.val (I ((v / n ^ c : Nat) : Int)))), (7, some (.val (.mem .own (some 1) ((digP n m v c).map I)))), (8, some (.val (I ((m : Int) - 1 - c))))]) m ?_ ?_ 0 _ (by omega) ?_
  · rintro c e hc rfl
    have hj : (m : Int) - 1 - c = ((m - 1 - c : Nat) : Int) := by omega
    have hs := digP_succ (n := n) (v := v) hc
    have hd := div_le' v c n
    have hd2 := div_le' v (c + 1) n
    have hmod : ((v / n ^ c : Nat) : Int).tmod n = ((v / n ^ c % n : Nat) : Int) := by
      rw [Int.tmod_eq_emod_of_nonneg (Int.natCast_nonneg _)]; exact (Int.natCast_emod ..).symm
    have hdiv : ((v / n ^ c : Nat) : Int).tdiv n = ((v / n ^ (c + 1) : Nat) : Int) := by
      rw [Int.tdiv_eq_ediv_of_nonneg (Int.natCast_nonneg _), Nat.pow_succ, ← Nat.div_div_eq_div_mul]; exact (Int.natCast_ediv ..).symm
    rw [hj]
    rw [show (m : Int) - 1 - ((c + 1 : Nat) : Int) = ((m - 1 - c : Nat) : Int) - 1 from by omega, ← hs]
    have hjm : m - 1 - c < m := by omega
    generalize m - 1 - c = j at *
    generalize v / n ^ c % n = a at *
    generalize v / n ^ (c + 1) = b at *
    generalize v / n ^ c = g at *
    simp [hn1, hmod, hdiv, hjm]
    omega
  · rintro e rfl
    have hneg : ¬ ((m : Int) ≤ (m : Int) - 1) := by omega
    simp [digP_all, hneg]
  · simp [digP_zero]

def S_numS (pg : Pg) : Prop := ∀ (n : Nat) (w : List Int), inN n w → n ≤ 1048576 → w.length ≤ 1048576 → n ^ w.length ≤ 1048576 → Call pg 261 [ix w, I n] [ix w, I n] (I (numT n w))
def S_numI (pg : Pg) : Prop := ∀ (n : Nat) (w : List Int), inN n w → n ≤ 1048576 → w.length ≤ 1048576 → n ^ w.length ≤ 1048576 → Call pg 263 [I n, ix w] [I n, ix w] (I (numT n w))
theorem pow_le_len {n : Nat} {w : List Int} (hw : inN n w) (h : n ^ w.length ≤ 1048576) {k : Nat} (hk : k ≤ w.length) : n ^ k ≤ 1048576 := by
  rcases Nat.eq_zero_or_pos n with h0 | h0
  · subst h0
    cases k with
    | zero => simp
    | succ k => simp
  · exact Nat.le_trans (Nat.pow_le_pow_right h0 hk) h
theorem num_step {n : Nat} {w : List Int} (hw : inN n w) (hn : n ≤ 1048576) (h : n ^ w.length ≤ 1048576) {k : Nat} (hk : k < w.length) :
    0 ≤ numT n (w.take k) * n ∧ numT n (w.take k) * n ≤ 1099511627776 ∧ 0 ≤ w[k] ∧ w[k] < n ∧ numT n (w.take (k + 1)) = numT n (w.take k) * n + w[k] := by
  obtain ⟨h1, h2⟩ := numT_rng hw k (by omega)
  have h3 := pow_le_len hw h (show k ≤ w.length by omega)
  have hx := hw _ (List.getElem_mem hk)
  refine ⟨Int.mul_nonneg h1 (by omega), ?_, hx.1, hx.2, by rw [List.take_succ_eq_append_getElem hk, numT_snoc]⟩
  have : numT n (w.take k) * n ≤ 1048576 * 1048576 := Int.mul_le_mul (by omega) (by omega) (by omega) (by omega)
  omega
theorem t_number {pg : Pg} (hp : pg.fn 261 = some c_spec_l06Number) : S_numS pg := by
  intro n w hw hn hl h
  refine Call.intro hp rfl (by simp) ?_
  show wp _ _ c_spec_l06Number.body (post [.t 4] _ _ _) _
  simp [c_spec_l06Number]
  refine wpLoop_count (fun k e => e = fr [(0, some (.val (ix w))), (1, some (.val (I n))), (5, some (.val (I (numT n (w.take k))))), (6, some (.val (I k)))]) w.length ?_ ?_ 0 _ (by omega) ?_
  · rintro k e hk rfl
    obtain ⟨a1, a2, a3, a4, a5⟩ := num_step hw hn h hk
    simp [hk, a5]
    omega
  · rintro e rfl
    simp
  · simp [numT]
theorem t_numberOf {pg : Pg} (hp : pg.fn 263 = some c_impl_numberOf) : S_numI pg := by
  intro n w hw hn hl h
  refine Call.intro hp rfl (by simp) ?_
  show wp _ _ c_impl_numberOf.body (post [.t 4] _ _ _) _
  simp [c_impl_numberOf]
  refine wpLoop_count (fun k e => e = fr [(0, some (.val (I n))), (5, some (.val (I (numT n (w.take k))))), (8, some (.val (ix w))), (9, some (.val (I w.length))), (10, some (.val (I k)))]) w.length ?_ ?_ 0 _ (by omega) ?_
  · rintro k e hk rfl
    obtain ⟨a1, a2, a3, a4, a5⟩ := num_step hw hn h hk
    simp [hk, a5]
    omega
  · rintro e rfl
    simp
  · simp [numT]

/-! ### CountTupleOrbits -/

def nI (l : List Nat) : List Int := l.map fun x : Nat => (x : Int)
@[simp] theorem nI_length (l : List Nat) : (nI l).length = l.length := by simp [nI]
@[simp] theorem nI_append (a b : List Nat) : nI (a ++ b) = nI a ++ nI b := by simp [nI]
@[simp] theorem nI_nil : nI [] = [] := rfl
@[simp] theorem nI_cons (x : Nat) (l : List Nat) : nI (x :: l) = (x : Int) :: nI l := rfl
theorem visL_succ {ws : List Nat} {c : Nat} (hc : c < ws.length) (st : List Bool × List Nat) : (ws.take (c + 1)).foldl visW st = visW ((ws.take c).foldl visW st) ws[c] := by
  rw [List.take_succ_eq_append_getElem hc, List.foldl_append]; rfl

def ctOk (f : List (List Int)) (p : Int) : Prop := (0 ≤ p ∧ p ≤ 12) ∧ f.length ^ p.toNat ≤ 5000
instance (f : List (List Int)) (p : Int) : Decidable (ctOk f p) := by unfold ctOk; infer_instance
open Classical in
noncomputable def ctR (f s : List (List Int)) (p : Int) : Int := if isSol f s then if ctOk f p then (orbC (nbT f s p.toNat) (f.length ^ p.toNat) (f.length ^ p.toNat)).2 else 0 else 0
open Classical in
noncomputable def ctC (f s : List (List Int)) (p : Int) : Int := if isSol f s then if 0 ≤ p ∧ p ≤ 12 then if f.length ^ p.toNat ≤ 5000 then 0 else 3 else 2 else 1
def S_ct (pg : Pg) (n : Nat) : Prop := ∀ (f s : List (List Int)) (p : Int), fits f → fits s → Call pg n [sol f s, I p] [sol f s, I p] (.tup [I (ctR f s p), I (ctC f s p)])
theorem pow_step {n k m : Nat} (hn : 0 < n) (hk : k < m) (h : 5000 < n ^ (k + 1)) : ¬ n ^ m ≤ 5000 := by
  have := Nat.pow_le_pow_right hn (show k + 1 ≤ m by omega)
  omega

set_option maxRecDepth 10000 in
theorem t_ct_spec {pg : Pg} (hp : pg.fn 124 = some c_spec_CountTupleOrbits) (h41 : S_isSol pg 41) (h30 : S_in pg 30) (h260 : S_digS pg) (h43 : S_do pg 43) (h261 : S_numS pg) : S_ct pg 124 := by
  intro f s p hf hs
  refine Call.intro hp rfl (by simp) ?_
  show wp _ _ c_spec_CountTupleOrbits.body (post [.t 4, .t 5] _ _ _) _
  simp [c_spec_CountTupleOrbits]
  refine callR (h41 f s hf hs) rfl rfl (fun _ => rfl) ?_
  by_cases h : isSol f s
  · have hpm := PM.of h.1
    have h0 := hpm.pos
    have h12 := hpm.small
    simp [dec_true h]
    refine callR (h30 p 0 12) rfl rfl (fun _ => rfl) ?_
    by_cases h1 : 0 ≤ p ∧ p ≤ 12
    · simp [h1]
      obtain ⟨m, rfl⟩ := Int.eq_ofNat_of_zero_le h1.1
      have hm12 : m ≤ 12 := by omega
      refine wpLoop_count (fun k e => f.length ^ k ≤ 5000 ∧ e = fr [(1, some (.val (I m))), (2, some (.val (.mem .own none [tb f, tb s]))), (6, some (.val (I f.length))), (7, some (.val (I ((f.length ^ k : Nat) : Int)))), (8, some (.val (I k)))]) m ?_ ?_ 0 _ (by omega) ?_
      · rintro k e hk ⟨hk5, rfl⟩
        have hmul : ((f.length ^ k : Nat) : Int) * f.length = ((f.length ^ (k + 1) : Nat) : Int) := by rw [Nat.pow_succ, Int.natCast_mul]
        have hb : f.length ^ (k + 1) ≤ 60000 := by
          rw [Nat.pow_succ]
          exact Nat.le_trans (Nat.mul_le_mul hk5 h12) (by omega)
        generalize hA : f.length ^ k = A at *
        generalize hB : f.length ^ (k + 1) = A' at *
        simp [hk, hmul]
        by_cases h5 : A' ≤ 5000
        · have h5' : ¬ (5000 : Int) < A' := by omega
          simp [h5']
          omega
        · have h5' : (5000 : Int) < A' := by omega
          have hno := pow_step h0 hk (by omega : 5000 < f.length ^ (k + 1))
          have e1 : ctR f s m = 0 := by
            have : ¬ ctOk f (m : Int) := fun hh => hno (by simpa using hh.2)
            simp [ctR, this]
          have e2 : ctC f s m = 3 := by simp [ctC, h, h1, hno]
          simp [h5', e1, e2]
          omega
      · rintro e ⟨hk5, rfl⟩
        have hr : ctR f s m = (orbC (nbT f s m) (f.length ^ m) (f.length ^ m)).2 := by
          have : ctOk f (m : Int) := ⟨h1, by simpa using hk5⟩
          simp [ctR, h, this]
        have hcc : ctC f s m = 0 := by simp [ctC, h, h1, hk5]
        have hnb : ∀ v, ∀ w ∈ nbT f s m v, w < f.length ^ m := fun v => nbT_rng hpm
        have hnum := fun v (i : Nat) => num_mv hpm (m := m) (v := v) i
        have hpow : f.length ^ (digT f.length m 0).length = f.length ^ m := by simp
        rw [hr, hcc]
        have hcall : ∀ v i : Nat, i + 1 < m → Call pg 261 [ix (dW f s (digT f.length m v) i), I f.length] [ix (dW f s (digT f.length m v) i), I f.length] (I (numT f.length (dW f s (digT f.length m v) i))) := fun v i hi =>
          h261 f.length _ (dW_in hpm (digT_rng h0) i) (by omega) (by simp; omega) (by simp; omega)
        generalize hN : f.length ^ m = N at *
        simp
        refine ⟨by unfold roomy; omega, ?_⟩
        refine wpLoop_count (fun k e => e = fr [(1, some (.val (I m))), (2, some (.val (.mem .own none [tb f, tb s]))), (6, some (.val (I f.length))), (7, some (.val (I N))), (9, some (.val (.mem .own (some 1) ((orbC (nbT f s m) N k).1.map B)))), (10, some (.val (I (orbC (nbT f s m) N k).2))), (11, some (.val (I k)))]) N ?_ ?_ 0 _ (by omega) ?_
        · rintro k e hk rfl
          have hSl := orbC_length (nbT f s m) N k
          have hSc := orbC_cnt (nbT f s m) N k
          have hsucc : orbC (nbT f s m) N (k + 1) = if (orbC (nbT f s m) N k).1.getD k false then orbC (nbT f s m) N k else (bfsF (nbT f s m) (N + 1) ((orbC (nbT f s m) N k).1.set k true) [k], (orbC (nbT f s m) N k).2 + 1) := rfl
          rw [hsucc]
          generalize orbC (nbT f s m) N k = S at *
          have hkl : k < S.1.length := by omega
          have hg : S.1.getD k false = S.1[k] := by rw [List.getD_eq_getElem?_getD, List.getElem?_eq_getElem hkl]; rfl
          rw [hg]
          by_cases hb : S.1[k] = true
          · simp [hk, hkl, hb]
            omega
          · have hb' : S.1[k] = false := by simpa using hb
            have hleft0 : left (S.1.set k true, [k]) ≤ N := by
              have h1 := count_set hkl (by rw [hg]; exact hb')
              have h2 : S.1.count false ≤ S.1.length := List.count_le_length
              simp only [left, List.length_cons, List.length_nil]
              omega
            have hsl0 : (S.1.set k true).length = N := by simp [hSl]
            have hset : (S.1.map B).set k (B true) = (S.1.set k true).map B := by simp
            generalize hR : bfsF (nbT f s m) (N + 1) (S.1.set k true) [k] = R
            simp [hk, hkl, hb']
            refine ⟨by omega, by omega, ?_⟩
            refine wpLoop_lower (α := Nat × List Bool × List Nat × List Nat) (fun y => y.1) (fun y e => bfsF (nbT f s m) y.1 y.2.1 y.2.2.2 = R ∧ left (y.2.1, y.2.2.2) ≤ y.1 ∧ y.2.1.length = N ∧ (∀ w ∈ y.2.2.2, w < N) ∧ y.2.2.1.length + left (y.2.1, y.2.2.2) ≤ N ∧
              e = fr [(1, some (.val (I m))), (2, some (.val (.mem .own none [tb f, tb s]))), (6, some (.val (I f.length))), (7, some (.val (I N))), (9, some (.val (.mem .own (some 1) (y.2.1.map B)))), (10, some (.val (I (S.2 + 1)))), (11, some (.val (I k))), (12, some (.val (.mem .own (some 1) ((nI (y.2.2.1 ++ y.2.2.2)).map I)))), (13, some (.val (I y.2.2.1.length)))]) ?_ (N + 1, S.1.set k true, [], [k]) _ ⟨hR, by simp only; omega, hsl0, by simpa using hk, by simp only [List.length_nil]; omega, ?_⟩
            case refine_2 => simp [← hset]
            rintro ⟨fu, sn, D, q⟩ e ⟨b1, b2, b3, b4, b5, rfl⟩
            simp only at b1 b2 b3 b4 b5
            cases q with
            | nil =>
              have hRs : sn = R := by cases fu <;> exact b1
              simp [hRs]
              omega
            | cons v q =>
              have hl1 : left (sn, v :: q) = left (sn, q) + 1 := by simp [left]; omega
              obtain ⟨fu, rfl⟩ : ∃ g, fu = g + 1 := ⟨fu - 1, by omega⟩
              rw [bfsF] at b1
              have hvN := b4 v (by simp)
              have hDN : D.length < N := by omega
              have hqN : D.length + q.length < N := by
                have : q.length ≤ left (sn, q) := by simp [left]
                omega
              have hlt : (D.length : Int) < D.length + (q.length + 1) := by omega
              simp [hlt]
              refine callR (h260 f.length m v h0 (by omega) (by omega) (by omega)) rfl rfl (fun _ => by simp) ?_
              simp
              have hwl : (nbT f s m v).length = m - 1 := nbT_length f s m v
              have hst : ∀ c, (((nbT f s m v).take c).foldl visW (sn, q)).1.length = N := fun c => by rw [visL_length]; exact b3
              have hleft : ∀ c, left (((nbT f s m v).take c).foldl visW (sn, q)) = left (sn, q) := fun c => visL_left fun w hw => by
                have := hnb v w (List.mem_of_mem_take hw)
                simp only; omega
              refine wpLoop_count (fun c e => e = fr [(1, some (.val (I m))), (2, some (.val (.mem .own none [tb f, tb s]))), (6, some (.val (I f.length))), (7, some (.val (I N))), (9, some (.val (.mem .own (some 1) ((((nbT f s m v).take c).foldl visW (sn, q)).1.map B)))), (10, some (.val (I (S.2 + 1)))), (11, some (.val (I k))), (12, some (.val (.mem .own (some 1) ((nI (D ++ v :: (((nbT f s m v).take c).foldl visW (sn, q)).2)).map I)))), (13, some (.val (I D.length))), (14, some (.val (.mem .own (some 1) ((digT f.length m v).map I)))), (15, some (.val (I c)))]) (m - 1) ?_ ?_ 0 _ (by omega) ?_
              · rintro c e hc rfl
                have hcm : c + 1 < m := by omega
                have hcm' : (c : Int) + 1 < m := by omega
                have hcw : c < (nbT f s m v).length := by omega
                have hst1 := hst c
                have hlc := hleft c
                have hsuc := visL_succ hcw (sn, q)
                have hw : ((nbT f s m v)[c] : Int) = numT f.length (dW f s (digT f.length m v) c) := by
                  rw [nbT_get hcw]; have := hnum v c; omega
                have hwN := hnb v _ (List.getElem_mem hcw)
                have hq2 : (((nbT f s m v).take c).foldl visW (sn, q)).2.length ≤ left (((nbT f s m v).take c).foldl visW (sn, q)) := by simp [left]
                rw [hsuc]
                have hmv := h43 f s (digT f.length m v) c hpm (by simpa using hcm) (by simp; omega) (digT_rng h0)
                have hcl := hcall v c hcm
                rw [← hw] at hcl
                generalize (nbT f s m v)[c] = w at *
                generalize ((nbT f s m v).take c).foldl visW (sn, q) = st at *
                simp [hcm']
                refine ⟨by omega, ?_⟩
                refine callR hmv rfl rfl (fun _ => by simp) ?_
                simp
                refine callR hcl rfl rfl (fun _ => rfl) ?_
                have hwl2 : w < st.1.length := by omega
                have hgw : st.1.getD w false = st.1[w] := by rw [List.getD_eq_getElem?_getD, List.getElem?_eq_getElem hwl2]; rfl
                unfold visW
                rw [hgw]
                by_cases hsw : st.1[w] = true
                · simp [hwl2, hsw]
                  omega
                · have hsw' : st.1[w] = false := by simpa using hsw
                  simp [hwl2, hsw', roomy]
                  omega
              · rintro e rfl
                have hnlt : ¬ (((m - 1 : Nat) : Int) + 1 < m) := by omega
                have htk : (nbT f s m v).take (m - 1) = nbT f s m v := List.take_of_length_le (by omega)
                have hlf := hleft (m - 1)
                have hsf := hst (m - 1)
                have hrg := visL_rng (N := N) (st := (sn, q)) (hnb v) (fun w hw => b4 w (by simp [hw]))
                rw [htk] at hlf hsf ⊢
                generalize (nbT f s m v).foldl visW (sn, q) = st at *
                simp [hnlt]
                refine ⟨by omega, by omega, fu, by omega, st.1, D ++ [v], st.2, b1, ?_, hsf, hrg, ?_, by simp⟩
                · show left st ≤ fu
                  omega
                · show (D ++ [v]).length + left st ≤ N
                  simp
                  omega
              · simp
        · rintro e rfl
          simp
        · simp [orbC]
      · simp
    · have e1 : ctR f s p = 0 := by
        have : ¬ ctOk f p := fun hh => h1 hh.1
        simp [ctR, this]
      have e2 : ctC f s p = 2 := by simp [ctC, h, h1]
      simp [h1, e1, e2]
  · have e1 : ctR f s p = 0 := by simp [ctR, h]
    have e2 : ctC f s p = 1 := by simp [ctC, h]
    simp [dec_false h, e1, e2]
set_option maxRecDepth 10000 in
theorem t_ct_impl {pg : Pg} (hp : pg.fn 125 = some c_impl_CountTupleOrbits) (h42 : S_isSol pg 42) (h35 : S_in pg 35) (h262 : S_digI pg) (h44 : S_do pg 44) (h263 : S_numI pg) : S_ct pg 125 := by
  intro f s p hf hs
  refine Call.intro hp rfl (by simp) ?_
  show wp _ _ c_impl_CountTupleOrbits.body (post [.t 4, .t 5] _ _ _) _
  simp [c_impl_CountTupleOrbits]
  refine callR (h42 f s hf hs) rfl rfl (fun _ => rfl) ?_
  by_cases h : isSol f s
  · have hpm := PM.of h.1
    have h0 := hpm.pos
    have h12 := hpm.small
    simp [dec_true h]
    refine callR (h35 p 0 12) rfl rfl (fun _ => rfl) ?_
    by_cases h1 : 0 ≤ p ∧ p ≤ 12
    · simp [h1]
      obtain ⟨m, rfl⟩ := Int.eq_ofNat_of_zero_le h1.1
      have hm12 : m ≤ 12 := by omega
      refine wpLoop_count (fun k e => f.length ^ k ≤ 5000 ∧ e = fr [(1, some (.val (I m))), (2, some (.val (.mem .own none [tb f, tb s]))), (6, some (.val (I f.length))), (7, some (.val (I ((f.length ^ k : Nat) : Int)))), (24, some (.val (I m))), (25, some (.val (I k)))]) m ?_ ?_ 0 _ (by omega) ?_
      · rintro k e hk ⟨hk5, rfl⟩
        have hmul : ((f.length ^ k : Nat) : Int) * f.length = ((f.length ^ (k + 1) : Nat) : Int) := by rw [Nat.pow_succ, Int.natCast_mul]
        have hb : f.length ^ (k + 1) ≤ 60000 := by
          rw [Nat.pow_succ]
          exact Nat.le_trans (Nat.mul_le_mul hk5 h12) (by omega)
        generalize hA : f.length ^ k = A at *
        generalize hB : f.length ^ (k + 1) = A' at *
        simp [hk, hmul]
        by_cases h5 : A' ≤ 5000
        · have h5' : ¬ (5000 : Int) < A' := by omega
          simp [h5']
          omega
        · have h5' : (5000 : Int) < A' := by omega
          have hno := pow_step h0 hk (by omega : 5000 < f.length ^ (k + 1))
          have e1 : ctR f s m = 0 := by
            have : ¬ ctOk f (m : Int) := fun hh => hno (by simpa using hh.2)
            simp [ctR, this]
          have e2 : ctC f s m = 3 := by simp [ctC, h, h1, hno]
          simp [h5', e1, e2]
          omega
      · rintro e ⟨hk5, rfl⟩
        have hr : ctR f s m = (orbC (nbT f s m) (f.length ^ m) (f.length ^ m)).2 := by
          have : ctOk f (m : Int) := ⟨h1, by simpa using hk5⟩
          simp [ctR, h, this]
        have hcc : ctC f s m = 0 := by simp [ctC, h, h1, hk5]
        have hnb : ∀ v, ∀ w ∈ nbT f s m v, w < f.length ^ m := fun v => nbT_rng hpm
        have hnum := fun v (i : Nat) => num_mv hpm (m := m) (v := v) i
        have hpow : f.length ^ (digT f.length m 0).length = f.length ^ m := by simp
        rw [hr, hcc]
        have hcall : ∀ v i : Nat, i + 1 < m → Call pg 263 [I f.length, ix (dW f s (digT f.length m v) i)] [I f.length, ix (dW f s (digT f.length m v) i)] (I (numT f.length (dW f s (digT f.length m v) i))) := fun v i hi =>
          h263 f.length _ (dW_in hpm (digT_rng h0) i) (by omega) (by simp; omega) (by simp; omega)
        generalize hN : f.length ^ m = N at *
        simp
        refine ⟨by unfold roomy; omega, ?_⟩
        refine wpLoop_count (fun k e => e = fr [(1, some (.val (I m))), (2, some (.val (.mem .own none [tb f, tb s]))), (6, some (.val (I f.length))), (8, some (.val (.mem .own (some 1) ((orbC (nbT f s m) N k).1.map B)))), (9, some (.val (I (orbC (nbT f s m) N k).2))), (36, some (.val (I N))), (37, some (.val (I k)))]) N ?_ ?_ 0 _ (by omega) ?_
        · rintro k e hk rfl
          have hSl := orbC_length (nbT f s m) N k
          have hSc := orbC_cnt (nbT f s m) N k
          have hsucc : orbC (nbT f s m) N (k + 1) = if (orbC (nbT f s m) N k).1.getD k false then orbC (nbT f s m) N k else (bfsF (nbT f s m) (N + 1) ((orbC (nbT f s m) N k).1.set k true) [k], (orbC (nbT f s m) N k).2 + 1) := rfl
          rw [hsucc]
          generalize orbC (nbT f s m) N k = S at *
          have hkl : k < S.1.length := by omega
          have hg : S.1.getD k false = S.1[k] := by rw [List.getD_eq_getElem?_getD, List.getElem?_eq_getElem hkl]; rfl
          rw [hg]
          by_cases hb : S.1[k] = true
          · simp [hk, hkl, hb]
            omega
          · have hb' : S.1[k] = false := by simpa using hb
            have hleft0 : left (S.1.set k true, [k]) ≤ N := by
              have h1 := count_set hkl (by rw [hg]; exact hb')
              have h2 : S.1.count false ≤ S.1.length := List.count_le_length
              simp only [left, List.length_cons, List.length_nil]
              omega
            have hsl0 : (S.1.set k true).length = N := by simp [hSl]
            have hset : (S.1.map B).set k (B true) = (S.1.set k true).map B := by simp
            generalize hR : bfsF (nbT f s m) (N + 1) (S.1.set k true) [k] = R
            simp [hk, hkl, hb']
            refine ⟨by omega, by omega, ?_⟩
            refine wpLoop_lower (α := Nat × List Bool × List Nat) (fun y => y.1) (fun y e => bfsF (nbT f s m) y.1 y.2.1 y.2.2 = R ∧ left (y.2.1, y.2.2) ≤ y.1 ∧ y.2.1.length = N ∧ (∀ w ∈ y.2.2, w < N) ∧ left (y.2.1, y.2.2) ≤ N ∧
              e = fr [(1, some (.val (I m))), (2, some (.val (.mem .own none [tb f, tb s]))), (6, some (.val (I f.length))), (8, some (.val (.mem .own (some 1) (y.2.1.map B)))), (9, some (.val (I (S.2 + 1)))), (11, some (.val (.mem .own (some 1) ((nI y.2.2).map I)))), (36, some (.val (I N))), (37, some (.val (I k)))]) ?_ (N + 1, S.1.set k true, [k]) _ ⟨hR, by simp only; omega, hsl0, by simpa using hk, by simp only; omega, ?_⟩
            case refine_2 => simp [← hset]
            rintro ⟨fu, sn, q⟩ e ⟨b1, b2, b3, b4, b5, rfl⟩
            simp only at b1 b2 b3 b4 b5
            cases q with
            | nil =>
              have hRs : sn = R := by cases fu <;> exact b1
              simp [hRs]
              omega
            | cons v q =>
              have hl1 : left (sn, v :: q) = left (sn, q) + 1 := by simp [left]; omega
              obtain ⟨fu, rfl⟩ : ∃ g, fu = g + 1 := ⟨fu - 1, by omega⟩
              rw [bfsF] at b1
              have hvN := b4 v (by simp)
              have hqN : q.length < N := by
                have : q.length ≤ left (sn, q) := by simp [left]
                omega
              have hlt : (0 : Int) < q.length + 1 := by omega
              simp [hlt]
              refine callR (h262 f.length m v h0 (by omega) (by omega) (by omega)) rfl rfl (fun _ => by simp) ?_
              simp
              have hwl : (nbT f s m v).length = m - 1 := nbT_length f s m v
              have hst : ∀ c, (((nbT f s m v).take c).foldl visW (sn, q)).1.length = N := fun c => by rw [visL_length]; exact b3
              have hleft : ∀ c, left (((nbT f s m v).take c).foldl visW (sn, q)) = left (sn, q) := fun c => visL_left fun w hw => by
                have := hnb v w (List.mem_of_mem_take hw)
                simp only; omega
              refine ⟨by omega, ?_⟩
              refine wpLoop_count (fun c e => e = fr [(1, some (.val (I m))), (2, some (.val (.mem .own none [tb f, tb s]))), (6, some (.val (I f.length))), (8, some (.val (.mem .own (some 1) ((((nbT f s m v).take c).foldl visW (sn, q)).1.map B)))), (9, some (.val (I (S.2 + 1)))), (11, some (.val (.mem .own (some 1) ((nI (v :: (((nbT f s m v).take c).foldl visW (sn, q)).2)).map I)))), (12, some (.val (.mem .own (some 1) ((digT f.length m v).map I)))), (36, some (.val (I N))), (37, some (.val (I k))), (64, some (.val (I ((m : Int) - 1)))), (65, some (.val (I c)))]) (m - 1) ?_ ?_ 0 _ (by omega) ?_
              · rintro c e hc rfl
                have hcm : c + 1 < m := by omega
                have hcm' : (c : Int) < (m : Int) - 1 := by omega
                have hcw : c < (nbT f s m v).length := by omega
                have hst1 := hst c
                have hlc := hleft c
                have hsuc := visL_succ hcw (sn, q)
                have hw : ((nbT f s m v)[c] : Int) = numT f.length (dW f s (digT f.length m v) c) := by
                  rw [nbT_get hcw]; have := hnum v c; omega
                have hwN := hnb v _ (List.getElem_mem hcw)
                have hq2 : (((nbT f s m v).take c).foldl visW (sn, q)).2.length ≤ left (((nbT f s m v).take c).foldl visW (sn, q)) := by simp [left]
                rw [hsuc]
                have hmv := h44 f s (digT f.length m v) c hpm (by simpa using hcm) (by simp; omega) (digT_rng h0)
                have hcl := hcall v c hcm
                rw [← hw] at hcl
                generalize (nbT f s m v)[c] = w at *
                generalize ((nbT f s m v).take c).foldl visW (sn, q) = st at *
                simp [hcm']
                refine callR hmv rfl rfl (fun _ => by simp) ?_
                simp
                refine callR hcl rfl rfl (fun _ => rfl) ?_
                have hwl2 : w < st.1.length := by omega
                have hgw : st.1.getD w false = st.1[w] := by rw [List.getD_eq_getElem?_getD, List.getElem?_eq_getElem hwl2]; rfl
                unfold visW
                rw [hgw]
                by_cases hsw : st.1[w] = true
                · simp [hwl2, hsw]
                  omega
                · have hsw' : st.1[w] = false := by simpa using hsw
                  simp [hwl2, hsw', roomy]
                  omega
              · rintro e rfl
                have hnlt : ¬ (((m - 1 : Nat) : Int) < (m : Int) - 1) := by omega
                have htk : (nbT f s m v).take (m - 1) = nbT f s m v := List.take_of_length_le (by omega)
                have hlf := hleft (m - 1)
                have hsf := hst (m - 1)
                have hrg := visL_rng (N := N) (st := (sn, q)) (hnb v) (fun w hw => b4 w (by simp [hw]))
                rw [htk] at hlf hsf ⊢
                generalize (nbT f s m v).foldl visW (sn, q) = st at *
                simp [hnlt]
                exact ⟨by omega, by omega, fu, by omega, st.1, st.2, b1, show left st ≤ fu by omega, hsf, hrg, show left st ≤ N by omega, by simp [win, take_len (List.map I (nI st.2)) (n := st.2.length) (by simp)]⟩
              · simp
        · rintro e rfl
          simp
        · simp [orbC]
      · simp
    · have e1 : ctR f s p = 0 := by
        have : ¬ ctOk f p := fun hh => h1 hh.1
        simp [ctR, this]
      have e2 : ctC f s p = 2 := by simp [ctC, h, h1]
      simp [h1, e1, e2]
  · have e1 : ctR f s p = 0 := by simp [ctR, h]
    have e2 : ctC f s p = 1 := by simp [ctC, h]
    simp [dec_false h, e1, e2]
end Go.Mch
/- The runs of the laws of CountTupleOrbits. -/
namespace Go.Mch
def S_law71 (pg : Pg) : Prop := S_lw_pN pg 71
theorem t_law71 {pg : Pg} (hp : pg.fn 71 = some (lw_pN 124 125)) (h124 : S_ct pg 124) (h125 : S_ct pg 125) (h14 : S_szSol pg) (h16 : S_toSol pg) (h18 : S_eqSol pg) : S_law71 pg := by
  exact t_lw_pN (R0 := ctR) (R1 := ctC) hp h124 h125  h14 h16 h18
end Go.Mch
