/- Our texts YfA YfC YfD YfE YfB YfF YfG YfH YfI YfJ YfK YfL YfM YfN YfO YfP YfQ YfR YfS YfT YhJ YgA YfX YfY YfV YfZ YfW YgB YgC YgR YgF YgE YgG YgH YgI YgJ YgL YgP YgS YgT YgQ YgU YiL, end to end. -/
import Derived.Test.YtbjgmanbanhhiaaYeA
import Derived.Test.YtbjgmanbanhhiaaYeB
import Derived.Test.YtbjgmanbanhhiaaYeC
import Derived.Test.YtbjgmanbanhhiaaM3
import Derived.ProofKit
import Derived.OpenShut
import Derived.JoinedCond
import Derived.WideKeyArgs
import Derived.Test.YtbjgmanbanhhiaaM1
import Derived.Test.YtbjgmanbanhhiaaYeE
/- Lists of numbers and of lists as trees; what the laws read and make. -/
namespace Go.Mch

abbrev nil : T := .sc (.slice none 0 0)

/-- What a slice of the caller's is: nil, an empty one without cells, or one with cells. -/
inductive Rw (α : Type) where
  | no
  | odd (a : Addr)
  | of (l : List α)

def lst {α : Type} : Rw α → List α
  | .of l => l
  | _ => []
def lso {α : Type} (o : Option (List α)) : List α := o.getD []
def Rw.ofO {α : Type} : Option (List α) → Rw α
  | none => .no
  | some l => .of l

/-- A slice of the caller's. -/
def rawI : Rw Int → T
  | .no => nil
  | .odd a => .sc (.slice (some a) 0 0)
  | .of xs => .mem .old (some 1) (xs.map I)

@[simp] theorem lst_of {α : Type} (l : List α) : lst (.of l) = l := rfl
@[simp] theorem lst_no {α : Type} : lst (.no : Rw α) = [] := rfl
@[simp] theorem lst_odd {α : Type} (a : Addr) : lst (.odd a : Rw α) = [] := rfl
@[simp] theorem lso_some {α : Type} (l : List α) : lso (some l) = l := rfl
@[simp] theorem lso_none {α : Type} : lso (none : Option (List α)) = [] := rfl
@[simp] theorem lst_ofO {α : Type} (o : Option (List α)) : lst (Rw.ofO o) = lso o := by cases o <;> rfl

@[simp] theorem noOwnL_mapI (xs : List Int) : T.noOwnL (xs.map I) = true := by
  induction xs with
  | nil => rfl
  | cons x xs ih => simp [ih]
@[simp] theorem eryL_mapI (k : K) (xs : List Int) : T.eryL k (xs.map I) = xs.map I := by
  induction xs with
  | nil => rfl
  | cons x xs ih => simp [ih]
@[simp] theorem noOldL_mapI (xs : List Int) : T.noOldL (xs.map I) = true := by
  induction xs with
  | nil => rfl
  | cons x xs ih => simp [ih]
@[simp] theorem lendL_mapI (xs : List Int) : T.lendL (xs.map I) = xs.map I := by
  induction xs with
  | nil => rfl
  | cons x xs ih => simp [ih]
@[simp] theorem rawI_noOwn (a : Rw Int) : (rawI a).noOwn = true := by cases a <;> simp [rawI]
@[simp] theorem rawI_peek (a : Rw Int) (n : Nat) (p : List Nat) : (rawI a).peek n p = .val (rawI a) := by cases a <;> rfl
@[simp] theorem rawI_ery (a : Rw Int) : (rawI a).ery .old = rawI a := by cases a <;> simp [rawI]
@[simp] theorem rawI_len (a : Rw Int) : lenV (.val (rawI a)) = some (lst a).length := by cases a <;> simp [rawI]
@[simp] theorem rawI_idx (a : Rw Int) (i : Int) : idxV 1 (.val (rawI a)) i = if 0 ≤ i ∧ i < ((lst a).length : Int) then some (.val (.mem .old none (win ((lst a).map I) (i.toNat * 1) 1))) else none := by
  cases a with
  | no =>
    simp only [rawI, idxV, lst_no, List.length_nil, List.map_nil]
    rw [if_neg]
    omega
  | odd ad =>
    simp only [rawI, idxV, lst_odd, List.length_nil, List.map_nil]
    rw [if_neg]
    omega
  | of xs => simp [rawI]
/-- A slice of slices of the caller's. -/
def rawT : Rw (Rw Int) → T
  | .no => nil
  | .odd a => .sc (.slice (some a) 0 0)
  | .of rs => .mem .old (some 1) (rs.map rawI)
@[simp] theorem noOwnL_mapR (rs : List (Rw Int)) : T.noOwnL (rs.map rawI) = true := by
  induction rs with
  | nil => rfl
  | cons x xs ih => simp [ih]
@[simp] theorem eryL_mapR (rs : List (Rw Int)) : T.eryL .old (rs.map rawI) = rs.map rawI := by
  induction rs with
  | nil => rfl
  | cons x xs ih => simp [ih]
@[simp] theorem rawT_noOwn (a : Rw (Rw Int)) : (rawT a).noOwn = true := by cases a <;> simp [rawT]
@[simp] theorem rawT_peek (a : Rw (Rw Int)) (n : Nat) (p : List Nat) : (rawT a).peek n p = .val (rawT a) := by cases a <;> rfl
@[simp] theorem rawT_ery (a : Rw (Rw Int)) : (rawT a).ery .old = rawT a := by cases a <;> simp [rawT]
@[simp] theorem rawT_len (a : Rw (Rw Int)) : lenV (.val (rawT a)) = some (lst a).length := by cases a <;> simp [rawT]
@[simp] theorem rawT_idx (a : Rw (Rw Int)) (i : Int) : idxV 1 (.val (rawT a)) i = if 0 ≤ i ∧ i < ((lst a).length : Int) then some (.val (.mem .old none (win ((lst a).map rawI) (i.toNat * 1) 1))) else none := by
  cases a with
  | no =>
    simp only [rawT, idxV, lst_no, List.length_nil, List.map_nil]
    rw [if_neg]
    omega
  | odd ad =>
    simp only [rawT, idxV, lst_odd, List.length_nil, List.map_nil]
    rw [if_neg]
    omega
  | of xs => simp [rawT]
@[simp] theorem rawT_cells (a : Rw (Rw Int)) : (rawT a).cells = [rawT a] := by cases a <;> rfl
@[simp] theorem rawT_isCell (a : Rw (Rw Int)) : (rawT a).isCell = true := by cases a <;> rfl
@[simp] theorem rawI_isCell (a : Rw Int) : (rawI a).isCell = true := by cases a <;> rfl

/-- A call all of whose arguments are read only. -/
theorem callR {G : Rl} {d : Option Nat} {k : Env → Prop} {e : Env} {args : List (Opd × Mode)} {id : Nat} {caps ts : List T} {r : T} (hc : G id (ts ++ T.eryL .old caps) (ts ++ T.eryL .old caps) r) (hall : args.all (fun x => x.2 == .r) = true) (hlen : args.length = ts.length)
    (hold : e.lends args = true → r.noOld = true) (hk : k (e.setD d (.val r))) : callP G d k e args id caps ts := by
  refine ⟨ts, r, hc, rfl, fun h => ⟨hold h, hall⟩, ?_⟩
  have : ∀ (xs : List (Opd × Mode)) (us : List T), xs.all (fun x => x.2 == .r) = true → xs.length = us.length → e.back xs us = some e := by
    intro xs
    induction xs with
    | nil => intro us _ h; cases us with | nil => rfl | cons => simp at h
    | cons x xs ih =>
      intro us h h2
      obtain ⟨x, md⟩ := x
      simp only [List.all_cons, Bool.and_eq_true, beq_iff_eq] at h
      obtain ⟨rfl, h⟩ := h
      cases us with
      | nil => simp at h2
      | cons u us => simp only [Env.back]; exact ih us (by simpa using h) (by simpa using h2)
  rw [this args ts hall hlen]
  exact ⟨e, rfl, hk⟩

theorem set_fill {α : Type} {xs : List α} {z : α} {k : Nat} (hk : k < xs.length) :
    (List.take k xs ++ List.replicate (xs.length - k) z).set k xs[k] = List.take (k + 1) xs ++ List.replicate (xs.length - (k + 1)) z := by
  rw [List.set_append_right _ _ (by simp; omega)]
  have h1 : (List.take k xs).length = k := by simp; omega
  rw [h1, Nat.sub_self, show xs.length - k = (xs.length - (k + 1)) + 1 from by omega, List.replicate_succ, List.set_cons_zero]
  rw [List.take_succ_eq_append_getElem hk, List.append_assoc]
  rfl

theorem take_len {α : Type} (l : List α) {n : Nat} (h : l.length ≤ n) : l.take n = l := List.take_of_length_le h
@[simp] theorem take_map_len {α β : Type} (l : List α) (f : α → β) : List.take l.length (l.map f) = l.map f := List.take_of_length_le (by simp)

theorem callM {G : Rl} {d : Option Nat} {k : Env → Prop} {e : Env} {gs : List Bool} {ks : List Nat} {id : Nat} {caps : List T} {vs : List V} {y : List T × Env} {ts' : List T} {r : T} (hh : y.2.holes vs gs = true) (hc : G id (T.lendL y.1 ++ T.eryL .old caps) (ts' ++ T.eryL .old caps) r)
    (hl : ts'.length = y.1.length) (hk : bindP (y.2.gives vs gs ts') fun e2 => bindP (e.revive y.2 e2 vs gs ks) fun e3 => k (e3.setD d (.val r))) : callmP G d k e gs ks id caps vs y := ⟨hh, ts', r, hc, hl, hk⟩

/-! ### Copies -/

def S_toI (pg : Pg) : Prop := ∀ a : Rw Int, (lst a).length ≤ 1048576 → Call pg 7 [rawI a] [rawI a] (ints .own (lst a))
theorem t_toI {pg : Pg} (hp : pg.fn 7 = some c_laws_toInt64S) : S_toI pg := by
  intro a hl
  refine Call.intro hp rfl (by simp) ?_
  show wp _ _ c_laws_toInt64S.body (post [.t 2] _ _ _) _
  simp [c_laws_toInt64S, ints]
  refine ⟨by unfold roomy; omega, ?_⟩
  refine wpLoop_count (fun k e => e = fr [(0, some (.val (rawI a))), (3, some (.val (.mem .own (some 1) ((lst a).map I |>.take k |>.append (List.replicate ((lst a).length - k) (I 0)))))), (4, some (.val (I k)))]) (lst a).length ?_ ?_ 0 _ (by omega) ?_
  · rintro k e hk rfl
    simp [hk]
    refine ⟨by omega, by omega, by omega, ?_⟩
    have := set_fill (xs := (lst a).map I) (z := I 0) (k := k) (by simpa using hk)
    simp at this
    rw [this]
  · rintro e rfl
    simp [take_len]
  · simp

theorem S_toI.at {pg : Pg} (h : S_toI pg) (a : Rw Int) (hl : (lst a).length ≤ 1048576) : Call pg 7 [rawI a] [rawI a] (.mem .own (some 1) ((lst a).map I)) := h a hl

/-- A table of the frame's own. -/
def rows (xss : List (List Int)) : List T := xss.map fun xs => .mem .own (some 1) (xs.map I)
@[simp] theorem rows_length (xss : List (List Int)) : (rows xss).length = xss.length := by simp [rows]

@[simp] theorem noOldL_rows (xss : List (List Int)) : T.noOldL (rows xss) = true := by
  induction xss with
  | nil => rfl
  | cons x xs ih => simp only [rows, List.map_cons] at ih ⊢; simp [ih]
@[simp] theorem lendL_rows (xss : List (List Int)) : T.lendL (rows xss) = rows xss := by
  induction xss with
  | nil => rfl
  | cons x xs ih => simp only [rows, List.map_cons] at ih ⊢; simp [ih]
/-- A slice that is only read. -/
abbrev ix (xs : List Int) : T := .mem .old (some 1) (xs.map I)
/-- The rows of a table that is only read. -/
def tbL (xss : List (List Int)) : List T := xss.map fun xs => ix xs
/-- A table that is only read. -/
abbrev tb (xss : List (List Int)) : T := .mem .old (some 1) (tbL xss)
@[simp] theorem tbL_length (xss : List (List Int)) : (tbL xss).length = xss.length := by simp [tbL]
@[simp] theorem noOwnL_tbL (xss : List (List Int)) : T.noOwnL (tbL xss) = true := by
  induction xss with
  | nil => rfl
  | cons x xs ih => simp only [tbL, List.map_cons] at ih ⊢; simp [ih]
@[simp] theorem eryL_tbL (xss : List (List Int)) : T.eryL .old (tbL xss) = tbL xss := by
  induction xss with
  | nil => rfl
  | cons x xs ih => simp only [tbL, List.map_cons] at ih ⊢; simp [ih]
@[simp] theorem eryL_rows (xss : List (List Int)) : T.eryL .old (rows xss) = tbL xss := by
  induction xss with
  | nil => rfl
  | cons x xs ih => simp only [rows, tbL, List.map_cons] at ih ⊢; simp [ih]
theorem rawT_tb (xss : List (List Int)) : rawT (.of (xss.map .of)) = tb xss := by simp [rawT, tbL, rawI]
theorem rows_get (xss : List (List Int)) (j : Nat) : (rows xss)[j]? = (xss[j]?).map fun xs => .mem .own (some 1) (xs.map I) := by simp [rows]
@[simp] theorem rows_getElem (xss : List (List Int)) (j : Nat) (h : j < (rows xss).length) : (rows xss)[j] = .mem .own (some 1) ((xss[j]'(by simpa using h)).map I) := by simp [rows]

def small (a : Rw (Rw Int)) : Prop := (lst a).length ≤ 1048576 ∧ ∀ r ∈ lst a, (lst r).length ≤ 1048576

def S_toT (pg : Pg) : Prop := ∀ a, small a → Call pg 32 [rawT a] [rawT a] (.mem .own (some 1) (rows ((lst a).map lst)))
theorem t_toT {pg : Pg} (hp : pg.fn 32 = some c_laws_toInt64SS) (h7 : S_toI pg) : S_toT pg := by
  intro a ⟨hl, hr⟩
  refine Call.intro hp rfl (by simp) ?_
  show wp _ _ c_laws_toInt64SS.body (post [.t 2] _ _ _) _
  simp [c_laws_toInt64SS]
  refine ⟨by unfold roomy; omega, ?_⟩
  refine wpLoop_count (fun k e => e = fr [(0, some (.val (rawT a))), (3, some (.val (.mem .own (some 1) ((rows ((lst a).map lst)).take k ++ List.replicate ((lst a).length - k) nil)))), (4, some (.val (I k)))]) (lst a).length ?_ ?_ 0 _ (by omega) ?_
  · rintro k e hk rfl
    simp [hk]
    refine callR (h7.at _ (hr _ (List.getElem_mem hk))) rfl rfl (fun _ => by simp) ?_
    simp
    refine ⟨by omega, by omega, by omega, ?_⟩
    have := set_fill (xs := rows ((lst a).map lst)) (z := nil) (k := k) (by simpa using hk)
    simp [rows] at this
    simp [rows, this]
  · rintro e rfl
    simp [take_len]
  · simp


def S_toSol (pg : Pg) : Prop := ∀ a b, small a → small b → Call pg 16 [.agg [rawT a, rawT b]] [.agg [rawT a, rawT b]] (.agg [.mem .own (some 1) (rows ((lst a).map lst)), .mem .own (some 1) (rows ((lst b).map lst))])
theorem t_toSol {pg : Pg} (hp : pg.fn 16 = some c_laws_toSolution) (h32 : S_toT pg) : S_toSol pg := by
  intro a b ha hb
  refine Call.intro hp rfl (by simp) ?_
  show wp _ _ c_laws_toSolution.body (post [.cell 2 (some 2)] _ _ _) _
  simp [c_laws_toSolution]
  refine callR (h32 _ ha) rfl rfl (fun _ => by simp) ?_
  simp
  refine callR (h32 _ hb) rfl rfl (fun _ => by simp) ?_
  simp

/-! ### Sizes -/

def sz1 (r : Rw Int) (l : Int) : Int := if l - ((lst r).length : Int) < 0 then -1 else l - ((lst r).length : Int)
def szL : List (Rw Int) → Int → Int
  | [], l => l
  | r :: rs, l => if sz1 r l < 0 then -1 else szL rs (sz1 r l)
def szT (a : Rw (Rw Int)) (l : Int) : Int := if l - ((lst a).length : Int) < 0 then -1 else szL (lst a) (l - ((lst a).length : Int))
theorem sz1_le {r : Rw Int} {l : Int} (h : -1 ≤ l) : -1 ≤ sz1 r l ∧ sz1 r l ≤ max l 0 := by
  unfold sz1; split <;> omega
theorem szL_le : ∀ (rs : List (Rw Int)) {l : Int}, -1 ≤ l → -1 ≤ szL rs l ∧ szL rs l ≤ max l 0
  | [], l, h => by unfold szL; omega
  | r :: rs, l, h => by
    have h1 := sz1_le (r := r) h
    unfold szL
    split
    · omega
    · have := szL_le rs (l := sz1 r l) h1.1
      omega
theorem szT_le {a : Rw (Rw Int)} {l : Int} (h : -1 ≤ l) : -1 ≤ szT a l ∧ szT a l ≤ max l 0 := by
  unfold szT
  split
  · omega
  · have := szL_le (lst a) (l := l - ((lst a).length : Int)) (by omega)
    omega

def S_szI (pg : Pg) : Prop := ∀ (a : Rw Int) (l : Int), (lst a).length ≤ 1048576 → -1 ≤ l → l ≤ 1048576 → Call pg 45 [rawI a, I l] [rawI a, I l] (I (sz1 a l))
theorem t_szI {pg : Pg} (hp : pg.fn 45 = some c_laws_szInt64S) : S_szI pg := by
  intro a l ha h1 h2
  refine Call.intro hp rfl (by simp) ?_
  show wp _ _ c_laws_szInt64S.body (post [.t 4] _ _ _) _
  by_cases hlt : l - ((lst a).length : Int) < 0
  · simp [c_laws_szInt64S, hlt, sz1]
    omega
  · simp [c_laws_szInt64S, hlt, sz1]
    omega

def S_szT (pg : Pg) : Prop := ∀ (a : Rw (Rw Int)) (l : Int), small a → -1 ≤ l → l ≤ 1048576 → Call pg 27 [rawT a, I l] [rawT a, I l] (I (szT a l))
theorem t_szT {pg : Pg} (hp : pg.fn 27 = some c_laws_szInt64SS) (h45 : S_szI pg) : S_szT pg := by
  intro a l ⟨ha, hr⟩ h1 h2
  refine Call.intro hp rfl (by simp) ?_
  show wp _ _ c_laws_szInt64SS.body (post [.t 4] _ _ _) _
  by_cases hlt : l - ((lst a).length : Int) < 0
  · simp [c_laws_szInt64SS, hlt, szT]
    omega
  · simp [c_laws_szInt64SS, hlt, szT]
    refine ⟨by omega, ?_⟩
    refine wpLoop_count (fun k e => ∃ l' : Int, -1 ≤ l' ∧ l' ≤ 1048576 ∧ szL ((lst a).drop k) l' = szL (lst a) (l - ((lst a).length : Int)) ∧ e = fr [(0, some (.val (rawT a))), (1, some (.val (I l'))), (5, some (.val (I k)))]) (lst a).length ?_ ?_ 0 _ (by omega) ?_
    · rintro k e hk ⟨l', g1, g2, g3, rfl⟩
      simp [hk]
      have hd : (lst a).drop k = (lst a)[k] :: (lst a).drop (k + 1) := List.drop_eq_getElem_cons hk
      rw [hd] at g3
      simp only [szL] at g3
      have h3 := sz1_le (r := (lst a)[k]) g1
      refine callR (h45 _ _ (hr _ (List.getElem_mem hk)) g1 g2) rfl rfl (fun _ => rfl) ?_
      by_cases hn : sz1 (lst a)[k] l' < 0
      · simp [hn]
        rw [if_pos hn] at g3
        exact g3
      · simp [hn]
        rw [if_neg hn] at g3
        refine ⟨by omega, sz1 (lst a)[k] l', by omega, by omega, g3, ?_⟩
        simp
    · rintro e ⟨l', g1, g2, g3, rfl⟩
      simp
      rw [List.drop_length] at g3
      exact g3
    · exact ⟨_, by omega, by omega, rfl, by simp⟩

def S_szSol (pg : Pg) : Prop := ∀ (a b : Rw (Rw Int)) (l : Int), small a → small b → -1 ≤ l → l ≤ 1048576 → ∃ r, -1 ≤ r ∧ r ≤ 1048576 ∧ Call pg 14 [.agg [rawT a, rawT b], I l] [.agg [rawT a, rawT b], I l] (I r)
theorem t_szSol {pg : Pg} (hp : pg.fn 14 = some c_laws_szSolution) (h27 : S_szT pg) : S_szSol pg := by
  intro a b l ha hb h1 h2
  have h3 := szT_le (a := a) h1
  have h4 := szT_le (a := b) h3.1
  by_cases hn : szT a l < 0
  · refine ⟨-1, by omega, by omega, Call.intro hp rfl (by simp) ?_⟩
    show wp _ _ c_laws_szSolution.body (post [.t 4] _ _ _) _
    simp [c_laws_szSolution]
    refine callR (h27 _ _ ha h1 h2) rfl rfl (fun _ => rfl) ?_
    simp [hn]
  · refine ⟨szT b (szT a l), by omega, by omega, Call.intro hp rfl (by simp) ?_⟩
    show wp _ _ c_laws_szSolution.body (post [.t 4] _ _ _) _
    simp [c_laws_szSolution]
    refine callR (h27 _ _ ha h1 h2) rfl rfl (fun _ => rfl) ?_
    simp [hn]
    refine callR (h27 _ _ hb (by omega) (by omega)) rfl rfl (fun _ => rfl) ?_
    by_cases hn2 : szT b (szT a l) < 0
    · simp [hn2]; omega
    · simp [hn2]

/-! ### Equality -/

def S_eqI (pg : Pg) : Prop := ∀ a b : Rw Int, (lst a).length ≤ 1048576 → Call pg 9 [rawI a, rawI b] [rawI a, rawI b] (B (decide (lst a = lst b)))
theorem t_eqI {pg : Pg} (hp : pg.fn 9 = some c_laws_eqInt64S) : S_eqI pg := by
  intro a b ha
  refine Call.intro hp rfl (by simp) ?_
  show wp _ _ c_laws_eqInt64S.body (post [.t 4] _ _ _) _
  by_cases hl : (lst a).length = (lst b).length
  · simp [c_laws_eqInt64S, hl]
    refine wpLoop_count (fun k e => (∀ i, i < k → (lst a)[i]? = (lst b)[i]?) ∧ e = fr [(0, some (.val (rawI a))), (1, some (.val (rawI b))), (5, some (.val (I k)))]) (lst a).length ?_ ?_ 0 _ (by omega) ?_
    · rintro k e hk ⟨h1, rfl⟩
      have hk2 : k < (lst b).length := by omega
      by_cases hne : (lst a)[k] = (lst b)[k]
      · simp [hk, hk2, hne]
        refine ⟨by omega, fun i hi => ?_⟩
        rcases Nat.lt_or_ge i k with h2 | h2
        · exact h1 i h2
        · have : i = k := by omega
          subst this
          rw [List.getElem?_eq_getElem hk, List.getElem?_eq_getElem hk2, hne]
      · simp [hk, hk2, hne]
        intro h2
        exact hne (by simp [h2])
    · rintro e ⟨h1, rfl⟩
      simp [hl]
      apply List.ext_getElem?
      intro i
      rcases Nat.lt_or_ge i (lst a).length with h2 | h2
      · exact h1 i h2
      · rw [List.getElem?_eq_none h2, List.getElem?_eq_none (by omega)]
    · exact ⟨fun i hi => by omega, by simp⟩
  · have : lst a ≠ lst b := fun h => hl (by rw [h])
    have h2 : ((lst a).length : Int) ≠ (lst b).length := by omega
    simp [c_laws_eqInt64S, h2, this]

def S_eqT (pg : Pg) : Prop := ∀ a b : Rw (Rw Int), small a → Call pg 21 [rawT a, rawT b] [rawT a, rawT b] (B (decide ((lst a).map lst = (lst b).map lst)))
theorem t_eqT {pg : Pg} (hp : pg.fn 21 = some c_laws_eqInt64SS) (h9 : S_eqI pg) : S_eqT pg := by
  intro a b ⟨ha, hr⟩
  refine Call.intro hp rfl (by simp) ?_
  show wp _ _ c_laws_eqInt64SS.body (post [.t 4] _ _ _) _
  by_cases hl : (lst a).length = (lst b).length
  · simp [c_laws_eqInt64SS, hl]
    refine wpLoop_count (fun k e => (∀ i, i < k → ((lst a).map lst)[i]? = ((lst b).map lst)[i]?) ∧ e = fr [(0, some (.val (rawT a))), (1, some (.val (rawT b))), (5, some (.val (I k)))]) (lst a).length ?_ ?_ 0 _ (by omega) ?_
    · rintro k e hk ⟨h1, rfl⟩
      have hk2 : k < (lst b).length := by omega
      simp [hk, hk2]
      refine callR (h9 _ _ (hr _ (List.getElem_mem hk))) rfl rfl (fun _ => rfl) ?_
      by_cases hne : lst (lst a)[k] = lst (lst b)[k]
      · simp [hne]
        refine ⟨by omega, fun i hi => ?_⟩
        rcases Nat.lt_or_ge i k with h2 | h2
        · have := h1 i h2
          simpa using this
        · have : i = k := by omega
          subst this
          simp [hk, hk2, hne]
      · simp [hne]
        intro h2
        have h3 := congrArg (fun l => l[k]?) h2
        simp [hk, hk2] at h3
        exact hne h3
    · rintro e ⟨h1, rfl⟩
      simp [hl]
      apply List.ext_getElem?
      intro i
      rcases Nat.lt_or_ge i (lst a).length with h2 | h2
      · exact h1 i h2
      · rw [List.getElem?_eq_none (by simpa using h2), List.getElem?_eq_none (by simp; omega)]
    · exact ⟨fun i hi => by omega, by simp⟩
  · have : (lst a).map lst ≠ (lst b).map lst := fun h => hl (by have := congrArg List.length h; simpa using this)
    have h2 : ((lst a).length : Int) ≠ (lst b).length := by omega
    simp [c_laws_eqInt64SS, h2, this]

def S_eqRack (pg : Pg) : Prop := ∀ a b : Rw (Rw Int), small a → Call pg 10 [.agg [rawT a], .agg [rawT b]] [.agg [rawT a], .agg [rawT b]] (B (decide ((lst a).map lst = (lst b).map lst)))
def S_eqSol (pg : Pg) : Prop := ∀ a b c d : Rw (Rw Int), small a → small b → Call pg 18 [.agg [rawT a, rawT b], .agg [rawT c, rawT d]] [.agg [rawT a, rawT b], .agg [rawT c, rawT d]] (B (decide ((lst a).map lst = (lst c).map lst ∧ (lst b).map lst = (lst d).map lst)))
theorem t_eqSol {pg : Pg} (hp : pg.fn 18 = some c_laws_eqSolution) (h21 : S_eqT pg) : S_eqSol pg := by
  intro a b c d ha hb
  refine Call.intro hp rfl (by simp) ?_
  show wp _ _ c_laws_eqSolution.body (post [.t 4] _ _ _) _
  simp [c_laws_eqSolution]
  refine callR (h21 _ _ ha) rfl rfl (fun _ => rfl) ?_
  by_cases h : (lst a).map lst = (lst c).map lst
  · simp [h]
    refine callR (h21 _ _ hb) rfl rfl (fun _ => rfl) ?_
    by_cases h2 : (lst b).map lst = (lst d).map lst <;> simp [h2]
  · simp [h]

end Go.Mch
/- The first functions of the program and of the reference: ranges, places in lists, tables, permutations. -/
namespace Go.Mch

def S_in (pg : Pg) (f : Nat) : Prop := ∀ n lo hi : Int, Call pg f [I n, I lo, I hi] [I n, I lo, I hi] (B (decide (lo ≤ n ∧ n ≤ hi)))
theorem t_l01In {pg : Pg} (hp : pg.fn 30 = some c_spec_l01In) : S_in pg 30 := by
  intro n lo hi
  refine Call.intro hp rfl (by simp) ?_
  show wp _ _ c_spec_l01In.body (post [.t 6] _ _ _) _
  by_cases h1 : lo ≤ n
  · by_cases h2 : n ≤ hi <;> simp [c_spec_l01In, h1, h2]
  · simp [c_spec_l01In, h1, undefV]
theorem t_within {pg : Pg} (hp : pg.fn 35 = some c_impl_within) : S_in pg 35 := by
  intro n lo hi
  refine Call.intro hp rfl (by simp) ?_
  show wp _ _ c_impl_within.body (post [.t 6] _ _ _) _
  by_cases h1 : lo ≤ n
  · by_cases h2 : n ≤ hi <;> simp [c_impl_within, h1, h2]
  · simp [c_impl_within, h1, undefV]

def S_own (pg : Pg) : Prop := ∀ xs : List Int, xs.length ≤ 1048576 → Call pg 31 [ix xs] [ix xs] (.mem .own (some 1) (xs.map I))
theorem t_own {pg : Pg} (hp : pg.fn 31 = some c_spec_l01Own) : S_own pg := by
  intro xs hl
  refine Call.intro hp rfl (by simp) ?_
  show wp _ _ c_spec_l01Own.body (post [.t 2] _ _ _) _
  simp [c_spec_l01Own, roomy]
  omega

/-- The first place of a number in a list, or -1. -/
def ixOf : List Int → Int → Int
  | [], _ => -1
  | x :: xs, n => if x = n then 0 else if ixOf xs n < 0 then -1 else ixOf xs n + 1
theorem ixOf_le : ∀ (xs : List Int) (n : Int), -1 ≤ ixOf xs n ∧ ixOf xs n < xs.length
  | [], n => by simp [ixOf]
  | x :: xs, n => by
    have := ixOf_le xs n
    unfold ixOf
    simp only [List.length_cons]
    split
    · omega
    · split <;> omega
theorem ixOf_mem : ∀ (xs : List Int) (n : Int), 0 ≤ ixOf xs n ↔ n ∈ xs
  | [], n => by simp [ixOf]
  | x :: xs, n => by
    have := ixOf_mem xs n
    have h2 := ixOf_le xs n
    unfold ixOf
    by_cases h : x = n
    · subst h; simp
    · rw [if_neg h]
      split
      · rename_i h3
        simp only [List.mem_cons]
        constructor
        · intro h4; omega
        · intro h4
          rcases h4 with h4 | h4
          · exact (h h4.symm).elim
          · have := this.2 h4; omega
      · rename_i h3
        simp only [List.mem_cons]
        exact ⟨fun _ => .inr (this.1 (by omega)), fun _ => by omega⟩
/-- Found behind k places that do not have it. -/
theorem ixOf_at : ∀ {xs : List Int} {n : Int} {k : Nat} (hk : k < xs.length), (∀ i (h : i < k), xs[i] ≠ n) → xs[k] = n → ixOf xs n = k
  | x :: xs, n, 0, _, _, h => by simp at h; simp [ixOf, h]
  | x :: xs, n, k + 1, hk, h1, h2 => by
    have h0 := h1 0 (by omega)
    simp only [List.getElem_cons_zero] at h0
    have := ixOf_at (xs := xs) (n := n) (k := k) (by simpa using hk) (fun i hi => by
      have := h1 (i + 1) (by omega)
      simpa using this) (by simpa using h2)
    unfold ixOf
    rw [if_neg h0, this, if_neg (by omega)]
    omega
theorem ixOf_none {xs : List Int} {n : Int} (h : ∀ i (h : i < xs.length), xs[i] ≠ n) : ixOf xs n = -1 := by
  have h1 := ixOf_le xs n
  have h2 : ¬ 0 ≤ ixOf xs n := fun hh => by
    obtain ⟨i, hi, he⟩ := List.getElem_of_mem ((ixOf_mem xs n).1 hh)
    exact h i hi he
  omega

def S_index (pg : Pg) : Prop := ∀ (xs : List Int) (n : Int), xs.length ≤ 1048576 → Call pg 69 [ix xs, I n] [ix xs, I n] (I (ixOf xs n))
theorem t_index {pg : Pg} (hp : pg.fn 69 = some c_spec_l01Index) : S_index pg := by
  intro xs n hl
  refine Call.intro hp rfl (by simp) ?_
  show wp _ _ c_spec_l01Index.body (post [.t 4] _ _ _) _
  simp [c_spec_l01Index]
  refine wpLoop_count (fun k e => (∀ i (h : i < xs.length), i < k → xs[i] ≠ n) ∧ e = fr [(0, some (.val (ix xs))), (1, some (.val (I n))), (5, some (.val (I k)))]) xs.length ?_ ?_ 0 _ (by omega) ?_
  · rintro k e hk ⟨h1, rfl⟩
    by_cases hx : xs[k] = n
    · simp [hk, hx]
      exact (ixOf_at hk (fun i hi => h1 i (by omega) hi) hx).symm
    · simp [hk, hx]
      refine ⟨by omega, fun i hi hik => ?_⟩
      rcases Nat.lt_or_ge i k with h2 | h2
      · exact h1 i hi h2
      · have : i = k := by omega
        subst this; exact hx
  · rintro e ⟨h1, rfl⟩
    simp
    exact (ixOf_none fun i hi => h1 i hi hi).symm
  · simp

def S_has (pg : Pg) : Prop := ∀ (xs : List Int) (n : Int), xs.length ≤ 1048576 → Call pg 62 [ix xs, I n] [ix xs, I n] (B (decide (n ∈ xs)))
theorem t_has {pg : Pg} (hp : pg.fn 62 = some c_spec_l01Has) (h69 : S_index pg) : S_has pg := by
  intro xs n hl
  refine Call.intro hp rfl (by simp) ?_
  show wp _ _ c_spec_l01Has.body (post [.t 4] _ _ _) _
  simp [c_spec_l01Has]
  refine callR (h69 xs n hl) rfl rfl (fun _ => rfl) ?_
  simp [ixOf_mem]

/-! ### Tables -/

/-- A square table of its own places. -/
def Tab (t : List (List Int)) : Prop := ∀ r ∈ t, r.length = t.length ∧ ∀ v ∈ r, 0 ≤ v ∧ v < t.length

def isTable (t : List (List Int)) : Prop := 1 ≤ t.length ∧ t.length ≤ 12 ∧ Tab t

instance (t : List (List Int)) : Decidable (Tab t) := by unfold Tab; infer_instance
instance (t : List (List Int)) : Decidable (isTable t) := by unfold isTable; infer_instance

def S_table (pg : Pg) (f : Nat) : Prop := ∀ t : List (List Int), t.length ≤ 1048576 → (∀ r ∈ t, r.length ≤ 1048576) → Call pg f [tb t] [tb t] (B (decide (isTable t)))

@[simp] theorem tbL_getElem {t : List (List Int)} {k : Nat} (h : k < (tbL t).length) : (tbL t)[k] = ix (t[k]'(by simpa using h)) := by simp [tbL]

theorem t_l01Table {pg : Pg} (hp : pg.fn 46 = some c_spec_l01Table) (h30 : S_in pg 30) : S_table pg 46 := by
  intro t hl hr
  refine Call.intro hp rfl (by simp) ?_
  show wp _ _ c_spec_l01Table.body (post [.t 2] _ _ _) _
  simp [c_spec_l01Table]
  refine callR (h30 _ 1 12) rfl rfl (fun _ => rfl) ?_
  by_cases hn : 1 ≤ t.length ∧ t.length ≤ 12
  · have hn' : (1 : Int) ≤ t.length ∧ (t.length : Int) ≤ 12 := by omega
    simp [hn']
    refine wpLoop_count (fun k e => (∀ i (h : i < t.length), i < k → t[i].length = t.length ∧ ∀ v ∈ t[i], 0 ≤ v ∧ v < t.length) ∧ e = fr [(0, some (.val (tb t))), (3, some (.val (I t.length))), (4, some (.val (I k)))]) t.length ?_ ?_ 0 _ (by omega) ?_
    · rintro k e hk ⟨h1, rfl⟩
      by_cases hlen : t[k].length = t.length
      · simp [hk, hlen]
        refine wpLoop_count (fun j e => (∀ i (h : i < t[k].length), i < j → 0 ≤ t[k][i] ∧ t[k][i] < t.length) ∧ e = fr [(0, some (.val (tb t))), (3, some (.val (I t.length))), (4, some (.val (I k))), (5, some (.val (I j)))]) t.length ?_ ?_ 0 _ (by omega) ?_
        · rintro j e hj ⟨h2, rfl⟩
          have hj2 : j < t[k].length := by omega
          simp [hk, hj, hj2]
          refine ⟨by omega, ?_⟩
          refine callR (h30 _ 0 _) rfl rfl (fun _ => rfl) ?_
          by_cases hv : 0 ≤ t[k][j] ∧ t[k][j] ≤ (t.length : Int) - 1
          · simp [hv]
            refine ⟨by omega, fun i hi hij => ?_⟩
            rcases Nat.lt_or_ge i j with h3 | h3
            · exact h2 i hi h3
            · have : i = j := by omega
              subst this; omega
          · have hvd : ¬ isTable t := fun ht => hv (by
              have := (ht.2.2 t[k] (List.getElem_mem hk)).2 t[k][j] (List.getElem_mem hj2)
              omega)
            simp [hv, hvd]
        · rintro e ⟨h2, rfl⟩
          simp
          refine ⟨by omega, fun i hi hik => ?_⟩
          rcases Nat.lt_or_ge i k with h3 | h3
          · exact h1 i hi h3
          · have : i = k := by omega
            subst this
            refine ⟨hlen, fun v hv => ?_⟩
            obtain ⟨j, hj, rfl⟩ := List.getElem_of_mem hv
            exact h2 j hj (by omega)
        · simp
      · have hvd : ¬ isTable t := fun ht => hlen (ht.2.2 t[k] (List.getElem_mem hk)).1
        have hne : ((t[k].length : Nat) : Int) ≠ t.length := by omega
        simp [hk, hne, hvd]
    · rintro e ⟨h1, rfl⟩
      have : isTable t := ⟨hn.1, hn.2, fun r hr => by
        obtain ⟨i, hi, rfl⟩ := List.getElem_of_mem hr
        exact h1 i hi hi⟩
      simp [this]
    · simp
  · have hvd : ¬ isTable t := fun ht => hn ⟨ht.1, ht.2.1⟩
    have hn' : ¬ ((1 : Int) ≤ t.length ∧ (t.length : Int) ≤ 12) := by omega
    simp [hn', hvd]

end Go.Mch
/- Permutations; rows that pass a test; tables and pair maps as the program and the reference see them. -/
namespace Go.Mch

def isPerm (p : List Int) : Prop := 1 ≤ p.length ∧ p.length ≤ 12 ∧ ∀ x : Nat, x < p.length → (x : Int) ∈ p
instance (p : List Int) : Decidable (isPerm p) := by unfold isPerm; infer_instance

def S_perm (pg : Pg) (f : Nat) : Prop := ∀ p : List Int, p.length ≤ 1048576 → Call pg f [ix p] [ix p] (B (decide (isPerm p)))

theorem t_l01Perm {pg : Pg} (hp : pg.fn 47 = some c_spec_l01Perm) (h30 : S_in pg 30) (h62 : S_has pg) : S_perm pg 47 := by
  intro p hl
  refine Call.intro hp rfl (by simp) ?_
  show wp _ _ c_spec_l01Perm.body (post [.t 2] _ _ _) _
  simp [c_spec_l01Perm]
  refine callR (h30 _ 1 12) rfl rfl (fun _ => rfl) ?_
  by_cases hn : 1 ≤ p.length ∧ p.length ≤ 12
  · have hn' : (1 : Int) ≤ p.length ∧ (p.length : Int) ≤ 12 := by omega
    simp [hn']
    refine wpLoop_count (fun k e => (∀ x : Nat, x < k → (x : Int) ∈ p) ∧ e = fr [(0, some (.val (ix p))), (3, some (.val (I p.length))), (4, some (.val (I k)))]) p.length ?_ ?_ 0 _ (by omega) ?_
    · rintro k e hk ⟨h1, rfl⟩
      simp [hk]
      refine callR (h62 p k hl) rfl rfl (fun _ => rfl) ?_
      by_cases hm : (k : Int) ∈ p
      · simp [hm]
        refine ⟨by omega, fun x hx => ?_⟩
        rcases Nat.lt_or_ge x k with h2 | h2
        · exact h1 x h2
        · have : x = k := by omega
          subst this; exact hm
      · have hvd : ¬ isPerm p := fun h => hm (h.2.2 k hk)
        simp [hm, hvd]
    · rintro e ⟨h1, rfl⟩
      have : isPerm p := ⟨hn.1, hn.2, h1⟩
      simp [this]
    · simp
  · have hvd : ¬ isPerm p := fun h => hn ⟨h.1, h.2.1⟩
    have hn' : ¬ ((1 : Int) ≤ p.length ∧ (p.length : Int) ≤ 12) := by omega
    simp [hn', hvd]

/-- All in range. -/
def inR (lo hi : Int) (xs : List Int) : Prop := ∀ x ∈ xs, lo ≤ x ∧ x ≤ hi
instance (lo hi : Int) (xs : List Int) : Decidable (inR lo hi xs) := by unfold inR; infer_instance

def S_allWithin (pg : Pg) : Prop := ∀ (xs : List Int) (lo hi : Int), xs.length ≤ 1048576 → Call pg 54 [ix xs, I lo, I hi] [ix xs, I lo, I hi] (B (decide (inR lo hi xs)))
theorem t_allWithin {pg : Pg} (hp : pg.fn 54 = some c_impl_allWithin) (h35 : S_in pg 35) : S_allWithin pg := by
  intro xs lo hi hl
  refine Call.intro hp rfl (by simp) ?_
  show wp _ _ c_impl_allWithin.body (post [.t 6] _ _ _) _
  simp [c_impl_allWithin]
  refine wpLoop_count (fun k e => (∀ i (h : i < xs.length), i < k → lo ≤ xs[i] ∧ xs[i] ≤ hi) ∧ e = fr [(1, some (.val (I lo))), (2, some (.val (I hi))), (9, some (.val (ix xs))), (10, some (.val (I xs.length))), (11, some (.val (I k)))]) xs.length ?_ ?_ 0 _ (by omega) ?_
  · rintro k e hk ⟨h1, rfl⟩
    simp [hk]
    refine callR (h35 _ _ _) rfl rfl (fun _ => rfl) ?_
    by_cases hm : lo ≤ xs[k] ∧ xs[k] ≤ hi
    · simp [hm]
      refine ⟨by omega, fun i hi hik => ?_⟩
      rcases Nat.lt_or_ge i k with h2 | h2
      · exact h1 i hi h2
      · have : i = k := by omega
        subst this; exact hm
    · have hvd : ¬ inR lo hi xs := fun h => hm (h _ (List.getElem_mem hk))
      simp [hm, hvd]
  · rintro e ⟨h1, rfl⟩
    have : inR lo hi xs := fun x hx => by
      obtain ⟨i, hi, rfl⟩ := List.getElem_of_mem hx
      exact h1 i hi hi
    simp [this]
  · simp

def S_areElements (pg : Pg) : Prop := ∀ (n : Int) (xs : List Int), xs.length ≤ 1048576 → 0 ≤ n → n ≤ 1048576 → Call pg 39 [I n, ix xs] [I n, ix xs] (B (decide (inR 0 (n - 1) xs)))
theorem t_areElements {pg : Pg} (hp : pg.fn 39 = some c_impl_areElements) (h54 : S_allWithin pg) : S_areElements pg := by
  intro n xs hl h1 h2
  refine Call.intro hp rfl (by simp) ?_
  show wp _ _ c_impl_areElements.body (post [.t 4] _ _ _) _
  simp [c_impl_areElements]
  refine ⟨by omega, ?_⟩
  refine callR (h54 _ _ _ hl) rfl rfl (fun _ => rfl) ?_
  simp

/-- Each of its places once. -/
def isPermuted (p : List Int) : Prop := (∀ x ∈ p, 0 ≤ x ∧ x < p.length) ∧ p.Nodup
instance (p : List Int) : Decidable (isPermuted p) := by unfold isPermuted; infer_instance

/-- What has been seen. -/
def seenL (p : List Int) (k : Nat) : List T := (List.range p.length).map fun i : Nat => B (decide ((i : Int) ∈ p.take k))
@[simp] theorem seenL_length (p : List Int) (k : Nat) : (seenL p k).length = p.length := by simp [seenL]
theorem seenL_get {p : List Int} {k i : Nat} (h : i < p.length) : (seenL p k)[i]'(by simpa using h) = B (decide ((i : Int) ∈ p.take k)) := by simp [seenL]
theorem seenL_zero (p : List Int) : seenL p 0 = List.replicate p.length (B false) := by
  apply List.ext_getElem
  · simp
  · intro i h1 h2; simp [seenL]
theorem seenL_set {p : List Int} {k i : Nat} (hk : k < p.length) (hi : p[k] = i) : (seenL p k).set i (B true) = seenL p (k + 1) := by
  apply List.ext_getElem
  · simp
  · intro j h1 h2
    simp only [List.getElem_set, seenL, List.getElem_map, List.getElem_range, List.take_succ_eq_append_getElem hk, List.mem_append, List.mem_singleton]
    by_cases h : i = j
    · subst h; simp [hi]
    · rw [if_neg h]
      have : ¬ ((j : Int) = p[k]) := by omega
      simp [this]

theorem nodup_take {p : List Int} {k : Nat} (hk : k < p.length) (h : (p.take k).Nodup) (hm : p[k] ∉ p.take k) : (p.take (k + 1)).Nodup := by
  rw [List.take_succ_eq_append_getElem hk, List.nodup_append]
  refine ⟨h, by simp, fun a ha b hb => ?_⟩
  simp at hb
  subst hb
  intro e; subst e; exact hm ha

def S_isPermuted (pg : Pg) : Prop := ∀ p : List Int, p.length ≤ 1048576 → Call pg 66 [ix p] [ix p] (B (decide (isPermuted p)))
theorem t_isPermuted {pg : Pg} (hp : pg.fn 66 = some c_impl_isPermuted) (h35 : S_in pg 35) : S_isPermuted pg := by
  intro p hl
  refine Call.intro hp rfl (by simp) ?_
  show wp _ _ c_impl_isPermuted.body (post [.t 2] _ _ _) _
  simp [c_impl_isPermuted]
  refine ⟨by unfold roomy; omega, ?_⟩
  refine wpLoop_count (fun k e => (∀ i (h : i < p.length), i < k → 0 ≤ p[i] ∧ p[i] < p.length) ∧ (p.take k).Nodup ∧ e = fr [(0, some (.val (ix p))), (3, some (.val (.mem .own (some 1) (seenL p k)))), (9, some (.val (ix p))), (10, some (.val (I p.length))), (11, some (.val (I k)))]) p.length ?_ ?_ 0 _ (by omega) ?_
  · rintro k e hk ⟨h1, h2, rfl⟩
    simp [hk]
    refine ⟨by omega, ?_⟩
    refine callR (h35 _ _ _) rfl rfl (fun _ => rfl) ?_
    by_cases hv : 0 ≤ p[k] ∧ p[k] ≤ (p.length : Int) - 1
    · obtain ⟨i, hi⟩ : ∃ i : Nat, p[k] = i := ⟨p[k].toNat, by omega⟩
      have hil : i < p.length := by omega
      have hv' : 0 ≤ p[k] ∧ p[k] ≤ (p.length : Int) - 1 := hv
      rw [hi] at hv'
      by_cases hm : (i : Int) ∈ p.take k
      · have hvd : ¬ isPermuted p := fun h => by
          have h3 : (p.take (k + 1)).Nodup := h.2.sublist (List.take_sublist _ _)
          rw [List.take_succ_eq_append_getElem hk, List.nodup_append] at h3
          exact h3.2.2 _ hm _ (by simp) hi.symm
        simp [hi, hv', hil, seenL_get, hm, hvd]
      · simp [hi, hv', hil, seenL_get, hm]
        refine ⟨by omega, by omega, fun j hj hjk => ?_, nodup_take hk h2 (by rw [hi]; exact hm), ?_⟩
        · rcases Nat.lt_or_ge j k with h3 | h3
          · exact h1 j hj h3
          · have : j = k := by omega
            subst this; omega
        · rw [seenL_set hk hi]
    · have hvd : ¬ isPermuted p := fun h => hv (by have := h.1 _ (List.getElem_mem hk); omega)
      simp [hv, hvd, undefV]
  · rintro e ⟨h1, h2, rfl⟩
    have : isPermuted p := ⟨fun x hx => by
      obtain ⟨i, hi, rfl⟩ := List.getElem_of_mem hx
      exact h1 i hi hi, by rwa [List.take_length] at h2⟩
    simp [this]
  · simp [seenL_zero]

/-! ### A test for each row -/

def S_indexFunc (pg : Pg) : Prop := ∀ (t : List (List Int)) (P : List Int → Bool) (f : Nat) (caps : List T), t.length ≤ 1048576 → T.eryL .old caps = caps → T.noOwnL caps = true → (∀ r ∈ t, Call pg f (ix r :: caps) (ix r :: caps) (B (P r))) →
  ∃ r : Int, (0 ≤ r ↔ t.any P = true) ∧ Call pg 70 [tb t, .fn f caps] [tb t, .fn f caps] (I r)
theorem t_indexFunc {pg : Pg} (hp : pg.fn 70 = some c_slices_IndexFunc_____int64___int64_) : S_indexFunc pg := by
  intro t P f caps hl hc hno hf
  by_cases hex : ∃ (k : Nat) (hk : k < t.length), (∀ i (h : i < k), P t[i] = false) ∧ P t[k] = true
  · obtain ⟨m, hm, hm1, hm2⟩ := hex
    refine ⟨m, ⟨fun _ => List.any_eq_true.2 ⟨_, List.getElem_mem hm, hm2⟩, fun _ => by omega⟩, Call.intro hp rfl (by simp [hno]) ?_⟩
    show wp _ _ c_slices_IndexFunc_____int64___int64_.body (post [.t 4] _ _ _) _
    simp [c_slices_IndexFunc_____int64___int64_]
    refine wpLoop_count (fun k e => k ≤ m ∧ e = fr [(0, some (.val (tb t))), (1, some (.val (.fn f caps))), (7, some (.val (I t.length))), (8, some (.val (I k)))]) t.length ?_ ?_ 0 _ (by omega) ?_
    · rintro k e hk ⟨h1, rfl⟩
      simp [hk]
      refine callR (by simpa [hc] using hf t[k] (List.getElem_mem hk)) rfl rfl (fun _ => rfl) ?_
      rcases Nat.lt_or_ge k m with h2 | h2
      · simp [hm1 k h2]
        omega
      · have : k = m := by omega
        subst this
        simp [hm2, hno]
    · rintro e ⟨h1, rfl⟩
      omega
    · simp
  · have hall : ∀ i (h : i < t.length), P t[i] = false := by
      intro i
      induction i using Nat.strongRecOn with
      | _ i ih =>
        intro hi
        cases hv : P t[i] with
        | false => rfl
        | true => exact (hex ⟨i, hi, fun j hj => ih j hj (by omega), hv⟩).elim
    refine ⟨-1, ⟨fun h => by omega, fun h => by
      obtain ⟨r, hr, h2⟩ := List.any_eq_true.1 h
      obtain ⟨i, hi, rfl⟩ := List.getElem_of_mem hr
      rw [hall i hi] at h2; cases h2⟩, Call.intro hp rfl (by simp [hno]) ?_⟩
    show wp _ _ c_slices_IndexFunc_____int64___int64_.body (post [.t 4] _ _ _) _
    simp [c_slices_IndexFunc_____int64___int64_]
    refine wpLoop_count (fun k e => e = fr [(0, some (.val (tb t))), (1, some (.val (.fn f caps))), (7, some (.val (I t.length))), (8, some (.val (I k)))]) t.length ?_ ?_ 0 _ (by omega) ?_
    · rintro k e hk rfl
      simp [hk]
      refine callR (by simpa [hc] using hf t[k] (List.getElem_mem hk)) rfl rfl (fun _ => rfl) ?_
      simp [hall k hk]
      omega
    · rintro e rfl
      simp [hno]
    · simp

def S_containsFunc (pg : Pg) : Prop := ∀ (t : List (List Int)) (P : List Int → Bool) (f : Nat) (caps : List T), t.length ≤ 1048576 → T.eryL .old caps = caps → T.noOwnL caps = true → (∀ r ∈ t, Call pg f (ix r :: caps) (ix r :: caps) (B (P r))) →
  Call pg 63 [tb t, .fn f caps] [tb t, .fn f caps] (B (t.any P))
theorem t_containsFunc {pg : Pg} (hp : pg.fn 63 = some c_slices_ContainsFunc_____int64___int64_) (h70 : S_indexFunc pg) : S_containsFunc pg := by
  intro t P f caps hl hc hno hf
  obtain ⟨r, h1, h2⟩ := h70 t P f caps hl hc hno hf
  refine Call.intro hp rfl (by simp [hno]) ?_
  show wp _ _ c_slices_ContainsFunc_____int64___int64_.body (post [.t 4] _ _ _) _
  simp [c_slices_ContainsFunc_____int64___int64_, hno, hc]
  refine callR h2 rfl rfl (fun _ => rfl) ?_
  cases h : t.any P with
  | true => simp [h1.2 h, hno]
  | false =>
    have : ¬ 0 ≤ r := fun hh => by rw [h1.1 hh] at h; cases h
    simp [this, hno]

end Go.Mch
/- Tables and pair maps as the program and the reference see them. -/
namespace Go.Mch

def S_isTable1 (pg : Pg) : Prop := ∀ (r : List Int) (n : Int), r.length ≤ 1048576 → 0 ≤ n → n ≤ 1048576 → Call pg 64 [ix r, .mem .old none [I n]] [ix r, .mem .old none [I n]] (B (decide ((r.length : Int) ≠ n ∨ ¬ inR 0 (n - 1) r)))
theorem t_isTable1 {pg : Pg} (hp : pg.fn 64 = some c_impl_IsTable_1) (h54 : S_allWithin pg) : S_isTable1 pg := by
  intro r n hl h1 h2
  refine Call.intro hp rfl (by simp) ?_
  show wp _ _ c_impl_IsTable_1.body (post [.t 3] _ _ _) _
  by_cases hn : (r.length : Int) = n
  · simp [c_impl_IsTable_1, hn]
    refine ⟨by omega, ?_⟩
    refine callR (h54 _ _ _ hl) rfl rfl (fun _ => rfl) ?_
    by_cases hr : inR 0 (n - 1) r <;> simp [hr]
  · simp [c_impl_IsTable_1, hn, undefV]

theorem t_isTable {pg : Pg} (hp : pg.fn 50 = some c_impl_IsTable) (h35 : S_in pg 35) (h64 : S_isTable1 pg) (h63 : S_containsFunc pg) : S_table pg 50 := by
  intro t hl hr
  refine Call.intro hp rfl (by simp) ?_
  show wp _ _ c_impl_IsTable.body (post [.t 2] _ _ _) _
  simp [c_impl_IsTable]
  refine callR (h35 _ 1 12) rfl rfl (fun _ => rfl) ?_
  by_cases hn : 1 ≤ t.length ∧ t.length ≤ 12
  · have hn' : (1 : Int) ≤ t.length ∧ (t.length : Int) ≤ 12 := by omega
    simp [hn']
    refine callR (h63 t (fun r => decide ((r.length : Int) ≠ t.length ∨ ¬ inR 0 ((t.length : Int) - 1) r)) 64 [.mem .old none [I t.length]] hl rfl rfl (fun r hm => h64 r _ (hr r hm) (by omega) (by omega))) rfl rfl (fun _ => rfl) ?_
    simp
    by_cases ht : isTable t
    · simp [ht]
      intro r hm
      have := ht.2.2 r hm
      exact ⟨by omega, fun v hv => by have := this.2 v hv; omega⟩
    · simp [ht]
      rcases Classical.em (∃ x, x ∈ t ∧ (¬ ((x.length : Nat) : Int) = t.length ∨ ¬ inR 0 ((t.length : Int) - 1) x)) with h | h
      · exact h
      · exfalso
        refine ht ⟨hn.1, hn.2, fun r hm => ?_⟩
        have h1 : ((r.length : Nat) : Int) = t.length ∧ inR 0 ((t.length : Int) - 1) r := by
          refine Classical.byContradiction fun h2 => h ⟨r, hm, ?_⟩
          rcases Classical.em (((r.length : Nat) : Int) = t.length) with h3 | h3
          · exact .inr fun h4 => h2 ⟨h3, h4⟩
          · exact .inl h3
        exact ⟨by omega, fun v hv => by have := h1.2 v hv; omega⟩
  · have hvd : ¬ isTable t := fun ht => hn ⟨ht.1, ht.2.1⟩
    have hn' : ¬ ((1 : Int) ≤ t.length ∧ (t.length : Int) ≤ 12) := by omega
    simp [hn', hvd, undefV]

def S_permRows1 (pg : Pg) : Prop := ∀ r : List Int, r.length ≤ 1048576 → Call pg 65 [ix r] [ix r] (B (!decide (isPermuted r)))
theorem t_permRows1 {pg : Pg} (hp : pg.fn 65 = some c_impl_permutationRows_1) (h66 : S_isPermuted pg) : S_permRows1 pg := by
  intro r hl
  refine Call.intro hp rfl (by simp) ?_
  show wp _ _ c_impl_permutationRows_1.body (post [.t 2] _ _ _) _
  simp [c_impl_permutationRows_1]
  refine callR (h66 _ hl) rfl rfl (fun _ => rfl) ?_
  simp

def permRows (t : List (List Int)) : Prop := ∀ r ∈ t, isPermuted r
instance (t : List (List Int)) : Decidable (permRows t) := by unfold permRows; infer_instance

def S_permRows (pg : Pg) : Prop := ∀ t : List (List Int), t.length ≤ 1048576 → (∀ r ∈ t, r.length ≤ 1048576) → Call pg 51 [tb t] [tb t] (B (decide (permRows t)))
theorem t_permRows {pg : Pg} (hp : pg.fn 51 = some c_impl_permutationRows) (h65 : S_permRows1 pg) (h63 : S_containsFunc pg) : S_permRows pg := by
  intro t hl hr
  refine Call.intro hp rfl (by simp) ?_
  show wp _ _ c_impl_permutationRows.body (post [.t 2] _ _ _) _
  simp [c_impl_permutationRows]
  refine callR (h63 t (fun r => !decide (isPermuted r)) 65 [] hl rfl rfl (fun r hm => h65 r (hr r hm))) rfl rfl (fun _ => rfl) ?_
  simp only [permRows]
  cases h : t.any fun r => !decide (isPermuted r) with
  | true =>
    obtain ⟨r, h1, h2⟩ := List.any_eq_true.1 h
    have : ¬ ∀ r, r ∈ t → isPermuted r := fun hh => by simp [hh r h1] at h2
    simp [this]
  | false =>
    have : ∀ r, r ∈ t → isPermuted r := fun r hr => by
      have := List.any_eq_false.1 h r hr
      simpa using this
    simp
    exact decide_eq_true this

def S_same (pg : Pg) : Prop := ∀ a b : List Int, a.length ≤ 1048576 → Call pg 67 [ix a, ix b] [ix a, ix b] (B (decide (a = b)))
theorem t_same {pg : Pg} (hp : pg.fn 67 = some c_spec_l01Same) : S_same pg := by
  intro a b ha
  refine Call.intro hp rfl (by simp) ?_
  show wp _ _ c_spec_l01Same.body (post [.t 4] _ _ _) _
  by_cases hl : a.length = b.length
  · simp [c_spec_l01Same, hl]
    refine wpLoop_count (fun k e => (∀ i, i < k → a[i]? = b[i]?) ∧ e = fr [(0, some (.val (ix a))), (1, some (.val (ix b))), (5, some (.val (I k)))]) a.length ?_ ?_ 0 _ (by omega) ?_
    · rintro k e hk ⟨h1, rfl⟩
      have hk2 : k < b.length := by omega
      by_cases hne : a[k] = b[k]
      · simp [hk, hk2, hne]
        refine ⟨by omega, fun i hi => ?_⟩
        rcases Nat.lt_or_ge i k with h2 | h2
        · exact h1 i h2
        · have : i = k := by omega
          subst this
          rw [List.getElem?_eq_getElem hk, List.getElem?_eq_getElem hk2, hne]
      · simp [hk, hk2, hne]
        intro h2
        exact hne (by simp [h2])
    · rintro e ⟨h1, rfl⟩
      simp [hl]
      apply List.ext_getElem?
      intro i
      rcases Nat.lt_or_ge i a.length with h2 | h2
      · exact h1 i h2
      · rw [List.getElem?_eq_none h2, List.getElem?_eq_none (by omega)]
    · exact ⟨fun i hi => by omega, by simp⟩
  · have : a ≠ b := fun h => hl (by rw [h])
    have h2 : (a.length : Int) ≠ b.length := by omega
    simp [c_spec_l01Same, h2, this]

/-! ### Pair maps -/

abbrev sol (f s : List (List Int)) : T := .agg [tb f, tb s]
def isPairMap (f s : List (List Int)) : Prop := isTable f ∧ isTable s ∧ f.length = s.length
instance (f s : List (List Int)) : Decidable (isPairMap f s) := by unfold isPairMap; infer_instance

def fits (t : List (List Int)) : Prop := t.length ≤ 1048576 ∧ ∀ r ∈ t, r.length ≤ 1048576

def S_pairMap (pg : Pg) (n : Nat) : Prop := ∀ f s : List (List Int), fits f → fits s → Call pg n [sol f s] [sol f s] (B (decide (isPairMap f s)))
theorem t_l02Map {pg : Pg} (hp : pg.fn 56 = some c_spec_l02Map) (h46 : S_table pg 46) : S_pairMap pg 56 := by
  intro f s hf hs
  refine Call.intro hp rfl (by simp) ?_
  show wp _ _ c_spec_l02Map.body (post [.t 2] _ _ _) _
  simp [c_spec_l02Map]
  refine callR (h46 _ hf.1 hf.2) rfl rfl (fun _ => rfl) ?_
  by_cases h1 : isTable f
  · simp [h1]
    refine callR (h46 _ hs.1 hs.2) rfl rfl (fun _ => rfl) ?_
    by_cases h2 : isTable s
    · simp [h2, isPairMap, h1]
      omega
    · simp [h2, isPairMap, undefV]
  · simp [h1, isPairMap, undefV]
theorem t_isPairMap {pg : Pg} (hp : pg.fn 59 = some c_impl_IsPairMap) (h50 : S_table pg 50) : S_pairMap pg 59 := by
  intro f s hf hs
  refine Call.intro hp rfl (by simp) ?_
  show wp _ _ c_impl_IsPairMap.body (post [.t 2] _ _ _) _
  simp [c_impl_IsPairMap]
  refine callR (h50 _ hf.1 hf.2) rfl rfl (fun _ => rfl) ?_
  by_cases h1 : isTable f
  · simp [h1]
    refine callR (h50 _ hs.1 hs.2) rfl rfl (fun _ => rfl) ?_
    by_cases h2 : isTable s
    · simp [h2, isPairMap, h1]
      omega
    · simp [h2, isPairMap, undefV]
  · simp [h1, isPairMap, undefV]

/-! ### Values of tables -/

/-- The value of a table at places. -/
def v2 (t : List (List Int)) (x y : Nat) : Int := (t.getD x []).getD y 0
theorem get_v2 {t : List (List Int)} {x y : Nat} (hx : x < t.length) (hy : y < (t[x]).length) : (t[x])[y] = v2 t x y := by
  simp [v2, List.getD_eq_getElem?_getD, hx, hy]
theorem Tab.row {t : List (List Int)} (h : Tab t) {x : Nat} (hx : x < t.length) : (t[x]).length = t.length := (h _ (List.getElem_mem hx)).1
theorem Tab.nonneg {t : List (List Int)} (h : Tab t) (x y : Nat) : 0 ≤ v2 t x y := by
  unfold v2
  rw [List.getD_eq_getElem?_getD, List.getD_eq_getElem?_getD]
  cases h1 : t[x]? with
  | none => simp
  | some r =>
    simp only [Option.getD_some]
    cases h2 : r[y]? with
    | none => simp
    | some v => exact ((h r (List.mem_of_getElem? h1)).2 v (List.mem_of_getElem? h2)).1
theorem Tab.lt {t : List (List Int)} (h : Tab t) (h0 : 0 < t.length) (x y : Nat) : v2 t x y < t.length := by
  unfold v2
  rw [List.getD_eq_getElem?_getD, List.getD_eq_getElem?_getD]
  cases h1 : t[x]? with
  | none => simp; omega
  | some r =>
    simp only [Option.getD_some]
    cases h2 : r[y]? with
    | none => simp; omega
    | some v => exact ((h r (List.mem_of_getElem? h1)).2 v (List.mem_of_getElem? h2)).2
theorem Tab.ltN {t : List (List Int)} (h : Tab t) (h0 : 0 < t.length) (x y : Nat) : (v2 t x y).toNat < t.length := by
  have := h.lt h0 x y
  have := h.nonneg x y
  omega

@[simp] theorem tdiv_nat (a b : Nat) : (a : Int).tdiv (b : Int) = ((a / b : Nat) : Int) := rfl
@[simp] theorem tmod_nat (a b : Nat) : (a : Int).tmod (b : Int) = ((a % b : Nat) : Int) := rfl

theorem least {P : Nat → Prop} {m : Nat} (h : ∃ k, k < m ∧ P k) : ∃ k, k < m ∧ P k ∧ ∀ i, i < k → ¬ P i := by
  obtain ⟨k, h1, h2⟩ := h
  induction k using Nat.strongRecOn with
  | _ k ih =>
    by_cases hh : ∃ i, i < k ∧ P i
    · obtain ⟨i, h3, h4⟩ := hh
      exact ih i h3 (by omega) h4
    · exact ⟨k, h1, h2, fun i hi hp => hh ⟨i, hi, hp⟩⟩

end Go.Mch
/- Marks: numbers written into what was handed over, and read again. -/
namespace Go.Mch

/-- A slice of the frame's own, or nil. -/
def ownI : Option (List Int) → T
  | none => nil
  | some xs => .mem .own (some 1) (xs.map I)

def up (k : Int) (n : Nat) : List Int := (List.range n).map fun i : Nat => k + i
@[simp] theorem up_length (k : Int) (n : Nat) : (up k n).length = n := by simp [up]

def held : List Int → Int → Int
  | [], k => k
  | x :: xs, k => if x = k then held xs (k + 1) else -1

theorem held_up : ∀ (n : Nat) (k : Int), held (up k n) k = k + n
  | 0, k => by simp [up, held]
  | n + 1, k => by
    have h : up k (n + 1) = k :: up (k + 1) n := by
      simp only [up, List.range_succ_eq_map, List.map_cons, List.map_map]
      congr 1
      · simp
      · apply List.map_congr_left
        intro i _
        simp only [Function.comp]
        omega
    rw [h, held, if_pos rfl, held_up n (k + 1)]
    omega

def S_heldI (pg : Pg) : Prop := ∀ (a : Rw Int) (k : Int), (lst a).length ≤ 1048576 → -1 ≤ k → k ≤ 4611686018427387904 → Call pg 13 [rawI a, I k] [rawI a, I k] (I (held (lst a) k))
theorem t_heldI {pg : Pg} (hp : pg.fn 13 = some c_laws_heldInt64S) : S_heldI pg := by
  intro a k ha h1 h2
  refine Call.intro hp rfl (by simp) ?_
  show wp _ _ c_laws_heldInt64S.body (post [.t 4] _ _ _) _
  simp [c_laws_heldInt64S]
  refine wpLoop_count (fun j e => held ((lst a).drop j) (k + j) = held (lst a) k ∧ e = fr [(0, some (.val (rawI a))), (1, some (.val (I (k + j)))), (5, some (.val (I j)))]) (lst a).length ?_ ?_ 0 _ (by omega) ?_
  · rintro j e hj ⟨g1, rfl⟩
    have hd : (lst a).drop j = (lst a)[j] :: (lst a).drop (j + 1) := List.drop_eq_getElem_cons hj
    rw [hd] at g1
    simp only [held] at g1
    by_cases hx : (lst a)[j] = k + j
    · rw [if_pos hx] at g1
      simp [hj, hx]
      refine ⟨by omega, by omega, by rw [← g1]; congr 1; omega, ?_⟩
      congr 4
      simp; omega
    · rw [if_neg hx] at g1
      simp [hj, hx, g1]
  · rintro e ⟨g1, rfl⟩
    simp
    rw [List.drop_length] at g1
    exact g1
  · exact ⟨by simp, by simp⟩

/-- Marks behind j places. -/
def upto (k : Int) (xs : List Int) (j : Nat) : List Int := (List.range xs.length).map fun i : Nat => if i < j then k + i else xs.getD i 0
@[simp] theorem upto_length (k : Int) (xs : List Int) (j : Nat) : (upto k xs j).length = xs.length := by simp [upto]
theorem upto_zero (k : Int) (xs : List Int) : upto k xs 0 = xs := by
  apply List.ext_getElem
  · simp
  · intro i h1 h2
    simp [upto, List.getD_eq_getElem?_getD, List.getElem?_eq_getElem h2]
theorem upto_all (k : Int) (xs : List Int) : upto k xs xs.length = up k xs.length := by
  simp only [upto, up]
  apply List.map_congr_left
  intro i hi
  simp only [List.mem_range] at hi
  rw [if_pos hi]
theorem upto_set (k : Int) (xs : List Int) (j : Nat) : ((upto k xs j).map I).set j (I (k + j)) = (upto k xs (j + 1)).map I := by
  apply List.ext_getElem
  · simp
  · intro i h1 h2
    simp only [List.getElem_set, upto, List.getElem_map, List.getElem_range]
    by_cases h : j = i
    · subst h; simp
    · rw [if_neg h]
      by_cases h3 : i < j
      · rw [if_pos h3, if_pos (by omega)]
      · rw [if_neg h3, if_neg (by omega)]

def S_markI (pg : Pg) : Prop := ∀ (a : Option (List Int)) (k : Int), (lso a).length ≤ 1048576 → -1 ≤ k → k ≤ 4611686018427387904 → Call pg 12 [ownI a, I k] [ownI (a.map fun xs => up k xs.length), I k] (I (k + (lso a).length))
theorem t_markI {pg : Pg} (hp : pg.fn 12 = some c_laws_markInt64S) : S_markI pg := by
  intro a k ha h1 h2
  cases a with
  | none =>
    refine Call.intro hp rfl (by simp [ownI]) ?_
    show wp _ _ c_laws_markInt64S.body (post [.t 4] _ _ _) _
    simp [c_laws_markInt64S, ownI]
    refine wpLoop_count (fun j e => e = fr [(0, some (.val nil)), (1, some (.val (I k))), (5, some (.val (I 0)))]) 0 ?_ ?_ 0 _ (by omega) ?_
    · intro j e hj; omega
    · rintro e rfl
      simp
    · simp
  | some xs =>
    simp only [lso_some] at ha
    refine Call.intro_own hp rfl rfl ?_
    show wp _ _ c_laws_markInt64S.body (post [.t 4] _ _ _) _
    simp [c_laws_markInt64S, ownI]
    refine wpLoop_count (fun j e => e = fr [(0, some (.val (.mem .own (some 1) ((upto k xs j).map I)))), (1, some (.val (I (k + j)))), (5, some (.val (I j)))]) xs.length ?_ ?_ 0 _ (by omega) ?_
    · rintro j e hj rfl
      simp [hj]
      refine ⟨by omega, by omega, by omega, ?_⟩
      rw [upto_set]
      congr 4
      simp; omega
    · rintro e rfl
      simp [upto_all]
    · simp [upto_zero]

theorem S_markI.at {pg : Pg} (h : S_markI pg) (xs : List Int) (k : Int) (h1 : xs.length ≤ 1048576) (h2 : -1 ≤ k) (h3 : k ≤ 4611686018427387904) : Call pg 12 [.mem .own (some 1) (xs.map I), I k] [.mem .own (some 1) ((up k xs.length).map I), I k] (I (k + xs.length)) := h (some xs) k h1 h2 h3

/-- Rows of the frame's own, or nil. -/
def ownT : Option (List (List Int)) → T
  | none => nil
  | some xss => .mem .own (some 1) (rows xss)

/-- The mark at which row j begins. -/
def kAt (k : Int) (xss : List (List Int)) (j : Nat) : Int := k + ((xss.take j).map List.length).sum
def smallT (xss : List (List Int)) : Prop := xss.length ≤ 1048576 ∧ ∀ r ∈ xss, r.length ≤ 1048576

theorem kAt_zero (k : Int) (xss : List (List Int)) : kAt k xss 0 = k := by simp [kAt]
theorem kAt_succ (k : Int) (xss : List (List Int)) {j : Nat} (hj : j < xss.length) : kAt k xss (j + 1) = kAt k xss j + (xss[j]).length := by
  unfold kAt
  rw [List.take_succ_eq_append_getElem hj, List.map_append, List.sum_append]
  simp only [List.map_cons, List.map_nil, List.sum_cons, List.sum_nil, Int.natCast_add]
  omega
theorem kAt_le {k : Int} {xss : List (List Int)} (h : smallT xss) : ∀ j, j ≤ xss.length → k ≤ kAt k xss j ∧ kAt k xss j ≤ k + j * 1048576
  | 0, _ => by simp [kAt]
  | j + 1, hj => by
    have h1 := kAt_le (k := k) h j (by omega)
    have h2 := h.2 _ (List.getElem_mem (show j < xss.length by omega))
    rw [kAt_succ k xss (by omega)]
    simp only [Int.natCast_add]
    omega

def upT (k : Int) (xss : List (List Int)) : List (List Int) := (List.range xss.length).map fun j => up (kAt k xss j) (xss.getD j []).length
@[simp] theorem upT_length (k : Int) (xss : List (List Int)) : (upT k xss).length = xss.length := by simp [upT]
def uptoT (k : Int) (xss : List (List Int)) (j : Nat) : List (List Int) := (List.range xss.length).map fun i => if i < j then up (kAt k xss i) (xss.getD i []).length else xss.getD i []
@[simp] theorem uptoT_length (k : Int) (xss : List (List Int)) (j : Nat) : (uptoT k xss j).length = xss.length := by simp [uptoT]
theorem uptoT_zero (k : Int) (xss : List (List Int)) : uptoT k xss 0 = xss := by
  apply List.ext_getElem
  · simp
  · intro i h1 h2
    simp [uptoT, List.getD_eq_getElem?_getD, List.getElem?_eq_getElem h2]
theorem uptoT_all (k : Int) (xss : List (List Int)) : uptoT k xss xss.length = upT k xss := by
  simp only [uptoT, upT]
  apply List.map_congr_left
  intro i hi
  simp only [List.mem_range] at hi
  rw [if_pos hi]
theorem uptoT_get (k : Int) (xss : List (List Int)) {j : Nat} (hj : j < xss.length) : (uptoT k xss j)[j]'(by simpa using hj) = xss[j] := by
  simp [uptoT, List.getD_eq_getElem?_getD, List.getElem?_eq_getElem hj]
theorem uptoT_set (k : Int) (xss : List (List Int)) {j : Nat} (hj : j < xss.length) : (rows (uptoT k xss j)).set j (.mem .own (some 1) ((up (kAt k xss j) (xss[j]).length).map I)) = rows (uptoT k xss (j + 1)) := by
  apply List.ext_getElem
  · simp
  · intro i h1 h2
    simp only [rows, List.getElem_set, List.getElem_map, uptoT, List.getElem_range]
    have hi : i < xss.length := by simpa using h2
    by_cases h : j = i
    · subst h; simp [List.getD_eq_getElem?_getD, List.getElem?_eq_getElem hi]
    · rw [if_neg h]
      by_cases h3 : i < j
      · rw [if_pos h3, if_pos (by omega)]
      · rw [if_neg h3, if_neg (by omega)]

def heldL : List (List Int) → Int → Int
  | [], k => k
  | r :: rs, k => if held r k < 0 then -1 else heldL rs (held r k)

theorem heldL_up : ∀ (n : Nat) (xss : List (List Int)) (k : Int) (j : Nat), 0 ≤ k → j + n = xss.length → heldL ((upT k xss).drop j) (kAt k xss j) = kAt k xss xss.length
  | 0, xss, k, j, _, h => by
    have : j = xss.length := by omega
    subst this
    have : (upT k xss).drop xss.length = [] := by rw [List.drop_eq_nil_iff]; simp
    rw [this]; rfl
  | n + 1, xss, k, j, hk, h => by
    have hj : j < xss.length := by omega
    have hd : (upT k xss).drop j = (upT k xss)[j]'(by simpa using hj) :: (upT k xss).drop (j + 1) := List.drop_eq_getElem_cons (by simpa using hj)
    have hg : (upT k xss)[j]'(by simpa using hj) = up (kAt k xss j) (xss[j]).length := by
      simp [upT, List.getD_eq_getElem?_getD, List.getElem?_eq_getElem hj]
    have hp : 0 ≤ kAt k xss j := by unfold kAt; omega
    rw [hd, hg, heldL, held_up, if_neg (by omega), ← kAt_succ k xss hj]
    exact heldL_up n xss k (j + 1) hk (by omega)
theorem heldL_all (xss : List (List Int)) (k : Int) (hk : 0 ≤ k) : heldL (upT k xss) k = kAt k xss xss.length := by
  have := heldL_up xss.length xss k 0 hk (by omega)
  rwa [kAt_zero, List.drop_zero] at this

def S_heldT (pg : Pg) : Prop := ∀ (a : Rw (Rw Int)) (k : Int), small a → -1 ≤ k → k ≤ 2305843009213693952 → Call pg 24 [rawT a, I k] [rawT a, I k] (I (heldL ((lst a).map lst) k))
def S_markT (pg : Pg) : Prop := ∀ (a : Option (List (List Int))) (k : Int), smallT (lso a) → 0 ≤ k → k ≤ 2305843009213693952 → Call pg 23 [ownT a, I k] [ownT (a.map (upT k)), I k] (I (kAt k (lso a) (lso a).length))
theorem t_markT {pg : Pg} (hp : pg.fn 23 = some c_laws_markInt64SS) (h12 : S_markI pg) : S_markT pg := by
  intro a k ha h1 h2
  cases a with
  | none =>
    refine Call.intro hp rfl (by simp [ownT]) ?_
    show wp _ _ c_laws_markInt64SS.body (post [.t 4] _ _ _) _
    simp [c_laws_markInt64SS, ownT]
    refine wpLoop_count (fun j e => e = fr [(0, some (.val nil)), (1, some (.val (I k))), (5, some (.val (I 0)))]) 0 ?_ ?_ 0 _ (by omega) ?_
    · intro j e hj; omega
    · rintro e rfl
      simp [kAt]
    · simp
  | some xss =>
    simp only [lso_some] at ha
    refine Call.intro_own hp rfl rfl ?_
    show wp _ _ c_laws_markInt64SS.body (post [.t 4] _ _ _) _
    simp [c_laws_markInt64SS, ownT]
    refine wpLoop_count (fun j e => e = fr [(0, some (.val (.mem .own (some 1) (rows (uptoT k xss j))))), (1, some (.val (I (kAt k xss j)))), (5, some (.val (I j)))]) xss.length ?_ ?_ 0 _ (by omega) ?_
    · rintro j e hj rfl
      have hle := kAt_le (k := k) ha j (by omega)
      have hr := ha.2 _ (List.getElem_mem hj)
      have hl := ha.1
      have hg : (rows (uptoT k xss j))[j]? = some (.mem .own (some 1) ((xss[j]).map I)) := by
        rw [rows_get, List.getElem?_eq_getElem (by simpa using hj), uptoT_get k xss hj]; rfl
      simp [hj, uptoT_get]
      refine callM (ts' := [.mem .own (some 1) ((up (kAt k xss j) (xss[j]).length).map I), I (kAt k xss j)]) (r := I (kAt k xss j + xss[j].length)) ?_ ?_ ?_ ?_
      · simp [hj]
      · simpa using h12.at xss[j] (kAt k xss j) hr (by omega) (by omega)
      · simp
      · simp [hj, uptoT_set]
        refine ⟨by omega, ?_⟩
        rw [kAt_succ k xss hj]
    · rintro e rfl
      simp [uptoT_all]
    · simp [uptoT_zero, kAt_zero]

theorem S_markT.at {pg : Pg} (h : S_markT pg) (xss : List (List Int)) (k : Int) (h1 : smallT xss) (h2 : 0 ≤ k) (h3 : k ≤ 2305843009213693952) : Call pg 23 [.mem .own (some 1) (rows xss), I k] [.mem .own (some 1) (rows (upT k xss)), I k] (I (kAt k xss xss.length)) := h (some xss) k h1 h2 h3
theorem S_markT.at0 {pg : Pg} (h : S_markT pg) (k : Int) (h2 : 0 ≤ k) (h3 : k ≤ 2305843009213693952) : Call pg 23 [nil, I k] [nil, I k] (I k) := by
  have := h none k (by simp [smallT]) h2 h3
  simpa [ownT, kAt] using this

def S_markSol (pg : Pg) : Prop := ∀ (xss yss : List (List Int)) (k : Int), smallT xss → smallT yss → 0 ≤ k → k ≤ 1152921504606846976 → Call pg 22 [.agg [.mem .own (some 1) (rows xss), .mem .own (some 1) (rows yss)], I k] [.agg [.mem .own (some 1) (rows (upT k xss)), .mem .own (some 1) (rows (upT (kAt k xss xss.length) yss))], I k] (I (kAt (kAt k xss xss.length) yss yss.length))
theorem t_markSol {pg : Pg} (hp : pg.fn 22 = some c_laws_markSolution) (h23 : S_markT pg) : S_markSol pg := by
  intro xss yss k ha hb h1 h2
  have hle := kAt_le (k := k) ha xss.length (by omega)
  have hxl := ha.1
  refine Call.intro_own hp rfl rfl ?_
  show wp _ _ c_laws_markSolution.body (post [.t 4] _ _ _) _
  simp [c_laws_markSolution]
  refine callM (ts' := [.mem .own (some 1) (rows (upT k xss)), I k]) (r := I (kAt k xss xss.length)) ?_ ?_ ?_ ?_
  · simp
  · simpa using h23.at xss k ha h1 (by omega)
  · simp
  · simp
    refine callM (ts' := [.mem .own (some 1) (rows (upT (kAt k xss xss.length) yss)), I (kAt k xss xss.length)]) (r := I (kAt (kAt k xss xss.length) yss yss.length)) ?_ ?_ ?_ ?_
    · simp
    · simpa using h23.at yss (kAt k xss xss.length) hb (by omega) (by omega)
    · simp
    · simp

end Go.Mch
/- Pair maps that are bijections and satisfy the equation. -/
namespace Go.Mch

/-- Two pairs, by number, that are led to the same one. -/
def coll (f s : List (List Int)) (a b : Nat) : Prop :=
  a ≠ b ∧ v2 f (a / f.length) (a % f.length) = v2 f (b / f.length) (b % f.length) ∧ v2 s (a / f.length) (a % f.length) = v2 s (b / f.length) (b % f.length)
def Inj (f s : List (List Int)) : Prop := ∀ a, a < f.length * f.length → ∀ b, b < f.length * f.length → ¬ coll f s a b
instance (f s : List (List Int)) (a b : Nat) : Decidable (coll f s a b) := by unfold coll; infer_instance
instance (f s : List (List Int)) : Decidable (Inj f s) := by unfold Inj; infer_instance

/-- What a pair map of tables has. -/
structure PM (f s : List (List Int)) : Prop where
  tf : Tab f
  ts : Tab s
  len : s.length = f.length
  pos : 0 < f.length
  small : f.length ≤ 12
theorem PM.of {f s : List (List Int)} (h : isPairMap f s) : PM f s := ⟨h.1.2.2, h.2.1.2.2, h.2.2.symm, h.1.1, h.1.2.1⟩

theorem dm_lt {n a : Nat} (h : a < n * n) : a / n < n ∧ a % n < n := by
  have hn : 0 < n := by
    rcases Nat.eq_zero_or_pos n with h0 | h0
    · subst h0; simp at h
    · exact h0
  exact ⟨Nat.div_lt_of_lt_mul h, Nat.mod_lt _ hn⟩

def S_coll57 (pg : Pg) : Prop := ∀ f s : List (List Int), PM f s → ∃ l : List Int, (l.length = 0 ↔ Inj f s) ∧ l.length ≤ 4 ∧ Call pg 57 [sol f s] [sol f s] (.mem .own (some 1) (l.map I))
set_option maxRecDepth 10000 in
theorem t_coll57 {pg : Pg} (hp : pg.fn 57 = some c_spec_l02Collision) : S_coll57 pg := by
  intro f s h
  have h0 := h.pos
  have h12 := h.small
  have h0' : f.length ≠ 0 := by omega
  have hsq : f.length * f.length ≤ 144 := Nat.mul_le_mul h12 h12
  have hsq' : ((f.length : Int) * f.length) ≤ 144 := by exact_mod_cast hsq
  have hsq0 : 0 ≤ ((f.length : Int) * f.length) := by exact_mod_cast Nat.zero_le _
  have fr' := fun x hx => h.tf.row (x := x) hx
  have sr' : ∀ x (hx : x < s.length), (s[x]).length = f.length := fun x hx => (h.ts.row hx).trans h.len
  have loop : ∀ (a b : Nat), a < f.length * f.length → b < f.length * f.length → coll f s a b → True := fun _ _ _ _ _ => trivial
  by_cases hex : ∃ a, a < f.length * f.length ∧ ∃ b, b < f.length * f.length ∧ coll f s a b
  · obtain ⟨a, ha, hb, hmin⟩ := least hex
    obtain ⟨b, hb, hc, hmin2⟩ := least hb
    have hni : ¬ Inj f s := fun hi => hi a ha b hb hc
    refine ⟨[((a / f.length : Nat) : Int), ((a % f.length : Nat) : Int), ((b / f.length : Nat) : Int), ((b % f.length : Nat) : Int)], by simp [hni], by simp, Call.intro hp rfl (by simp) ?_⟩
    show wp _ _ c_spec_l02Collision.body (post [.t 2] _ _ _) _
    simp [c_spec_l02Collision]
    refine wpLoop_count (fun k e => k ≤ a ∧ e = fr [(1, some (.val (.mem .own none [tb f, tb s]))), (3, some (.val (I f.length))), (4, some (.val (I k)))]) (f.length * f.length) ?_ ?_ 0 _ (by omega) ?_
    · rintro k e hk ⟨h1, rfl⟩
      have hk1 := dm_lt hk
      have hki : (k : Int) < (f.length : Int) * f.length := by exact_mod_cast hk
      have hq1 : 0 ≤ (k : Int) / f.length ∧ (k : Int) / f.length < f.length := ⟨by exact_mod_cast Nat.zero_le _, by exact_mod_cast hk1.1⟩
      have hr1 : 0 ≤ (k : Int) % f.length ∧ (k : Int) % f.length < f.length := ⟨by exact_mod_cast Nat.zero_le _, by exact_mod_cast hk1.2⟩
      have ht1 : ((k : Int) / f.length).toNat = k / f.length := by rw [← Int.natCast_ediv]; exact Int.toNat_natCast _
      have hu1 : ((k : Int) % f.length).toNat = k % f.length := by rw [← Int.natCast_emod]; exact Int.toNat_natCast _
      simp [hki]
      refine ⟨by omega, ?_⟩
      rcases Nat.lt_or_ge k a with hka | hka
      · refine wpLoop_count (fun j e => e = fr [(1, some (.val (.mem .own none [tb f, tb s]))), (3, some (.val (I f.length))), (4, some (.val (I k))), (5, some (.val (I j)))]) (f.length * f.length) ?_ ?_ 0 _ (by omega) ?_
        · rintro j e hj rfl
          have hj1 := dm_lt hj
          have hji : (j : Int) < (f.length : Int) * f.length := by exact_mod_cast hj
          have hq2 : 0 ≤ (j : Int) / f.length ∧ (j : Int) / f.length < f.length := ⟨by exact_mod_cast Nat.zero_le _, by exact_mod_cast hj1.1⟩
          have hr2 : 0 ≤ (j : Int) % f.length ∧ (j : Int) % f.length < f.length := ⟨by exact_mod_cast Nat.zero_le _, by exact_mod_cast hj1.2⟩
          have ht2 : ((j : Int) / f.length).toNat = j / f.length := by rw [← Int.natCast_ediv]; exact Int.toNat_natCast _
          have hu2 : ((j : Int) % f.length).toNat = j % f.length := by rw [← Int.natCast_emod]; exact Int.toNat_natCast _
          have hnc : ¬ coll f s k j := fun hcc => hmin k hka ⟨j, hj, hcc⟩
          by_cases hkj : k = j
          · subst hkj
            clear hj hj1 hnc
            simp [hji, h0', undefV]
            omega
          · have hkjI : (k : Int) ≠ j := by omega
            by_cases hv1 : v2 f (k / f.length) (k % f.length) = v2 f (j / f.length) (j % f.length)
            · by_cases hv2 : v2 s (k / f.length) (k % f.length) = v2 s (j / f.length) (j % f.length)
              · have hcc : coll f s k j := ⟨hkj, hv1, hv2⟩
                exact (hnc hcc).elim
              · simp [hkjI, hk1, hj1, hq1, hq2, hr1, hr2, ht1, ht2, hu1, hu2, hji, h0', fr', sr', h.len, get_v2, hv1, hv2]
                omega
            · simp [hkjI, hk1, hj1, hq1, hq2, hr1, hr2, ht1, ht2, hu1, hu2, hji, h0', fr', get_v2, undefV, hv1]
              omega
        · rintro e rfl
          simp
          omega
        · simp
      · have hka2 : k = a := by omega
        subst hka2
        refine wpLoop_count (fun j e => j ≤ b ∧ e = fr [(1, some (.val (.mem .own none [tb f, tb s]))), (3, some (.val (I f.length))), (4, some (.val (I k))), (5, some (.val (I j)))]) (f.length * f.length) ?_ ?_ 0 _ (by omega) ?_
        · rintro j e hj ⟨hjb, rfl⟩
          have hj1 := dm_lt hj
          have hji : (j : Int) < (f.length : Int) * f.length := by exact_mod_cast hj
          have hq2 : 0 ≤ (j : Int) / f.length ∧ (j : Int) / f.length < f.length := ⟨by exact_mod_cast Nat.zero_le _, by exact_mod_cast hj1.1⟩
          have hr2 : 0 ≤ (j : Int) % f.length ∧ (j : Int) % f.length < f.length := ⟨by exact_mod_cast Nat.zero_le _, by exact_mod_cast hj1.2⟩
          have ht2 : ((j : Int) / f.length).toNat = j / f.length := by rw [← Int.natCast_ediv]; exact Int.toNat_natCast _
          have hu2 : ((j : Int) % f.length).toNat = j % f.length := by rw [← Int.natCast_emod]; exact Int.toNat_natCast _
          rcases Nat.lt_or_ge j b with hlt | hge
          · have hnc : ¬ coll f s k j := hmin2 j hlt
            by_cases hkj : k = j
            · subst hkj
              clear hj hj1 hnc
              simp [hji, h0', undefV]
              omega
            · have hkjI : (k : Int) ≠ j := by omega
              by_cases hv1 : v2 f (k / f.length) (k % f.length) = v2 f (j / f.length) (j % f.length)
              · by_cases hv2 : v2 s (k / f.length) (k % f.length) = v2 s (j / f.length) (j % f.length)
                · have hcc : coll f s k j := ⟨hkj, hv1, hv2⟩
                  exact (hnc hcc).elim
                · simp [hkjI, hk1, hj1, hq1, hq2, hr1, hr2, ht1, ht2, hu1, hu2, hji, h0', fr', sr', h.len, get_v2, hv1, hv2]
                  omega
              · simp [hkjI, hk1, hj1, hq1, hq2, hr1, hr2, ht1, ht2, hu1, hu2, hji, h0', fr', get_v2, undefV, hv1]
                omega
          · have hjb2 : j = b := by omega
            subst hjb2
            obtain ⟨hkj, hv1, hv2⟩ := hc
            have hkjI : (k : Int) ≠ j := by omega
            simp [hkjI, hk1, hj1, hq1, hq2, hr1, hr2, ht1, ht2, hu1, hu2, hji, h0', fr', sr', h.len, get_v2, hv1, hv2]
            try omega
        · rintro e ⟨h1, rfl⟩
          omega
        · simp
    · rintro e ⟨h1, rfl⟩
      omega
    · simp
  · have hi : Inj f s := fun a ha b hb hc => hex ⟨a, ha, b, hb, hc⟩
    refine ⟨[], by simp [hi], by simp, Call.intro hp rfl (by simp) ?_⟩
    show wp _ _ c_spec_l02Collision.body (post [.t 2] _ _ _) _
    simp [c_spec_l02Collision]
    refine wpLoop_count (fun k e => e = fr [(1, some (.val (.mem .own none [tb f, tb s]))), (3, some (.val (I f.length))), (4, some (.val (I k)))]) (f.length * f.length) ?_ ?_ 0 _ (by omega) ?_
    · rintro k e hk rfl
      have hk1 := dm_lt hk
      have hki : (k : Int) < (f.length : Int) * f.length := by exact_mod_cast hk
      have hq1 : 0 ≤ (k : Int) / f.length ∧ (k : Int) / f.length < f.length := ⟨by exact_mod_cast Nat.zero_le _, by exact_mod_cast hk1.1⟩
      have hr1 : 0 ≤ (k : Int) % f.length ∧ (k : Int) % f.length < f.length := ⟨by exact_mod_cast Nat.zero_le _, by exact_mod_cast hk1.2⟩
      have ht1 : ((k : Int) / f.length).toNat = k / f.length := by rw [← Int.natCast_ediv]; exact Int.toNat_natCast _
      have hu1 : ((k : Int) % f.length).toNat = k % f.length := by rw [← Int.natCast_emod]; exact Int.toNat_natCast _
      simp [hki]
      refine ⟨by omega, ?_⟩
      refine wpLoop_count (fun j e => e = fr [(1, some (.val (.mem .own none [tb f, tb s]))), (3, some (.val (I f.length))), (4, some (.val (I k))), (5, some (.val (I j)))]) (f.length * f.length) ?_ ?_ 0 _ (by omega) ?_
      · rintro j e hj rfl
        have hj1 := dm_lt hj
        have hji : (j : Int) < (f.length : Int) * f.length := by exact_mod_cast hj
        have hq2 : 0 ≤ (j : Int) / f.length ∧ (j : Int) / f.length < f.length := ⟨by exact_mod_cast Nat.zero_le _, by exact_mod_cast hj1.1⟩
        have hr2 : 0 ≤ (j : Int) % f.length ∧ (j : Int) % f.length < f.length := ⟨by exact_mod_cast Nat.zero_le _, by exact_mod_cast hj1.2⟩
        have ht2 : ((j : Int) / f.length).toNat = j / f.length := by rw [← Int.natCast_ediv]; exact Int.toNat_natCast _
        have hu2 : ((j : Int) % f.length).toNat = j % f.length := by rw [← Int.natCast_emod]; exact Int.toNat_natCast _
        have hnc : ¬ coll f s k j := hi k hk j hj
        by_cases hkj : k = j
        · subst hkj
          clear hj hj1 hnc
          simp [hji, h0', undefV]
          omega
        · have hkjI : (k : Int) ≠ j := by omega
          by_cases hv1 : v2 f (k / f.length) (k % f.length) = v2 f (j / f.length) (j % f.length)
          · by_cases hv2 : v2 s (k / f.length) (k % f.length) = v2 s (j / f.length) (j % f.length)
            · have hcc : coll f s k j := ⟨hkj, hv1, hv2⟩
              exact (hnc hcc).elim
            · simp [hkjI, hk1, hj1, hq1, hq2, hr1, hr2, ht1, ht2, hu1, hu2, hji, h0', fr', sr', h.len, get_v2, hv1, hv2]
              omega
          · simp [hkjI, hk1, hj1, hq1, hq2, hr1, hr2, ht1, ht2, hu1, hu2, hji, h0', fr', get_v2, undefV, hv1]
            omega
      · rintro e rfl
        simp
        omega
      · simp
    · rintro e rfl
      simp
      try omega
    · simp

def S_coll60 (pg : Pg) : Prop := ∀ f s : List (List Int), PM f s → ∃ o : Option (List Int), (o = none ↔ Inj f s) ∧ Call pg 60 [sol f s] [sol f s] (ownI o)
set_option maxRecDepth 10000 in
theorem t_coll60 {pg : Pg} (hp : pg.fn 60 = some c_impl_collisionOf) : S_coll60 pg := by
  intro f s h
  have h0 := h.pos
  have h12 := h.small
  have h0' : f.length ≠ 0 := by omega
  have hsq : f.length * f.length ≤ 144 := Nat.mul_le_mul h12 h12
  have hsq' : ((f.length : Int) * f.length) ≤ 144 := by exact_mod_cast hsq
  have hsq0 : 0 ≤ ((f.length : Int) * f.length) := by exact_mod_cast Nat.zero_le _
  have fr' := fun x hx => h.tf.row (x := x) hx
  have sr' : ∀ x (hx : x < s.length), (s[x]).length = f.length := fun x hx => (h.ts.row hx).trans h.len
  have loop : ∀ (a b : Nat), a < f.length * f.length → b < f.length * f.length → coll f s a b → True := fun _ _ _ _ _ => trivial
  by_cases hex : ∃ a, a < f.length * f.length ∧ ∃ b, b < f.length * f.length ∧ coll f s a b
  · obtain ⟨a, ha, hb, hmin⟩ := least hex
    obtain ⟨b, hb, hc, hmin2⟩ := least hb
    have hni : ¬ Inj f s := fun hi => hi a ha b hb hc
    refine ⟨some [((a / f.length : Nat) : Int), ((a % f.length : Nat) : Int), ((b / f.length : Nat) : Int), ((b % f.length : Nat) : Int)], by simp [hni], Call.intro hp rfl (by simp) ?_⟩
    simp only [ownI]
    show wp _ _ c_impl_collisionOf.body (post [.t 2] _ _ _) _
    simp [c_impl_collisionOf]
    refine ⟨by omega, ?_⟩
    refine wpLoop_count (fun k e => k ≤ a ∧ e = fr [(1, some (.val (.mem .own none [tb f, tb s]))), (3, some (.val (I f.length))), (15, some (.val (I ((f.length : Int) * f.length)))), (16, some (.val (I k)))]) (f.length * f.length) ?_ ?_ 0 _ (by omega) ?_
    · rintro k e hk ⟨h1, rfl⟩
      have hk1 := dm_lt hk
      have hki : (k : Int) < (f.length : Int) * f.length := by exact_mod_cast hk
      have hq1 : 0 ≤ (k : Int) / f.length ∧ (k : Int) / f.length < f.length := ⟨by exact_mod_cast Nat.zero_le _, by exact_mod_cast hk1.1⟩
      have hr1 : 0 ≤ (k : Int) % f.length ∧ (k : Int) % f.length < f.length := ⟨by exact_mod_cast Nat.zero_le _, by exact_mod_cast hk1.2⟩
      have ht1 : ((k : Int) / f.length).toNat = k / f.length := by rw [← Int.natCast_ediv]; exact Int.toNat_natCast _
      have hu1 : ((k : Int) % f.length).toNat = k % f.length := by rw [← Int.natCast_emod]; exact Int.toNat_natCast _
      simp [hki, h0']
      refine ⟨by omega, by omega, ?_⟩
      rcases Nat.lt_or_ge k a with hka | hka
      · refine wpLoop_count (fun j e => e = fr [(1, some (.val (.mem .own none [tb f, tb s]))), (3, some (.val (I f.length))), (4, some (.val (I k))), (5, some (.val (I ((k / f.length : Nat) : Int)))), (6, some (.val (I ((k % f.length : Nat) : Int)))), (15, some (.val (I ((f.length : Int) * f.length)))), (16, some (.val (I k))), (27, some (.val (I ((f.length : Int) * f.length)))), (28, some (.val (I j)))]) (f.length * f.length) ?_ ?_ 0 _ (by omega) ?_
        · rintro j e hj rfl
          have hj1 := dm_lt hj
          have hji : (j : Int) < (f.length : Int) * f.length := by exact_mod_cast hj
          have hq2 : 0 ≤ (j : Int) / f.length ∧ (j : Int) / f.length < f.length := ⟨by exact_mod_cast Nat.zero_le _, by exact_mod_cast hj1.1⟩
          have hr2 : 0 ≤ (j : Int) % f.length ∧ (j : Int) % f.length < f.length := ⟨by exact_mod_cast Nat.zero_le _, by exact_mod_cast hj1.2⟩
          have ht2 : ((j : Int) / f.length).toNat = j / f.length := by rw [← Int.natCast_ediv]; exact Int.toNat_natCast _
          have hu2 : ((j : Int) % f.length).toNat = j % f.length := by rw [← Int.natCast_emod]; exact Int.toNat_natCast _
          have hnc : ¬ coll f s k j := fun hcc => hmin k hka ⟨j, hj, hcc⟩
          by_cases hkj : k = j
          · subst hkj
            clear hj hj1 hnc
            simp [hji, h0', undefV]
            omega
          · have hkjI : (k : Int) ≠ j := by omega
            by_cases hv1 : v2 f (k / f.length) (k % f.length) = v2 f (j / f.length) (j % f.length)
            · by_cases hv2 : v2 s (k / f.length) (k % f.length) = v2 s (j / f.length) (j % f.length)
              · have hcc : coll f s k j := ⟨hkj, hv1, hv2⟩
                exact (hnc hcc).elim
              · simp [hkjI, hk1, hj1, hq1, hq2, hr1, hr2, ht1, ht2, hu1, hu2, hji, h0', fr', sr', h.len, get_v2, hv1, hv2]
                omega
            · simp [hkjI, hk1, hj1, hq1, hq2, hr1, hr2, ht1, ht2, hu1, hu2, hji, h0', fr', get_v2, undefV, hv1]
              omega
        · rintro e rfl
          simp
          omega
        · simp
      · have hka2 : k = a := by omega
        subst hka2
        refine wpLoop_count (fun j e => j ≤ b ∧ e = fr [(1, some (.val (.mem .own none [tb f, tb s]))), (3, some (.val (I f.length))), (4, some (.val (I k))), (5, some (.val (I ((k / f.length : Nat) : Int)))), (6, some (.val (I ((k % f.length : Nat) : Int)))), (15, some (.val (I ((f.length : Int) * f.length)))), (16, some (.val (I k))), (27, some (.val (I ((f.length : Int) * f.length)))), (28, some (.val (I j)))]) (f.length * f.length) ?_ ?_ 0 _ (by omega) ?_
        · rintro j e hj ⟨hjb, rfl⟩
          have hj1 := dm_lt hj
          have hji : (j : Int) < (f.length : Int) * f.length := by exact_mod_cast hj
          have hq2 : 0 ≤ (j : Int) / f.length ∧ (j : Int) / f.length < f.length := ⟨by exact_mod_cast Nat.zero_le _, by exact_mod_cast hj1.1⟩
          have hr2 : 0 ≤ (j : Int) % f.length ∧ (j : Int) % f.length < f.length := ⟨by exact_mod_cast Nat.zero_le _, by exact_mod_cast hj1.2⟩
          have ht2 : ((j : Int) / f.length).toNat = j / f.length := by rw [← Int.natCast_ediv]; exact Int.toNat_natCast _
          have hu2 : ((j : Int) % f.length).toNat = j % f.length := by rw [← Int.natCast_emod]; exact Int.toNat_natCast _
          rcases Nat.lt_or_ge j b with hlt | hge
          · have hnc : ¬ coll f s k j := hmin2 j hlt
            by_cases hkj : k = j
            · subst hkj
              clear hj hj1 hnc
              simp [hji, h0', undefV]
              omega
            · have hkjI : (k : Int) ≠ j := by omega
              by_cases hv1 : v2 f (k / f.length) (k % f.length) = v2 f (j / f.length) (j % f.length)
              · by_cases hv2 : v2 s (k / f.length) (k % f.length) = v2 s (j / f.length) (j % f.length)
                · have hcc : coll f s k j := ⟨hkj, hv1, hv2⟩
                  exact (hnc hcc).elim
                · simp [hkjI, hk1, hj1, hq1, hq2, hr1, hr2, ht1, ht2, hu1, hu2, hji, h0', fr', sr', h.len, get_v2, hv1, hv2]
                  omega
              · simp [hkjI, hk1, hj1, hq1, hq2, hr1, hr2, ht1, ht2, hu1, hu2, hji, h0', fr', get_v2, undefV, hv1]
                omega
          · have hjb2 : j = b := by omega
            subst hjb2
            obtain ⟨hkj, hv1, hv2⟩ := hc
            have hkjI : (k : Int) ≠ j := by omega
            simp [hkjI, hk1, hj1, hq1, hq2, hr1, hr2, ht1, ht2, hu1, hu2, hji, h0', fr', sr', h.len, get_v2, hv1, hv2]
            try omega
        · rintro e ⟨h1, rfl⟩
          omega
        · simp
    · rintro e ⟨h1, rfl⟩
      omega
    · simp
  · have hi : Inj f s := fun a ha b hb hc => hex ⟨a, ha, b, hb, hc⟩
    refine ⟨none, by simp [hi], Call.intro hp rfl (by simp) ?_⟩
    simp only [ownI]
    show wp _ _ c_impl_collisionOf.body (post [.t 2] _ _ _) _
    simp [c_impl_collisionOf]
    refine ⟨by omega, ?_⟩
    refine wpLoop_count (fun k e => e = fr [(1, some (.val (.mem .own none [tb f, tb s]))), (3, some (.val (I f.length))), (15, some (.val (I ((f.length : Int) * f.length)))), (16, some (.val (I k)))]) (f.length * f.length) ?_ ?_ 0 _ (by omega) ?_
    · rintro k e hk rfl
      have hk1 := dm_lt hk
      have hki : (k : Int) < (f.length : Int) * f.length := by exact_mod_cast hk
      have hq1 : 0 ≤ (k : Int) / f.length ∧ (k : Int) / f.length < f.length := ⟨by exact_mod_cast Nat.zero_le _, by exact_mod_cast hk1.1⟩
      have hr1 : 0 ≤ (k : Int) % f.length ∧ (k : Int) % f.length < f.length := ⟨by exact_mod_cast Nat.zero_le _, by exact_mod_cast hk1.2⟩
      have ht1 : ((k : Int) / f.length).toNat = k / f.length := by rw [← Int.natCast_ediv]; exact Int.toNat_natCast _
      have hu1 : ((k : Int) % f.length).toNat = k % f.length := by rw [← Int.natCast_emod]; exact Int.toNat_natCast _
      simp [hki, h0']
      refine ⟨by omega, by omega, ?_⟩
      refine wpLoop_count (fun j e => e = fr [(1, some (.val (.mem .own none [tb f, tb s]))), (3, some (.val (I f.length))), (4, some (.val (I k))), (5, some (.val (I ((k / f.length : Nat) : Int)))), (6, some (.val (I ((k % f.length : Nat) : Int)))), (15, some (.val (I ((f.length : Int) * f.length)))), (16, some (.val (I k))), (27, some (.val (I ((f.length : Int) * f.length)))), (28, some (.val (I j)))]) (f.length * f.length) ?_ ?_ 0 _ (by omega) ?_
      · rintro j e hj rfl
        have hj1 := dm_lt hj
        have hji : (j : Int) < (f.length : Int) * f.length := by exact_mod_cast hj
        have hq2 : 0 ≤ (j : Int) / f.length ∧ (j : Int) / f.length < f.length := ⟨by exact_mod_cast Nat.zero_le _, by exact_mod_cast hj1.1⟩
        have hr2 : 0 ≤ (j : Int) % f.length ∧ (j : Int) % f.length < f.length := ⟨by exact_mod_cast Nat.zero_le _, by exact_mod_cast hj1.2⟩
        have ht2 : ((j : Int) / f.length).toNat = j / f.length := by rw [← Int.natCast_ediv]; exact Int.toNat_natCast _
        have hu2 : ((j : Int) % f.length).toNat = j % f.length := by rw [← Int.natCast_emod]; exact Int.toNat_natCast _
        have hnc : ¬ coll f s k j := hi k hk j hj
        by_cases hkj : k = j
        · subst hkj
          clear hj hj1 hnc
          simp [hji, h0', undefV]
          omega
        · have hkjI : (k : Int) ≠ j := by omega
          by_cases hv1 : v2 f (k / f.length) (k % f.length) = v2 f (j / f.length) (j % f.length)
          · by_cases hv2 : v2 s (k / f.length) (k % f.length) = v2 s (j / f.length) (j % f.length)
            · have hcc : coll f s k j := ⟨hkj, hv1, hv2⟩
              exact (hnc hcc).elim
            · simp [hkjI, hk1, hj1, hq1, hq2, hr1, hr2, ht1, ht2, hu1, hu2, hji, h0', fr', sr', h.len, get_v2, hv1, hv2]
              omega
          · simp [hkjI, hk1, hj1, hq1, hq2, hr1, hr2, ht1, ht2, hu1, hu2, hji, h0', fr', get_v2, undefV, hv1]
            omega
      · rintro e rfl
        simp
        omega
      · simp
    · rintro e rfl
      simp
      try omega
    · simp


end Go.Mch
/- The equation of solutions, as the reference and the program test it. -/
namespace Go.Mch

/-- The value of a table at numbers. -/
def g2 (t : List (List Int)) (x y : Int) : Int := v2 t x.toNat y.toNat
theorem get_g2 {t : List (List Int)} {x y : Int} (hx : x.toNat < t.length) (hy : y.toNat < (t[x.toNat]).length) : (t[x.toNat])[y.toNat] = g2 t x y := get_v2 hx hy
def inN (n : Nat) (w : List Int) : Prop := ∀ x ∈ w, 0 ≤ x ∧ x < n
theorem PM.gF {f s : List (List Int)} (h : PM f s) (x y : Int) : 0 ≤ g2 f x y ∧ g2 f x y < f.length := ⟨h.tf.nonneg _ _, h.tf.lt h.pos _ _⟩
theorem PM.gS {f s : List (List Int)} (h : PM f s) (x y : Int) : 0 ≤ g2 s x y ∧ g2 s x y < f.length := ⟨h.ts.nonneg _ _, by have := h.ts.lt (by rw [h.len]; exact h.pos) x.toNat y.toNat; rw [h.len] at this; exact this⟩

/-- A word, moved at a place. -/
def dW (f s : List (List Int)) (w : List Int) (i : Nat) : List Int :=
  (w.set i (g2 f (w.getD i 0) (w.getD (i + 1) 0))).set (i + 1) (g2 s (w.getD i 0) (w.getD (i + 1) 0))
@[simp] theorem dW_length (f s : List (List Int)) (w : List Int) (i : Nat) : (dW f s w i).length = w.length := by simp [dW]
theorem set_in {n : Nat} {w : List Int} (h : inN n w) {i : Nat} {v : Int} (hv : 0 ≤ v ∧ v < n) : inN n (w.set i v) := by
  intro x hx
  rcases List.mem_or_eq_of_mem_set hx with h1 | h1
  · exact h x h1
  · rw [h1]; exact hv
theorem dW_in {f s : List (List Int)} (h : PM f s) {w : List Int} (hw : inN f.length w) (i : Nat) : inN f.length (dW f s w i) := set_in (set_in hw (h.gF _ _)) (h.gS _ _)

def S_do (pg : Pg) (n : Nat) : Prop := ∀ (f s : List (List Int)) (w : List Int) (i : Nat), PM f s → i + 1 < w.length → w.length ≤ 1048576 → inN f.length w →
  Call pg n [sol f s, ix w, I i] [sol f s, ix w, I i] (.mem .own (some 1) ((dW f s w i).map I))
set_option maxRecDepth 10000 in
theorem do_of {pg : Pg} {n : Nat} (hp : pg.fn n = some c_spec_l02Do) (h31 : S_own pg) : S_do pg n := by
  intro f s w i h hi hl hw
  refine Call.intro hp rfl (by simp) ?_
  show wp _ _ c_spec_l02Do.body (post [.t 6] _ _ _) _
  have h1 := hw _ (List.getElem_mem (show i < w.length by omega))
  have h2 := hw _ (List.getElem_mem hi)
  have fr' := fun x hx => h.tf.row (x := x) hx
  have sr' : ∀ x (hx : x < s.length), (s[x]).length = f.length := fun x hx => (h.ts.row hx).trans h.len
  have hi0 : i < w.length := by omega
  have hiI : (i : Int) + 1 < w.length := by omega
  have e1 : ((i : Int) + 1).toNat = i + 1 := by omega
  have t1 : (w[i]).toNat < f.length := by omega
  have t2 : (w[i + 1]).toNat < f.length := by omega
  have hb : -9223372036854775808 ≤ (i : Int) + 1 ∧ (i : Int) + 1 ≤ 9223372036854775807 := by omega
  have hb0 : 0 ≤ (i : Int) + 1 := by omega
  simp [c_spec_l02Do]
  refine callR (h31 _ hl) rfl rfl (fun _ => by simp) ?_
  simp [hi, hb, hb0, hi0, hiI, e1, h1, h2, t1, t2, fr', sr', h.len, get_g2]
  refine ⟨by omega, by omega, ?_⟩
  simp [dW, hi0, hi]

/-- The equation at three numbers, and everywhere. -/
def ybAt (f s : List (List Int)) (x y z : Nat) : Prop := dW f s (dW f s (dW f s [(x : Int), y, z] 0) 1) 0 = dW f s (dW f s (dW f s [(x : Int), y, z] 1) 0) 1
def YB (f s : List (List Int)) : Prop := ∀ x y z : Nat, x < f.length → y < f.length → z < f.length → ybAt f s x y z
instance (f s : List (List Int)) (x y z : Nat) : Decidable (ybAt f s x y z) := by unfold ybAt; infer_instance

theorem first3 (P : Nat → Nat → Nat → Prop) (n : Nat) : (∀ x y z, x < n → y < n → z < n → ¬ P x y z) ∨
    ∃ a b c, a < n ∧ b < n ∧ c < n ∧ P a b c ∧ ∀ x y z, x < n → y < n → z < n → P x y z → a < x ∨ (a = x ∧ (b < y ∨ (b = y ∧ c ≤ z))) := by
  by_cases h : ∃ a, a < n ∧ ∃ b, b < n ∧ ∃ c, c < n ∧ P a b c
  · right
    obtain ⟨a, ha, hb, h1⟩ := least h
    obtain ⟨b, hb, hc, h2⟩ := least hb
    obtain ⟨c, hc, hp, h3⟩ := least hc
    refine ⟨a, b, c, ha, hb, hc, hp, fun x y z hx hy hz hq => ?_⟩
    rcases Nat.lt_trichotomy a x with g | g | g
    · exact .inl g
    · subst g
      right
      refine ⟨rfl, ?_⟩
      rcases Nat.lt_trichotomy b y with g | g | g
      · exact .inl g
      · subst g
        right
        refine ⟨rfl, ?_⟩
        rcases Nat.lt_or_ge z c with g | g
        · exact absurd hq (h3 z g)
        · exact g
      · exact absurd ⟨z, hz, hq⟩ (h2 y g)
    · exact absurd ⟨y, hy, z, hz, hq⟩ (h1 x g)
  · left
    intro x y z hx hy hz hp
    exact h ⟨x, hx, y, hy, z, hz, hp⟩

/-- The first three numbers at which the equation fails; or the size, where it holds. -/
theorem fault (f s : List (List Int)) : ∃ (a b c : Nat) (l : List Int), (l.length = 0 ↔ YB f s) ∧ (a < f.length → l = [(a : Int), b, c] ∧ b < f.length ∧ c < f.length ∧ ¬ ybAt f s a b c) ∧ (¬ a < f.length → a = f.length ∧ l = []) ∧ l.length ≤ 3 ∧
    ∀ x y z, x < f.length → y < f.length → z < f.length → ¬ ybAt f s x y z → a < x ∨ (a = x ∧ (b < y ∨ (b = y ∧ c ≤ z))) := by
  rcases first3 (fun x y z => ¬ ybAt f s x y z) f.length with h | ⟨a, b, c, ha, hb, hc, hp, h⟩
  · refine ⟨f.length, 0, 0, [], ⟨fun _ x y z hx hy hz => ?_, fun _ => rfl⟩, fun h => absurd h (Nat.lt_irrefl _), fun _ => ⟨rfl, rfl⟩, by simp, fun x y z hx hy hz hn => absurd hn (h x y z hx hy hz)⟩
    exact Decidable.of_not_not (h x y z hx hy hz)
  · exact ⟨a, b, c, [(a : Int), b, c], ⟨fun h => by simp at h, fun h => absurd (h a b c ha hb hc) hp⟩, fun _ => ⟨rfl, hb, hc, hp⟩, fun h => absurd ha h, by simp, h⟩

def S_fault58 (pg : Pg) : Prop := ∀ f s : List (List Int), PM f s → ∃ l : List Int, (l.length = 0 ↔ YB f s) ∧ l.length ≤ 3 ∧ Call pg 58 [sol f s] [sol f s] (.mem .own (some 1) (l.map I))

theorem w3_in {n x y z : Nat} (hx : x < n) (hy : y < n) (hz : z < n) : inN n [(x : Int), y, z] := by
  intro v hv
  simp at hv
  omega

set_option maxRecDepth 10000 in
theorem t_fault58 {pg : Pg} (hp : pg.fn 58 = some c_spec_l02Fault) (h68 : S_do pg 68) (h67 : S_same pg) : S_fault58 pg := by
  intro f s h
  obtain ⟨a, b, c, l, hl, hf1, hf2, hf3, hmin⟩ := fault f s
  have h0 := h.pos
  have h12 := h.small
  refine ⟨l, hl, hf3, Call.intro hp rfl (by simp) ?_⟩
  show wp _ _ c_spec_l02Fault.body (post [.t 2] _ _ _) _
  simp [c_spec_l02Fault]
  refine wpLoop_count (fun x e => x ≤ a ∧ e = fr [(1, some (.val (.mem .own none [tb f, tb s]))), (3, some (.val (I f.length))), (4, some (.val (I x)))]) f.length ?_ ?_ 0 _ (by omega) ?_
  · rintro x e hx ⟨hxa, rfl⟩
    simp [hx]
    refine wpLoop_count (fun y e => (x = a → y ≤ b) ∧ e = fr [(1, some (.val (.mem .own none [tb f, tb s]))), (3, some (.val (I f.length))), (4, some (.val (I x))), (5, some (.val (I y)))]) f.length ?_ ?_ 0 _ (by omega) ?_
    · rintro y e hy ⟨hyb, rfl⟩
      simp [hy]
      refine wpLoop_count (fun z e => (x = a → y = b → z ≤ c) ∧ e = fr [(1, some (.val (.mem .own none [tb f, tb s]))), (3, some (.val (I f.length))), (4, some (.val (I x))), (5, some (.val (I y))), (6, some (.val (I z)))]) f.length ?_ ?_ 0 _ (by omega) ?_
      · rintro z e hz ⟨hzc, rfl⟩
        have hw := w3_in hx hy hz
        have d1 := dW_in h hw 0
        have d2 := dW_in h d1 1
        have d3 := dW_in h hw 1
        have d4 := dW_in h d3 0
        simp [hz]
        refine callR (h68 f s [(x : Int), y, z] 0 h (by simp) (by simp) hw) rfl rfl (fun _ => by simp) ?_
        simp
        refine callR (h68 f s _ 1 h (by simp) (by simp) d1) rfl rfl (fun _ => by simp) ?_
        simp
        refine callR (h68 f s _ 0 h (by simp) (by simp) d2) rfl rfl (fun _ => by simp) ?_
        simp
        refine callR (h68 f s [(x : Int), y, z] 1 h (by simp) (by simp) hw) rfl rfl (fun _ => by simp) ?_
        simp
        refine callR (h68 f s _ 0 h (by simp) (by simp) d3) rfl rfl (fun _ => by simp) ?_
        simp
        refine callR (h68 f s _ 1 h (by simp) (by simp) d4) rfl rfl (fun _ => by simp) ?_
        simp
        refine callR (h67 _ _ (by simp)) rfl rfl (fun _ => rfl) ?_
        by_cases hy2 : ybAt f s x y z
        · have hy3 := hy2
          unfold ybAt at hy3
          simp [hy3]
          have : ¬ (x = a ∧ y = b ∧ z = c) := fun ⟨e1, e2, e3⟩ => by
            subst e1 e2 e3
            exact (hf1 hx).2.2.2 hy2
          omega
        · have hy3 := hy2
          unfold ybAt at hy3
          have := hmin x y z hx hy hz hy2
          have e1 : x = a := by omega
          subst e1
          have e2 : y = b := by have := hyb rfl; omega
          subst e2
          have e3 : z = c := by have := hzc rfl rfl; omega
          subst e3
          simp [hy3, (hf1 hx).1]
      · rintro e ⟨hzc, rfl⟩
        simp
        have : ¬ (x = a ∧ y = b) := fun ⟨e1, e2⟩ => by
          have := hzc e1 e2
          have := (hf1 (by omega)).2.2.1
          omega
        omega
      · simp
    · rintro e ⟨hyb, rfl⟩
      simp
      have : ¬ x = a := fun e1 => by
        have := hyb e1
        have := (hf1 (by omega)).2.1
        omega
      omega
    · simp
  · rintro e ⟨h1, rfl⟩
    simp [(hf2 (by omega)).2]
  · simp

theorem yb_v2 (f s : List (List Int)) (x y z : Nat) : ybAt f s x y z ↔
    (v2 f (v2 f x y).toNat (v2 f (v2 s x y).toNat z).toNat = v2 f x (v2 f y z).toNat ∧
     v2 s (v2 f x y).toNat (v2 f (v2 s x y).toNat z).toNat = v2 f (v2 s x (v2 f y z).toNat).toNat (v2 s y z).toNat ∧
     v2 s (v2 s x y).toNat z = v2 s (v2 s x (v2 f y z).toNat).toNat (v2 s y z).toNat) := by
  simp [ybAt, dW, g2]

def S_fault61 (pg : Pg) : Prop := ∀ f s : List (List Int), PM f s → ∃ o : Option (List Int), (o = none ↔ YB f s) ∧ Call pg 61 [sol f s] [sol f s] (ownI o)
set_option maxRecDepth 10000 in
theorem t_fault61 {pg : Pg} (hp : pg.fn 61 = some c_impl_equationFault) : S_fault61 pg := by
  intro f s h
  obtain ⟨a, b, c, l, hl, hf1, hf2, hf3, hmin⟩ := fault f s
  have h0 := h.pos
  have h12 := h.small
  have fr' := fun x hx => h.tf.row (x := x) hx
  have sr' : ∀ x (hx : x < s.length), (s[x]).length = f.length := fun x hx => (h.ts.row hx).trans h.len
  have hF0 : ∀ i j, 0 ≤ v2 f i j := h.tf.nonneg
  have hF1 : ∀ i j, v2 f i j < f.length := h.tf.lt h0
  have hF2 : ∀ i j, (v2 f i j).toNat < f.length := h.tf.ltN h0
  have hS0 : ∀ i j, 0 ≤ v2 s i j := h.ts.nonneg
  have hS1 : ∀ i j, v2 s i j < f.length := fun i j => by have := h.ts.lt (by rw [h.len]; exact h0) i j; rw [h.len] at this; exact this
  have hS2 : ∀ i j, (v2 s i j).toNat < f.length := fun i j => by have := hS0 i j; have := hS1 i j; omega
  refine ⟨if a < f.length then some l else none, ?_, Call.intro hp rfl (by simp) ?_⟩
  · by_cases ha : a < f.length
    · have h1 := (hf1 ha).1
      rw [← hl, if_pos ha, h1]
      simp
    · have h1 := (hf2 ha).2
      rw [← hl, if_neg ha, h1]
      simp
  show wp _ _ c_impl_equationFault.body (post [.t 2] _ _ _) _
  simp [c_impl_equationFault]
  refine wpLoop_count (fun x e => x ≤ a ∧ e = fr [(1, some (.val (.mem .own none [tb f, tb s]))), (3, some (.val (I f.length))), (16, some (.val (I f.length))), (17, some (.val (I x)))]) f.length ?_ ?_ 0 _ (by omega) ?_
  · rintro x e hx ⟨hxa, rfl⟩
    simp [hx]
    refine wpLoop_count (fun y e => (x = a → y ≤ b) ∧ e = fr [(1, some (.val (.mem .own none [tb f, tb s]))), (3, some (.val (I f.length))), (4, some (.val (I x))), (16, some (.val (I f.length))), (17, some (.val (I x))), (20, some (.val (I f.length))), (21, some (.val (I y)))]) f.length ?_ ?_ 0 _ (by omega) ?_
    · rintro y e hy ⟨hyb, rfl⟩
      simp [hy]
      refine wpLoop_count (fun z e => (x = a → y = b → z ≤ c) ∧ e = fr [(1, some (.val (.mem .own none [tb f, tb s]))), (3, some (.val (I f.length))), (4, some (.val (I x))), (5, some (.val (I y))), (16, some (.val (I f.length))), (17, some (.val (I x))), (20, some (.val (I f.length))), (21, some (.val (I y))), (24, some (.val (I f.length))), (25, some (.val (I z)))]) f.length ?_ ?_ 0 _ (by omega) ?_
      · rintro z e hz ⟨hzc, rfl⟩
        have hyb2 := yb_v2 f s x y z
        simp [hx, hy, hz, fr', sr', h.len, get_v2, hF0, hF1, hF2, hS0, hS1, hS2]
        have bad : ¬ ybAt f s x y z → x = a ∧ y = b ∧ z = c := fun hn => by
          have := hmin x y z hx hy hz hn
          have e1 : x = a := by omega
          have e2 : y = b := by have := hyb e1; omega
          have e3 : z = c := by have := hzc e1 e2; omega
          exact ⟨e1, e2, e3⟩
        by_cases e1 : v2 f (v2 f x y).toNat (v2 f (v2 s x y).toNat z).toNat = v2 f x (v2 f y z).toNat
        · by_cases e2 : v2 s (v2 f x y).toNat (v2 f (v2 s x y).toNat z).toNat = v2 f (v2 s x (v2 f y z).toNat).toNat (v2 s y z).toNat
          · by_cases e3 : v2 s (v2 s x y).toNat z = v2 s (v2 s x (v2 f y z).toNat).toNat (v2 s y z).toNat
            · simp [e1, e2, e3]
              have : ¬ (x = a ∧ y = b ∧ z = c) := fun ⟨g1, g2, g3⟩ => by
                subst g1 g2 g3
                exact (hf1 hx).2.2.2 (hyb2.2 ⟨e1, e2, e3⟩)
              omega
            · obtain ⟨g1, g2, g3⟩ := bad fun hh => e3 (hyb2.1 hh).2.2
              subst g1 g2 g3
              simp [e1, e2, e3, hx, (hf1 hx).1, ownI]
          · obtain ⟨g1, g2, g3⟩ := bad fun hh => e2 (hyb2.1 hh).2.1
            subst g1 g2 g3
            simp [e1, e2, undefV, hx, (hf1 hx).1, ownI]
        · obtain ⟨g1, g2, g3⟩ := bad fun hh => e1 (hyb2.1 hh).1
          subst g1 g2 g3
          simp [e1, undefV, hx, (hf1 hx).1, ownI]
      · rintro e ⟨hzc, rfl⟩
        simp
        have : ¬ (x = a ∧ y = b) := fun ⟨e1, e2⟩ => by
          have := hzc e1 e2
          have := (hf1 (by omega)).2.2.1
          omega
        omega
      · simp
    · rintro e ⟨hyb, rfl⟩
      simp
      have : ¬ x = a := fun e1 => by
        have := hyb e1
        have := (hf1 (by omega)).2.1
        omega
      omega
    · simp
  · rintro e ⟨h1, rfl⟩
    have h2 : ¬ a < f.length := by omega
    simp [h2, ownI]
  · simp

def isSol (f s : List (List Int)) : Prop := isPairMap f s ∧ Inj f s ∧ YB f s

/-- A sentence that is decided somehow. -/
noncomputable def dec (p : Prop) : Bool := @decide p (Classical.propDecidable p)
theorem dec_true {p : Prop} (h : p) : dec p = true := by simp [dec, h]
theorem dec_false {p : Prop} (h : ¬ p) : dec p = false := by simp [dec, h]

def S_isSol (pg : Pg) (n : Nat) : Prop := ∀ f s : List (List Int), fits f → fits s → Call pg n [sol f s] [sol f s] (B (dec (isSol f s)))
theorem t_l02Is {pg : Pg} (hp : pg.fn 41 = some c_spec_l02Is) (h56 : S_pairMap pg 56) (h57 : S_coll57 pg) (h58 : S_fault58 pg) : S_isSol pg 41 := by
  intro f s hf hs
  refine Call.intro hp rfl (by simp) ?_
  show wp _ _ c_spec_l02Is.body (post [.t 2] _ _ _) _
  simp [c_spec_l02Is]
  refine callR (h56 f s hf hs) rfl rfl (fun _ => rfl) ?_
  by_cases h1 : isPairMap f s
  · have hpm := PM.of h1
    obtain ⟨l, hl, hl2, hc⟩ := h57 f s hpm
    simp [h1]
    refine callR hc rfl rfl (fun _ => by simp) ?_
    by_cases h2 : Inj f s
    · have h3 := hl.2 h2
      obtain ⟨l2, hm, hm2, hc2⟩ := h58 f s hpm
      simp [h3]
      refine callR hc2 rfl rfl (fun _ => by simp) ?_
      by_cases h4 : YB f s
      · have h5 := hm.2 h4
        simp [h5, dec_true (show isSol f s from ⟨h1, h2, h4⟩)]
      · have h5 : ¬ l2.length = 0 := fun h => h4 (hm.1 h)
        have h6 : ¬ ((l2.length : Nat) : Int) = 0 := by omega
        simp [h5, dec_false (show ¬ isSol f s from fun h => h4 h.2.2)]
    · have h3 : ¬ l.length = 0 := fun h => h2 (hl.1 h)
      have h6 : ¬ ((l.length : Nat) : Int) = 0 := by omega
      simp [h3, undefV, dec_false (show ¬ isSol f s from fun h => h2 h.2.1)]
  · simp [h1, undefV, dec_false (show ¬ isSol f s from fun h => h1 h.1)]

theorem t_IsSolution {pg : Pg} (hp : pg.fn 42 = some c_impl_IsSolution) (h59 : S_pairMap pg 59) (h60 : S_coll60 pg) (h61 : S_fault61 pg) : S_isSol pg 42 := by
  intro f s hf hs
  refine Call.intro hp rfl (by simp) ?_
  show wp _ _ c_impl_IsSolution.body (post [.t 2] _ _ _) _
  simp [c_impl_IsSolution]
  refine callR (h59 f s hf hs) rfl rfl (fun _ => rfl) ?_
  by_cases h1 : isPairMap f s
  · have hpm := PM.of h1
    obtain ⟨l, hl, hc⟩ := h60 f s hpm
    simp [h1]
    refine callR hc rfl rfl (fun _ => by cases l <;> simp [ownI]) ?_
    by_cases h2 : Inj f s
    · have h3 := hl.2 h2
      subst h3
      obtain ⟨l2, hm, hc2⟩ := h61 f s hpm
      simp [ownI]
      refine callR hc2 rfl rfl (fun _ => by cases l2 <;> simp [ownI]) ?_
      by_cases h4 : YB f s
      · have h5 := hm.2 h4
        subst h5
        simp [ownI, dec_true (show isSol f s from ⟨h1, h2, h4⟩)]
      · cases l2 with
        | none => exact absurd (hm.1 rfl) h4
        | some l2 => simp [ownI, dec_false (show ¬ isSol f s from fun h => h4 h.2.2)]
    · cases l with
      | none => exact absurd (hl.1 rfl) h2
      | some l => simp [ownI, undefV, dec_false (show ¬ isSol f s from fun h => h2 h.2.1)]
  · simp [h1, undefV, dec_false (show ¬ isSol f s from fun h => h1 h.1)]
end Go.Mch
/- FixedPairs, of the reference and of the program. -/
namespace Go.Mch

theorem rows_append (a b : List (List Int)) : rows (a ++ b) = rows a ++ rows b := by simp [rows]

end Go.Mch
/- The law of FixedPairs. -/
namespace Go.Mch

/-- An own table or nil, as one that is only read. -/
def eT : Option (List (List Int)) → T
  | none => nil
  | some X => tb X
def ryT (o : Option (List (List Int))) : Rw (Rw Int) := Rw.ofO (o.map fun X => X.map .of)
theorem rawT_ry (o : Option (List (List Int))) : rawT (ryT o) = eT o := by
  cases o with
  | none => rfl
  | some X => exact rawT_tb X
theorem map_lst_of {α : Type} (X : List (List α)) : (X.map Rw.of).map lst = X := by simp [Function.comp_def]
theorem lst_ry (o : Option (List (List Int))) : (lst (ryT o)).map lst = lso o := by
  cases o with
  | none => rfl
  | some X => exact map_lst_of X
theorem small_ry {o : Option (List (List Int))} (h : smallT (lso o)) : small (ryT o) := by
  cases o with
  | none => exact ⟨by simp [ryT, Rw.ofO, lst], by simp [ryT, Rw.ofO, lst]⟩
  | some X => exact ⟨by simpa [ryT, Rw.ofO] using h.1, by simpa [ryT, Rw.ofO] using h.2⟩
theorem S_eqT.o {pg : Pg} (h : S_eqT pg) (o o' : Option (List (List Int))) (hs : smallT (lso o)) : Call pg 21 [eT o, eT o'] [eT o, eT o'] (B (decide (lso o = lso o'))) := by
  have := h (ryT o) (ryT o') (small_ry hs)
  simp only [rawT_ry, lst_ry] at this
  exact this
theorem S_heldT.o {pg : Pg} (h : S_heldT pg) (o : Option (List (List Int))) (k : Int) (hs : smallT (lso o)) (h1 : -1 ≤ k) (h2 : k ≤ 2305843009213693952) : Call pg 24 [eT o, I k] [eT o, I k] (I (heldL (lso o) k)) := by
  have := h (ryT o) k (small_ry hs) h1 h2
  simp only [rawT_ry, lst_ry] at this
  exact this
theorem S_eqSol.o {pg : Pg} (h : S_eqSol pg) (X Y Z W : List (List Int)) (hX : smallT X) (hY : smallT Y) : Call pg 18 [.agg [tb X, tb Y], .agg [tb Z, tb W]] [.agg [tb X, tb Y], .agg [tb Z, tb W]] (B (decide (X = Z ∧ Y = W))) := by
  have := h (ryT (some X)) (ryT (some Y)) (ryT (some Z)) (ryT (some W)) (small_ry hX) (small_ry hY)
  simp only [rawT_ry, lst_ry] at this
  exact this

theorem fitsT_of {a : Rw (Rw Int)} (h : small a) : fits ((lst a).map lst) := ⟨by simpa using h.1, by simpa using h.2⟩
theorem upT_small {X : List (List Int)} (h : smallT X) (k : Int) : smallT (upT k X) := by
  refine ⟨by simpa [upT] using h.1, fun r hr => ?_⟩
  simp only [upT, List.mem_map, List.mem_range] at hr
  obtain ⟨j, hj, rfl⟩ := hr
  rw [up_length]
  have := h.2 X[j] (List.getElem_mem hj)
  simpa [List.getD_eq_getElem?_getD, hj] using this

end Go.Mch
/- TupleMove, of the reference and of the program. -/
namespace Go.Mch

def isTup (n : Int) (xs : List Int) : Prop := xs.length ≤ 12 ∧ inR 0 (n - 1) xs
instance (n : Int) (xs : List Int) : Decidable (isTup n xs) := by unfold isTup; infer_instance
/-- What TupleMove takes. -/
def tmOk (f : List (List Int)) (w : List Int) (p : Int) : Prop := isTup f.length w ∧ 0 ≤ p ∧ p ≤ (w.length : Int) - 2
instance (f : List (List Int)) (w : List Int) (p : Int) : Decidable (tmOk f w p) := by unfold tmOk; infer_instance
end Go.Mch
/- The law of TupleMove. -/
namespace Go.Mch

/-- An own list or nil, as one that is only read. -/
def eI : Option (List Int) → T
  | none => nil
  | some X => ix X
theorem rawI_ry (o : Option (List Int)) : rawI (Rw.ofO o) = eI o := by cases o <;> rfl
theorem S_eqI.o {pg : Pg} (h : S_eqI pg) (o o' : Option (List Int)) (hs : (lso o).length ≤ 1048576) : Call pg 9 [eI o, eI o'] [eI o, eI o'] (B (decide (lso o = lso o'))) := by
  have := h (Rw.ofO o) (Rw.ofO o') (by simpa using hs)
  simp only [rawI_ry, lst_ofO] at this
  exact this
theorem S_heldI.o {pg : Pg} (h : S_heldI pg) (o : Option (List Int)) (k : Int) (hs : (lso o).length ≤ 1048576) (h1 : -1 ≤ k) (h2 : k ≤ 4611686018427387904) : Call pg 13 [eI o, I k] [eI o, I k] (I (held (lso o) k)) := by
  have := h (Rw.ofO o) k (by simpa using hs) h1 h2
  simp only [rawI_ry, lst_ofO] at this
  exact this
theorem S_markI.at0 {pg : Pg} (h : S_markI pg) (k : Int) (h2 : -1 ≤ k) (h3 : k ≤ 4611686018427387904) : Call pg 12 [nil, I k] [nil, I k] (I k) := by
  have := h none k (by simp) h2 h3
  simpa [ownI] using this

end Go.Mch
/- Racks. -/
namespace Go.Mch

/-! ### As many places as numbers -/

theorem len_le_of_sub {α : Type} [DecidableEq α] : ∀ (l p : List α), l.Nodup → (∀ x ∈ l, x ∈ p) → l.length ≤ p.length
  | [], _, _, _ => by simp
  | a :: l, p, hd, hs => by
    have ha : a ∈ p := hs a (by simp)
    have hn := List.nodup_cons.1 hd
    have := len_le_of_sub l (p.erase a) hn.2 fun x hx => by
      have hne : x ≠ a := fun e => hn.1 (e ▸ hx)
      exact (List.mem_erase_of_ne hne).2 (hs x (by simp [hx]))
    have h2 := List.length_erase_of_mem ha
    have h3 : 0 < p.length := List.length_pos_of_mem ha
    simp only [List.length_cons]
    omega

theorem nodup_of_sub {α : Type} [DecidableEq α] : ∀ (l p : List α), l.Nodup → (∀ x ∈ l, x ∈ p) → p.length = l.length → p.Nodup
  | [], p, _, _, h => by
    have : p = [] := List.eq_nil_of_length_eq_zero (by simpa using h)
    subst this
    exact List.nodup_nil
  | a :: l, p, hd, hs, h => by
    have ha : a ∈ p := hs a (by simp)
    have hn := List.nodup_cons.1 hd
    have h2 := List.length_erase_of_mem ha
    have h4 : (p.erase a).length = l.length := by simp only [List.length_cons] at h; omega
    have hsub : ∀ x ∈ l, x ∈ p.erase a := fun x hx => by
      have hne : x ≠ a := fun e => hn.1 (e ▸ hx)
      exact (List.mem_erase_of_ne hne).2 (hs x (by simp [hx]))
    have hp := nodup_of_sub l (p.erase a) hn.2 hsub h4
    have hna : a ∉ p.erase a := fun hm => by
      have := len_le_of_sub (a :: l) (p.erase a) hd fun x hx => by
        rcases List.mem_cons.1 hx with rfl | hx
        · exact hm
        · exact hsub x hx
      simp only [List.length_cons] at this
      omega
    exact (List.perm_cons_erase ha).nodup_iff.2 (List.nodup_cons.2 ⟨hna, hp⟩)

def nums (n : Nat) : List Int := (List.range n).map Int.ofNat
theorem nums_nodup (n : Nat) : (nums n).Nodup := by
  refine List.Pairwise.map _ (fun a b h => ?_) (List.nodup_range (n := n))
  intro e
  exact h (Int.ofNat.inj e)
theorem perm_permuted {p : List Int} (h1 : 1 ≤ p.length) (h2 : p.length ≤ 12) (hr : ∀ x ∈ p, 0 ≤ x ∧ x < p.length) : isPerm p ↔ isPermuted p := by
  constructor
  · intro h
    refine ⟨hr, nodup_of_sub (nums p.length) p (nums_nodup _) (fun x hx => ?_) (by simp [nums])⟩
    simp only [nums, List.mem_map, List.mem_range] at hx
    obtain ⟨k, hk, rfl⟩ := hx
    exact h.2.2 k hk
  · intro h
    refine ⟨h1, h2, fun x hx => ?_⟩
    by_cases hm : (x : Int) ∈ p
    · exact hm
    · have := len_le_of_sub p ((nums p.length).erase x) h.2 fun y hy => by
        have hy2 := hr y hy
        have hne : y ≠ (x : Int) := fun e => hm (e ▸ hy)
        refine (List.mem_erase_of_ne hne).2 ?_
        simp only [nums, List.mem_map, List.mem_range]
        exact ⟨y.toNat, by omega, by show ((y.toNat : Nat) : Int) = y; omega⟩
      have hx2 : (x : Int) ∈ nums p.length := by
        simp only [nums, List.mem_map, List.mem_range]
        exact ⟨x, hx, rfl⟩
      have h3 := List.length_erase_of_mem hx2
      have h4 : (nums p.length).length = p.length := by simp [nums]
      omega
end Go.Mch
/- Racks, as the reference and the program test them. -/
namespace Go.Mch

/-- Left distributive at three numbers. -/
def sdAt (t : List (List Int)) (x y z : Nat) : Prop := v2 t x (v2 t y z).toNat = v2 t (v2 t x y).toNat (v2 t x z).toNat
instance (t : List (List Int)) (x y z : Nat) : Decidable (sdAt t x y z) := by unfold sdAt; infer_instance
end Go.Mch
/- RackMove, of the reference and of the program. -/
namespace Go.Mch

theorem S_eqRack.o {pg : Pg} (h : S_eqRack pg) (X Z : List (List Int)) (hX : smallT X) : Call pg 10 [.agg [tb X], .agg [tb Z]] [.agg [tb X], .agg [tb Z]] (B (decide (X = Z))) := by
  have := h (ryT (some X)) (ryT (some Z)) (small_ry hX)
  simp only [rawT_ry, lst_ry] at this
  exact this

end Go.Mch
/- Columns, tables turned over, permutations one behind another, copies of tables. -/
namespace Go.Mch

@[simp] theorem frzL_mapI (k : K) (xs : List Int) : T.frzL k (xs.map I) = xs.map I := by
  induction xs with
  | nil => rfl
  | cons x xs ih => simp [ih]
@[simp] theorem frzL_tbL (k : K) (t : List (List Int)) : T.frzL k (tbL t) = tbL t := by
  induction t with
  | nil => rfl
  | cons x xs ih => simp only [tbL, List.map_cons] at ih ⊢; simp [ih]
theorem map_range_succ {α : Type} (f : Nat → α) (k : Nat) : (List.range (k + 1)).map f = (List.range k).map f ++ [f k] := by simp [List.range_succ]

/-- A square table by its values. -/
def tabL (n : Nat) (g : Nat → Nat → Int) : List (List Int) := (List.range n).map fun x => (List.range n).map fun y => g x y
@[simp] theorem tabL_length (n : Nat) (g : Nat → Nat → Int) : (tabL n g).length = n := by simp [tabL]
theorem tabL_row {n : Nat} {g : Nat → Nat → Int} {r : List Int} (h : r ∈ tabL n g) : r.length = n := by
  simp only [tabL, List.mem_map] at h
  obtain ⟨x, _, rfl⟩ := h
  simp
theorem tab_of {n : Nat} {g : Nat → Nat → Int} (h : ∀ x y, x < n → y < n → 0 ≤ g x y ∧ g x y < n) : Tab (tabL n g) := by
  intro r hr
  refine ⟨by rw [tabL_row hr]; simp, fun v hv => ?_⟩
  simp only [tabL, List.mem_map, List.mem_range] at hr
  obtain ⟨x, hx, rfl⟩ := hr
  simp only [List.mem_map, List.mem_range] at hv
  obtain ⟨y, hy, rfl⟩ := hv
  simpa using h x y hx hy
def colL (t : List (List Int)) (y : Nat) : List Int := (List.range t.length).map fun x => v2 t x y
/-- A table, rows and columns exchanged. -/
def turnL (t : List (List Int)) : List (List Int) := tabL t.length fun x y => v2 t y x
@[simp] theorem colL_length (t : List (List Int)) (y : Nat) : (colL t y).length = t.length := by simp [colL]
@[simp] theorem turnL_length (t : List (List Int)) : (turnL t).length = t.length := by simp [turnL]
theorem turnL_tab {t : List (List Int)} (h : Tab t) (h0 : 0 < t.length) : Tab (turnL t) := by
  apply tab_of
  intro x y hx hy
  exact ⟨h.nonneg _ _, h.lt h0 _ _⟩

def S_column (pg : Pg) : Prop := ∀ (t : List (List Int)) (y : Nat), t.length ≤ 1048576 → (∀ r ∈ t, y < r.length) → Call pg 375 [tb t, I y] [tb t, I y] (.mem .own (some 1) ((colL t y).map I))
theorem t_column {pg : Pg} (hp : pg.fn 375 = some c_spec_l01Column) : S_column pg := by
  intro t y hl hr
  refine Call.intro hp rfl (by simp) ?_
  show wp _ _ c_spec_l01Column.body (post [.t 4] _ _ _) _
  simp [c_spec_l01Column]
  refine wpLoop_count (fun k e => e = fr [(0, some (.val (tb t))), (1, some (.val (I y))), (5, some (.val (.mem .own (some 1) (((List.range k).map fun x => v2 t x y).map I)))), (6, some (.val (I k)))]) t.length ?_ ?_ 0 _ (by omega) ?_
  · rintro k e hk rfl
    have hy := hr _ (List.getElem_mem hk)
    simp [hk, hy, get_v2, map_range_succ, roomy]
    omega
  · rintro e rfl
    simp [colL]
  · simp

def S_turn (pg : Pg) (n : Nat) : Prop := ∀ t : List (List Int), Tab t → t.length ≤ 12 → Call pg n [tb t] [tb t] (.mem .own (some 1) (rows (turnL t)))
theorem turnL_rows (t : List (List Int)) : turnL t = (List.range t.length).map fun y => colL t y := rfl
theorem t_l01Turn {pg : Pg} (hp : pg.fn 265 = some c_spec_l01Turn) (h375 : S_column pg) : S_turn pg 265 := by
  intro t ht hl
  refine Call.intro hp rfl (by simp) ?_
  show wp _ _ c_spec_l01Turn.body (post [.t 2] _ _ _) _
  simp [c_spec_l01Turn]
  refine wpLoop_count (fun k e => e = fr [(0, some (.val (tb t))), (3, some (.val (.mem .own (some 1) (rows ((List.range k).map fun y => colL t y))))), (4, some (.val (I k)))]) t.length ?_ ?_ 0 _ (by omega) ?_
  · rintro k e hk rfl
    simp [hk]
    refine callR (h375 t k (by omega) (fun r hr => by rw [(ht r hr).1]; exact hk)) rfl rfl (fun _ => by simp) ?_
    simp [map_range_succ, rows_append, roomy]
    simp [rows]
    omega
  · rintro e rfl
    simp [turnL_rows]
  · simp [rows]

/-- What a table by values is made by. -/
def S_tableBy (pg : Pg) : Prop := ∀ (n : Nat) (g : Nat → Nat → Int) (f : Nat) (caps : List T), n ≤ 1048576 → T.eryL .old caps = caps → T.noOwnL caps = true →
  (∀ x y : Nat, x < n → y < n → Call pg f (I x :: I y :: caps) (I x :: I y :: caps) (I (g x y))) → Call pg 376 [I n, .fn f caps] [I n, .fn f caps] (.mem .own (some 1) (rows (tabL n g)))

theorem set_mid {α : Type} {l : List α} {r : List α} {k : Nat} {z v : α} (h : l.length = k) : (l ++ z :: r).set k v = l ++ v :: r := by
  subst h; simp
theorem fill_succ {α : Type} {n k : Nat} (z : α) (h : k < n) : List.replicate (n - k) z = z :: List.replicate (n - (k + 1)) z := by
  rw [show n - k = (n - (k + 1)) + 1 from by omega, List.replicate_succ]

set_option maxRecDepth 10000 in
theorem t_tableBy {pg : Pg} (hp : pg.fn 376 = some c_impl_tableBy) : S_tableBy pg := by
  intro n g f caps hn hc1 hc2 hc
  refine Call.intro hp rfl (by simp [hc2]) ?_
  show wp _ _ c_impl_tableBy.body (post [.t 4] _ _ _) _
  simp [c_impl_tableBy]
  refine ⟨by unfold roomy; omega, ?_⟩
  refine wpLoop_count (fun x e => e = fr [(0, some (.val (I n))), (1, some (.val (.fn f caps))), (5, some (.val (.mem .own (some 1) (rows ((List.range x).map fun i => (List.range n).map (g i)) ++ List.replicate (n - x) nil)))), (11, some (.val (I n))), (12, some (.val (I x)))]) n ?_ ?_ 0 _ (by omega) ?_
  · rintro x e hx rfl
    have hlen : (rows ((List.range x).map fun i => (List.range n).map (g i))).length = x := by simp
    rw [fill_succ nil hx]
    simp [hx, set_mid hlen]
    refine ⟨by unfold roomy; omega, by omega, ?_⟩
    refine wpLoop_count (fun y e => e = fr [(0, some (.val (I n))), (1, some (.val (.fn f caps))), (5, some (.val (.mem .own (some 1) (rows ((List.range x).map fun i => (List.range n).map (g i)) ++ .mem .own (some 1) (((List.range y).map (g x)).map I ++ List.replicate (n - y) (I 0)) :: List.replicate (n - (x + 1)) nil)))), (6, some (.val (I x))), (11, some (.val (I n))), (12, some (.val (I x))), (24, some (.val (I n))), (25, some (.val (I y)))]) n ?_ ?_ 0 _ (by omega) ?_
    · rintro y e hy rfl
      have hlen2 : (((List.range y).map (g x)).map I).length = y := by simp
      rw [fill_succ (I 0) hy]
      simp [hy]
      refine ⟨by omega, ?_⟩
      refine callR (by simpa [hc1] using hc x y hx hy) rfl rfl (fun _ => by simp) ?_
      simp [set_mid hlen, map_range_succ]
      omega
    · rintro e rfl
      simp [map_range_succ, rows_append]
      simp [rows]
      omega
    · simp
  · rintro e rfl
    simp [tabL, hc2]
  · simp [rows]

def S_turn1 (pg : Pg) : Prop := ∀ (t : List (List Int)) (x y : Nat) (hx : x < t.length) (hy : y < t.length), (t[y]).length = t.length → Call pg 377 [I x, I y, .mem .old none [tb t]] [I x, I y, .mem .old none [tb t]] (I (v2 t y x))
theorem t_turn1 {pg : Pg} (hp : pg.fn 377 = some c_impl_transposed_1) : S_turn1 pg := by
  intro t x y hx hy hr
  refine Call.intro hp rfl (by simp) ?_
  show wp _ _ c_impl_transposed_1.body (post [.t 5] _ _ _) _
  simp [c_impl_transposed_1, hx, hy, hr, get_v2]
theorem t_transposed {pg : Pg} (hp : pg.fn 267 = some c_impl_transposed) (h376 : S_tableBy pg) (h377 : S_turn1 pg) : S_turn pg 267 := by
  intro t ht hl
  refine Call.intro hp rfl (by simp) ?_
  show wp _ _ c_impl_transposed.body (post [.t 2] _ _ _) _
  simp [c_impl_transposed]
  refine callR (h376 t.length (fun x y => v2 t y x) 377 [.mem .old none [tb t]] (by omega) (by simp) (by simp) (fun x y hx hy => h377 t x y hx hy (ht.row hy))) rfl rfl (fun _ => by simp) ?_
  simp [turnL]

/-- A nondegenerate pair map, as both test it. -/
def nonDeg (f s : List (List Int)) : Prop := permRows f ∧ permRows (turnL s)
instance (f s : List (List Int)) : Decidable (nonDeg f s) := by unfold nonDeg; infer_instance
def S_nonDeg (pg : Pg) (n : Nat) : Prop := ∀ f s : List (List Int), PM f s → Call pg n [sol f s] [sol f s] (B (decide (nonDeg f s)))
theorem turnL_fits {t : List (List Int)} (h : t.length ≤ 12) : ∀ r ∈ turnL t, r.length ≤ 1048576 := fun r hr => by
  have := tabL_row hr
  omega

theorem t_isNondeg {pg : Pg} (hp : pg.fn 285 = some c_impl_isNondegenerate) (h51 : S_permRows pg) (h267 : S_turn pg 267) : S_nonDeg pg 285 := by
  intro f s h
  have h0 := h.pos
  have h12 := h.small
  have hl := h.len
  refine Call.intro hp rfl (by simp) ?_
  show wp _ _ c_impl_isNondegenerate.body (post [.t 2] _ _ _) _
  simp [c_impl_isNondegenerate]
  refine callR (h51 f (by omega) (fun r hr => by have := (h.tf r hr).1; omega)) rfl rfl (fun _ => rfl) ?_
  by_cases h1 : permRows f
  · simp [h1]
    refine callR (h267 s h.ts (by omega)) rfl rfl (fun _ => by simp) ?_
    simp
    refine callR (h51 (turnL s) (by simp; omega) (turnL_fits (by omega))) rfl rfl (fun _ => rfl) ?_
    simp [nonDeg, h1]
  · simp [h1, nonDeg, undefV]

theorem permRows_spec {t : List (List Int)} (h : Tab t) (h0 : 0 < t.length) (h12 : t.length ≤ 12) : (∀ r ∈ t, isPerm r) ↔ permRows t := by
  constructor
  · intro g r hr
    have := h r hr
    exact (perm_permuted (by omega) (by omega) (fun x hx => by have := this.2 x hx; omega)).1 (g r hr)
  · intro g r hr
    have := h r hr
    exact (perm_permuted (by omega) (by omega) (fun x hx => by have := this.2 x hx; omega)).2 (g r hr)

def S_l01Rows (pg : Pg) : Prop := ∀ t : List (List Int), Tab t → 0 < t.length → t.length ≤ 12 → Call pg 410 [tb t] [tb t] (B (decide (permRows t)))
theorem t_l01Rows {pg : Pg} (hp : pg.fn 410 = some c_spec_l01Rows) (h47 : S_perm pg 47) : S_l01Rows pg := by
  intro t ht h0 h12
  refine Call.intro hp rfl (by simp) ?_
  show wp _ _ c_spec_l01Rows.body (post [.t 2] _ _ _) _
  have hsp := permRows_spec ht h0 h12
  simp [c_spec_l01Rows]
  refine wpLoop_count (fun k e => (∀ i (h : i < t.length), i < k → isPerm t[i]) ∧ e = fr [(0, some (.val (tb t))), (3, some (.val (I k)))]) t.length ?_ ?_ 0 _ (by omega) ?_
  · rintro k e hk ⟨h1, rfl⟩
    simp [hk]
    refine callR (h47 _ (by have := ht.row hk; omega)) rfl rfl (fun _ => rfl) ?_
    by_cases hm : isPerm t[k]
    · simp [hm]
      refine ⟨by omega, fun i hi hik => ?_⟩
      rcases Nat.lt_or_ge i k with h2 | h2
      · exact h1 i hi h2
      · have : i = k := by omega
        subst this; exact hm
    · have : ¬ permRows t := fun h => hm (hsp.2 h _ (List.getElem_mem hk))
      simp [hm, this]
  · rintro e ⟨h1, rfl⟩
    have : permRows t := hsp.1 fun x hx => by
      obtain ⟨i, hi, rfl⟩ := List.getElem_of_mem hx
      exact h1 i hi hi
    simp [this]
  · simp

theorem t_l02Good {pg : Pg} (hp : pg.fn 350 = some c_spec_l02Good) (h410 : S_l01Rows pg) (h265 : S_turn pg 265) : S_nonDeg pg 350 := by
  intro f s h
  have h0 := h.pos
  have h12 := h.small
  have hl := h.len
  refine Call.intro hp rfl (by simp) ?_
  show wp _ _ c_spec_l02Good.body (post [.t 2] _ _ _) _
  simp [c_spec_l02Good]
  refine callR (h410 f h.tf h0 h12) rfl rfl (fun _ => rfl) ?_
  by_cases h1 : permRows f
  · simp [h1]
    refine callR (h265 s h.ts (by omega)) rfl rfl (fun _ => by simp) ?_
    simp
    refine callR (h410 (turnL s) (turnL_tab h.ts (by omega)) (by simp; omega) (by simp; omega)) rfl rfl (fun _ => rfl) ?_
    simp [nonDeg, h1]
  · simp [h1, nonDeg, undefV]

/-- A nondegenerate solution. -/
def isReg (f s : List (List Int)) : Prop := isSol f s ∧ nonDeg f s
def S_reg (pg : Pg) (n : Nat) : Prop := ∀ f s : List (List Int), fits f → fits s → Call pg n [sol f s] [sol f s] (B (dec (isReg f s)))
theorem t_l07Is {pg : Pg} (hp : pg.fn 264 = some c_spec_l07Is) (h41 : S_isSol pg 41) (h350 : S_nonDeg pg 350) : S_reg pg 264 := by
  intro f s hf hs
  refine Call.intro hp rfl (by simp) ?_
  show wp _ _ c_spec_l07Is.body (post [.t 2] _ _ _) _
  simp [c_spec_l07Is]
  refine callR (h41 f s hf hs) rfl rfl (fun _ => rfl) ?_
  by_cases h1 : isSol f s
  · simp [dec_true h1]
    refine callR (h350 f s (PM.of h1.1)) rfl rfl (fun _ => rfl) ?_
    by_cases h2 : nonDeg f s
    · simp [h2, dec_true (show isReg f s from ⟨h1, h2⟩)]
    · simp [h2, dec_false (show ¬ isReg f s from fun h => h2 h.2)]
  · simp [dec_false h1, undefV, dec_false (show ¬ isReg f s from fun h => h1 h.1)]
theorem t_isRegular {pg : Pg} (hp : pg.fn 266 = some c_impl_isRegular) (h42 : S_isSol pg 42) (h285 : S_nonDeg pg 285) : S_reg pg 266 := by
  intro f s hf hs
  refine Call.intro hp rfl (by simp) ?_
  show wp _ _ c_impl_isRegular.body (post [.t 2] _ _ _) _
  simp [c_impl_isRegular]
  refine callR (h42 f s hf hs) rfl rfl (fun _ => rfl) ?_
  by_cases h1 : isSol f s
  · simp [dec_true h1]
    refine callR (h285 f s (PM.of h1.1)) rfl rfl (fun _ => rfl) ?_
    by_cases h2 : nonDeg f s
    · simp [h2, dec_true (show isReg f s from ⟨h1, h2⟩)]
    · simp [h2, dec_false (show ¬ isReg f s from fun h => h2 h.2)]
  · simp [dec_false h1, undefV, dec_false (show ¬ isReg f s from fun h => h1 h.1)]

end Go.Mch
/- Permutations one behind another, copies of tables; LambdaMaps, RhoMaps, IsAbelianLeft, of the reference and of the program. -/
namespace Go.Mch

/-- Do p, then q. -/
def thenL (p q : List Int) : List Int := p.map fun x => q.getD x.toNat 0
@[simp] theorem thenL_length (p q : List Int) : (thenL p q).length = p.length := by simp [thenL]
/-! ### Copies of tables -/

def S_copyT (pg : Pg) (n : Nat) : Prop := ∀ t : List (List Int), fits t → Call pg n [tb t] [tb t] (.mem .own (some 1) (rows t))
theorem rows_take_succ {t : List (List Int)} {k : Nat} (hk : k < t.length) : rows (t.take (k + 1)) = rows (t.take k) ++ [.mem .own (some 1) ((t[k]).map I)] := by
  rw [List.take_succ_eq_append_getElem hk, rows_append]; rfl
theorem t_l01Own2 {pg : Pg} (hp : pg.fn 280 = some c_spec_l01Own2) (h31 : S_own pg) : S_copyT pg 280 := by
  intro t ht
  have hl := ht.1
  refine Call.intro hp rfl (by simp) ?_
  show wp _ _ c_spec_l01Own2.body (post [.t 2] _ _ _) _
  simp [c_spec_l01Own2]
  refine wpLoop_count (fun k e => e = fr [(0, some (.val (tb t))), (3, some (.val (.mem .own (some 1) (rows (t.take k))))), (4, some (.val (I k)))]) t.length ?_ ?_ 0 _ (by omega) ?_
  · rintro k e hk rfl
    simp [hk]
    refine callR (h31 _ (ht.2 _ (List.getElem_mem hk))) rfl rfl (fun _ => by simp) ?_
    simp [rows_take_succ hk, roomy]
    omega
  · rintro e rfl
    simp [take_len]
  · simp [rows]
/-! ### LambdaMaps, RhoMaps -/

/-- What stands behind the test of a nondegenerate solution: X, else z. -/
noncomputable def onReg {α : Type} (z : α) (X : List (List Int) → List (List Int) → α) (f s : List (List Int)) : α := if dec (isReg f s) then X f s else z
theorem onReg_true {α : Type} {z : α} {X : List (List Int) → List (List Int) → α} {f s : List (List Int)} (h : isReg f s) : onReg z X f s = X f s := by simp [onReg, dec_true h]
theorem onReg_false {α : Type} {z : α} {X : List (List Int) → List (List Int) → α} {f s : List (List Int)} (h : ¬ isReg f s) : onReg z X f s = z := by simp [onReg, dec_false h]

/-! ### IsAbelianLeft -/

def abel (f : List (List Int)) : Prop := ∀ x y : Nat, x < f.length → y < f.length → thenL (f.getD x []) (f.getD y []) = thenL (f.getD y []) (f.getD x [])
instance (f : List (List Int)) : Decidable (abel f) := by
  have : abel f ↔ ∀ x ∈ List.range f.length, ∀ y ∈ List.range f.length, thenL (f.getD x []) (f.getD y []) = thenL (f.getD y []) (f.getD x []) := by
    simp only [abel, List.mem_range]
    exact ⟨fun h x hx y hy => h x y hx hy, fun h x y hx hy => h x hx y hy⟩
  exact decidable_of_iff _ this.symm
theorem Tab.inN {t : List (List Int)} (h : Tab t) {x : Nat} (hx : x < t.length) : inN t.length t[x] := fun v hv => (h _ (List.getElem_mem hx)).2 v hv

end Go.Mch
/- The guitar map, back and forth, and the derived rack, of the reference and of the program. -/
namespace Go.Mch

@[simp] theorem dec_True : dec True = true := dec_true trivial
@[simp] theorem dec_False : dec False = false := dec_false id
/-! ### The guitar map -/

end Go.Mch
/- The guitar map taken back, the derived rack, of the reference and of the program. -/
namespace Go.Mch

def S_indexIn (pg : Pg) (n : Nat) : Prop := ∀ (xs : List Int) (v : Int), xs.length ≤ 1048576 → Call pg n [ix xs, I v] [ix xs, I v] (I (ixOf xs v))
theorem t_slicesIndex {pg : Pg} (hp : pg.fn 384 = some c_slices_Index___int64_int64_) : S_indexIn pg 384 := by
  intro xs v hl
  refine Call.intro hp rfl (by simp) ?_
  show wp _ _ c_slices_Index___int64_int64_.body (post [.t 4] _ _ _) _
  simp [c_slices_Index___int64_int64_]
  refine wpLoop_count (fun k e => (∀ i (h : i < xs.length), i < k → xs[i] ≠ v) ∧ e = fr [(0, some (.val (ix xs))), (1, some (.val (I v))), (7, some (.val (I xs.length))), (8, some (.val (I k)))]) xs.length ?_ ?_ 0 _ (by omega) ?_
  · rintro k e hk ⟨h1, rfl⟩
    by_cases hm : xs[k] = v
    · have := ixOf_at hk (fun i hi => h1 i (by omega) hi) hm
      simp [hk, hm, this]
    · have hm2 : ¬ v = xs[k] := fun h => hm h.symm
      simp [hk, hm2]
      refine ⟨by omega, fun i hi hik => ?_⟩
      rcases Nat.lt_or_ge i k with h2 | h2
      · exact h1 i hi h2
      · have : i = k := by omega
        subst this; exact hm
  · rintro e ⟨h1, rfl⟩
    have := ixOf_none (xs := xs) (n := v) (fun i hi => h1 i hi hi)
    simp [this]
  · simp
/-- The guitar map taken back, to i numbers. -/
def gbL (f : List (List Int)) (w : List Int) : Nat → List Int
  | 0 => []
  | i + 1 => gbL f w i ++ [(gbL f w i).foldl (fun x o => ixOf (f.getD o.toNat []) x) (w.getD i 0)]
@[simp] theorem gbL_length (f : List (List Int)) (w : List Int) : ∀ i, (gbL f w i).length = i
  | 0 => rfl
  | i + 1 => by simp [gbL, gbL_length f w i]
end Go.Mch
/- The derived rack, of the reference and of the program. -/
namespace Go.Mch

/-- A value of the derived rack. -/
def raV (f s : List (List Int)) (x y : Nat) : Int := v2 f x (v2 s y (ixOf (f.getD y []) x).toNat).toNat
def raT (f s : List (List Int)) : List (List Int) := tabL f.length (raV f s)
@[simp] theorem raT_length (f s : List (List Int)) : (raT f s).length = f.length := by simp [raT]

/-! ### DerivedRack -/

def S_heldRack (pg : Pg) : Prop := ∀ (o : Option (List (List Int))) (k : Int), smallT (lso o) → 0 ≤ k → k ≤ 2305843009213693952 → heldL (lso o) k ≤ 4611686018427387904 → Call pg 149 [.agg [eT o], I k] [.agg [eT o], I k] (I (if heldL (lso o) k < 0 then -1 else heldL (lso o) k))
end Go.Mch
/- Marks and marks read again of racks and solutions, empty ones among them; what the runs of all laws use. -/
namespace Go.Mch

@[simp] theorem isPrefixOf_cons2 (a b : Nat) (as bs : List Nat) : (a :: as).isPrefixOf (b :: bs) = (a == b && as.isPrefixOf bs) := rfl

theorem S_heldRack.at {pg : Pg} (h : S_heldRack pg) (Y : List (List Int)) (m : Int) (hY : smallT Y) (h1 : 0 ≤ m) (h2 : m ≤ 1152921504606846976) : Call pg 149 [.agg [tb (upT m Y)], I m] [.agg [tb (upT m Y)], I m] (I (kAt m Y Y.length)) := by
  have hk := kAt_le (k := m) hY Y.length (Nat.le_refl _)
  have hl := hY.1
  have := h (some (upT m Y)) m (upT_small hY m) h1 (by omega) (by simp [heldL_all _ _ h1]; omega)
  simp only [lso_some, heldL_all _ _ h1] at this
  rw [if_neg (by omega)] at this
  exact this
theorem S_heldRack.at0 {pg : Pg} (h : S_heldRack pg) (m : Int) (h1 : 0 ≤ m) (h2 : m ≤ 1152921504606846976) : Call pg 149 [.agg [nil], I m] [.agg [nil], I m] (I m) := by
  have := h none m (by simp [smallT]) h1 (by omega) (by simp [heldL]; omega)
  simp only [lso_none, heldL] at this
  rw [if_neg (by omega)] at this
  exact this

def S_heldSol (pg : Pg) : Prop := ∀ (o o' : Option (List (List Int))) (k m : Int), smallT (lso o) → smallT (lso o') → 0 ≤ k → k ≤ 1152921504606846976 → 0 ≤ heldL (lso o) k → heldL (lso o) k ≤ 1152921504606846976 → heldL (lso o') (heldL (lso o) k) = m → 0 ≤ m → Call pg 172 [.agg [eT o, eT o'], I k] [.agg [eT o, eT o'], I k] (I m)
theorem S_heldSol.at {pg : Pg} (h : S_heldSol pg) (X Y : List (List Int)) (m : Int) (hX : smallT X) (hY : smallT Y) (h1 : 0 ≤ m) (h2 : m ≤ 1048576) : Call pg 172 [.agg [tb (upT m X), tb (upT (kAt m X X.length) Y)], I m] [.agg [tb (upT m X), tb (upT (kAt m X X.length) Y)], I m] (I (kAt (kAt m X X.length) Y Y.length)) := by
  have hk := kAt_le (k := m) hX X.length (Nat.le_refl _)
  have hk2 := kAt_le (k := kAt m X X.length) hY Y.length (Nat.le_refl _)
  have hl := hX.1
  have e1 := heldL_all X m h1
  have e2 := heldL_all Y (kAt m X X.length) (by omega)
  exact h (some (upT m X)) (some (upT _ Y)) m _ (upT_small hX m) (upT_small hY _) h1 (by omega) (by simp [e1]; omega) (by simp [e1]; omega) (by simp [e1, e2]) (by omega)
theorem S_heldSol.at0 {pg : Pg} (h : S_heldSol pg) (m : Int) (h1 : 0 ≤ m) (h2 : m ≤ 1048576) : Call pg 172 [.agg [nil, nil], I m] [.agg [nil, nil], I m] (I m) :=
  h none none m m (by simp [smallT]) (by simp [smallT]) h1 (by omega) (by simp [heldL]; omega) (by simp [heldL]; omega) (by simp [heldL]) (by omega)
end Go.Mch
/- The runs of the exact laws, by their shapes: sol,int,int-ints,int. -/
namespace Go.Mch
/-- The laws of this shape: sol, int, int to ints, int. -/
def lw_ppI (a b : Nat) : F where
  np := 3
  rs := [.t 6]
  body :=
    (.seq
    (.region none [ ⟨some 3, none, .box (.t 0)⟩, ⟨some 6, none, .mv (.c (.bool false))⟩] [1, 2, 3]) (.seq
    (.region none [ ⟨some 7, none, .mv (.c (.int .i64 1048576))⟩] [1, 2, 3, 7]) (.seq
    (.region none [ ⟨some 18, none, .ld (some 2) (.t 3)⟩, ⟨some 19, none, .mv (.t 7)⟩, ⟨some 20, none, .call (.f 14) [((.t 18), .r), ((.t 19), .r)]⟩, ⟨some 7, none, .mv (.t 20)⟩] [1, 2, 3, 7]) (.seq (.seq
    (.region none [ ⟨some 21, none, .mv (.t 7)⟩, ⟨some 22, none, .bin .lss (.t 21) (.c (.int .i64 0))⟩] [1, 2, 3, 22]) (.cond (.t 22) (.seq
    (.region none [ ⟨some 6, none, .mv (.c (.bool true))⟩] [6]) .ret) .skip)) (.seq
    (.region none [ ⟨some 24, none, .ld (some 2) (.t 3)⟩, ⟨some 25, none, .call (.f 16) [((.t 24), .r)]⟩, ⟨some 26, none, .mv (.t 1)⟩, ⟨some 27, none, .mv (.t 2)⟩, ⟨some 28, none, .call (.f a) [((.t 25), .r), ((.t 26), .r), ((.t 27), .r)]⟩, ⟨some 23, none, .mv (.t 28)⟩, ⟨some 29, none, .ext (.t 23) 0⟩, ⟨some 30, none, .ext (.t 23) 1⟩, ⟨some 8, none, .asg (.t 29)⟩, ⟨some 9, none, .mv (.t 30)⟩] [1, 2, 3, 8, 9]) (.seq
    (.region none [ ⟨some 31, none, .ld (some 2) (.t 3)⟩, ⟨some 32, none, .call (.f 16) [((.t 31), .r)]⟩, ⟨some 10, none, .alloc [(.slice none 0 0), (.slice none 0 0)]⟩, ⟨none, none, .st (some 2) (.t 10) (.t 32)⟩] [1, 2, 3, 8, 9, 10]) (.seq
    (.region none [ ⟨some 34, none, .ld (some 2) (.t 10)⟩, ⟨some 35, none, .mv (.t 1)⟩, ⟨some 36, none, .mv (.t 2)⟩, ⟨some 37, none, .call (.f b) [((.t 34), .r), ((.t 35), .r), ((.t 36), .r)]⟩, ⟨some 33, none, .mv (.t 37)⟩, ⟨some 38, none, .ext (.t 33) 0⟩, ⟨some 39, none, .ext (.t 33) 1⟩, ⟨some 11, none, .asg (.t 38)⟩, ⟨some 12, none, .mv (.t 39)⟩] [1, 2, 3, 8, 9, 10, 11, 12]) (.seq (.seq
    (.region none [ ⟨some 40, none, .mv (.t 11)⟩, ⟨some 41, none, .mv (.t 8)⟩, ⟨some 42, none, .call (.f 9) [((.t 40), .r), ((.t 41), .r)]⟩, ⟨some 43, none, .un .not (.t 42)⟩, ⟨some 44, none, .mv (.t 43)⟩, ⟨some 45, (some (44, false)), .mv (.t 12)⟩, ⟨some 46, (some (44, false)), .mv (.t 9)⟩, ⟨some 47, (some (44, false)), .bin .neq (.t 45) (.t 46)⟩, ⟨some 48, none, .pick (.t 44) (.c (.bool true)) (.t 47)⟩] [1, 2, 3, 8, 9, 10, 11, 12, 48]) (.cond (.t 48) (.seq
    (.region none [ ⟨some 6, none, .mv (.c (.bool false))⟩] [6]) .ret) .skip)) (.seq (.seq
    (.region (some [49, 50, 51]) [ ⟨some 49, none, .ld (some 2) (.t 10)⟩, ⟨some 50, none, .ld (some 2) (.t 3)⟩, ⟨some 51, none, .call (.f 16) [((.t 50), .r)]⟩, ⟨some 52, none, .call (.f 18) [((.t 49), .r), ((.t 51), .r)]⟩, ⟨some 53, none, .un .not (.t 52)⟩] [1, 2, 3, 8, 9, 10, 11, 12, 53]) (.cond (.t 53) (.seq
    (.region none [ ⟨some 6, none, .mv (.c (.bool false))⟩] [6]) .ret) .skip)) (.seq
    (.region none [ ⟨some 13, none, .mv (.c (.int .i64 1))⟩] [1, 2, 3, 8, 9, 10, 11, 12, 13]) (.seq
    (.region none [ ⟨some 54, none, .ld (some 2) (.t 10)⟩, ⟨some 55, none, .mv (.t 13)⟩, ⟨some 56, none, .callm (.f 22) [((.t 54), true), ((.t 55), false)] []⟩, ⟨some 13, none, .mv (.t 56)⟩] [1, 2, 3, 8, 9, 11, 12, 13]) (.seq (.seq
    (.region none [ ⟨some 57, none, .mv (.t 13)⟩, ⟨some 58, none, .bin .lss (.t 57) (.c (.int .i64 0))⟩, ⟨some 59, none, .mv (.t 58)⟩, ⟨some 60, (some (59, false)), .mv (.t 11)⟩, ⟨some 61, (some (59, false)), .mv (.t 8)⟩, ⟨some 62, (some (59, false)), .call (.f 9) [((.t 60), .r), ((.t 61), .r)]⟩, ⟨some 63, (some (59, false)), .un .not (.t 62)⟩, ⟨some 64, none, .pick (.t 59) (.c (.bool true)) (.t 63)⟩, ⟨some 65, none, .mv (.t 64)⟩, ⟨some 66, (some (65, false)), .mv (.t 12)⟩, ⟨some 67, (some (65, false)), .mv (.t 9)⟩, ⟨some 68, (some (65, false)), .bin .neq (.t 66) (.t 67)⟩, ⟨some 69, none, .pick (.t 65) (.c (.bool true)) (.t 68)⟩] [1, 2, 3, 8, 9, 11, 69]) (.cond (.t 69) (.seq
    (.region none [ ⟨some 6, none, .mv (.c (.bool false))⟩] [6]) .ret) .skip)) (.seq
    (.region none [ ⟨some 14, none, .mv (.c (.int .i64 1))⟩] [1, 2, 3, 8, 9, 11, 14]) (.seq
    (.region none [ ⟨some 70, none, .mv (.t 11)⟩, ⟨some 71, none, .mv (.t 14)⟩, ⟨some 72, none, .callm (.f 12) [((.t 70), true), ((.t 71), false)] []⟩, ⟨some 14, none, .mv (.t 72)⟩] [1, 2, 3, 8, 9, 11, 14]) (.seq
    (.region none [ ⟨some 15, none, .mv (.c (.int .i64 1))⟩] [1, 2, 3, 8, 9, 11, 14, 15]) (.seq
    (.region none [ ⟨some 73, none, .mv (.t 11)⟩, ⟨some 74, none, .mv (.t 15)⟩, ⟨some 75, none, .call (.f 13) [((.t 73), .r), ((.t 74), .r)]⟩, ⟨some 15, none, .mv (.t 75)⟩] [1, 2, 3, 8, 9, 11, 14, 15]) (.seq (.seq
    (.region none [ ⟨some 76, none, .mv (.t 15)⟩, ⟨some 77, none, .bin .lss (.t 76) (.c (.int .i64 0))⟩] [1, 2, 3, 8, 9, 11, 14, 15, 77]) (.cond (.t 77) (.seq
    (.region none [ ⟨some 6, none, .mv (.c (.bool false))⟩] [6]) .ret) .skip)) (.seq (.seq
    (.region none [ ⟨some 78, none, .mv (.t 15)⟩, ⟨some 79, none, .mv (.t 14)⟩, ⟨some 80, none, .bin .neq (.t 78) (.t 79)⟩] [1, 2, 3, 8, 9, 11, 14, 80]) (.cond (.t 80) (.seq
    (.region none [ ⟨some 6, none, .mv (.c (.bool false))⟩] [6]) .ret) .skip)) (.seq
    (.region none [ ⟨some 82, none, .ld (some 2) (.t 3)⟩, ⟨some 83, none, .call (.f 16) [((.t 82), .r)]⟩, ⟨some 84, none, .mv (.t 1)⟩, ⟨some 85, none, .mv (.t 2)⟩, ⟨some 86, none, .call (.f b) [((.t 83), .r), ((.t 84), .r), ((.t 85), .r)]⟩, ⟨some 81, none, .mv (.t 86)⟩, ⟨some 87, none, .ext (.t 81) 0⟩, ⟨some 88, none, .ext (.t 81) 1⟩, ⟨some 16, none, .asg (.t 87)⟩, ⟨some 17, none, .mv (.t 88)⟩] [8, 9, 11, 14, 16, 17]) (.seq (.seq
    (.region none [ ⟨some 89, none, .mv (.t 16)⟩, ⟨some 90, none, .mv (.t 8)⟩, ⟨some 91, none, .call (.f 9) [((.t 89), .r), ((.t 90), .r)]⟩, ⟨some 92, none, .un .not (.t 91)⟩, ⟨some 93, none, .mv (.t 92)⟩, ⟨some 94, (some (93, false)), .mv (.t 17)⟩, ⟨some 95, (some (93, false)), .mv (.t 9)⟩, ⟨some 96, (some (93, false)), .bin .neq (.t 94) (.t 95)⟩, ⟨some 97, none, .pick (.t 93) (.c (.bool true)) (.t 96)⟩] [11, 14, 97]) (.cond (.t 97) (.seq
    (.region none [ ⟨some 6, none, .mv (.c (.bool false))⟩] [6]) .ret) .skip)) (.seq
    (.region none [ ⟨some 15, none, .mv (.c (.int .i64 1))⟩] [11, 14, 15]) (.seq
    (.region none [ ⟨some 98, none, .mv (.t 11)⟩, ⟨some 99, none, .mv (.t 15)⟩, ⟨some 100, none, .call (.f 13) [((.t 98), .r), ((.t 99), .r)]⟩, ⟨some 15, none, .mv (.t 100)⟩] [14, 15]) (.seq (.seq
    (.region none [ ⟨some 101, none, .mv (.t 15)⟩, ⟨some 102, none, .bin .lss (.t 101) (.c (.int .i64 0))⟩] [14, 15, 102]) (.cond (.t 102) (.seq
    (.region none [ ⟨some 6, none, .mv (.c (.bool false))⟩] [6]) .ret) .skip)) (.seq (.seq
    (.region none [ ⟨some 103, none, .mv (.t 15)⟩, ⟨some 104, none, .mv (.t 14)⟩, ⟨some 105, none, .bin .neq (.t 103) (.t 104)⟩] [105]) (.cond (.t 105) (.seq
    (.region none [ ⟨some 6, none, .mv (.c (.bool false))⟩] [6]) .ret) .skip)) (.seq
    (.region none [ ⟨some 6, none, .mv (.c (.bool true))⟩] [6]) .ret)))))))))))))))))))))))))
def S_sh_ppI (pg : Pg) (n : Nat) (R0 : List (List Int) → List (List Int) → Int → Int → List Int) (R1 : List (List Int) → List (List Int) → Int → Int → Int) : Prop := ∀ (f0 s0 : List (List Int)) (p1 : Int) (p2 : Int), fits f0 → fits s0 → ∃ o0, lso o0 = R0 f0 s0 p1 p2 ∧ Call pg n [sol f0 s0, I p1, I p2] [sol f0 s0, I p1, I p2] (.tup [ownI o0, I (R1 f0 s0 p1 p2)])
def S_lw_ppI (pg : Pg) (n : Nat) : Prop := ∀ (a0 b0 : Rw (Rw Int)) (p1 : Int) (p2 : Int), small a0 → small b0 → ∃ args', Call pg n [.agg [rawT a0, rawT b0], I p1, I p2] args' (B true)
set_option maxRecDepth 20000 in
theorem t_lw_ppI {pg : Pg} {n a b : Nat} {R0 : List (List Int) → List (List Int) → Int → Int → List Int} {R1 : List (List Int) → List (List Int) → Int → Int → Int} (hp : pg.fn n = some (lw_ppI a b)) (hA : S_sh_ppI pg a R0 R1) (hB : S_sh_ppI pg b R0 R1) (hz0 : ∀ (f0 s0 : List (List Int)) (p1 : Int) (p2 : Int), fits f0 → fits s0 → (R0 f0 s0 p1 p2).length ≤ 1048576) (h14 : S_szSol pg) (h16 : S_toSol pg) (h18 : S_eqSol pg) (h9 : S_eqI pg) (h22 : S_markSol pg) (h12 : S_markI pg) (h13 : S_heldI pg) : S_lw_ppI pg n := by
  intro a0 b0 p1 p2 ha0 hb0
  refine ⟨[.agg [rawT a0, rawT b0], I p1, I p2], Call.intro hp rfl (by simp) ?_⟩
  obtain ⟨r, hr1, hr2, hsz⟩ := h14 a0 b0 1048576 ha0 hb0 (by omega) (by omega)
  have hto0 := h16 a0 b0 ha0 hb0
  have hfa0 := fitsT_of ha0
  have hfb0 := fitsT_of hb0
  generalize hF0 : (lst a0).map lst = F0 at *
  generalize hS0 : (lst b0).map lst = S0 at *
  obtain ⟨o0, e0, hc1⟩ := hA F0 S0 p1 p2 hfa0 hfb0
  obtain ⟨q0, g0, hc2⟩ := hB F0 S0 p1 p2 hfa0 hfb0
  have hsm0 := hz0 F0 S0 p1 p2 hfa0 hfb0
  rw [← g0] at hsm0
  have heq0 := g0.trans e0.symm
  clear e0 g0
  generalize R1 F0 S0 p1 p2 = o1 at *
  have hk0a := kAt_le (k := (1 : Int)) hfa0 F0.length (Nat.le_refl _)
  have hk0b := kAt_le (k := (kAt (1 : Int) F0 F0.length)) hfb0 S0.length (Nat.le_refl _)
  have hfl0 := hfa0.1
  have hsl0 := hfb0.1
  have hkN : ¬ (kAt (kAt (1 : Int) F0 F0.length) S0 S0.length) < 0 := by omega
  show wp _ _ (lw_ppI a b).body (post [.t 6] _ _ _) _
  simp [lw_ppI]
  refine callR hsz rfl rfl (fun _ => rfl) ?_
  by_cases hneg : r < 0
  · simp [hneg]
  · simp [hneg]
    cases o0 with
    | some X0 =>
      cases q0 with
      | some Y0 =>
        simp only [ownI, lso_some] at *
        subst heq0
        have hm0 : Y0.length ≤ 1048576 := hsm0
        have hn0 : ¬ ((1 : Int) + Y0.length) < 0 := by omega
        refine callR hto0 rfl rfl (fun _ => by simp) ?_
        simp
        refine callR hc1 rfl rfl (fun _ => by simp) ?_
        simp
        refine callR hto0 rfl rfl (fun _ => by simp) ?_
        simp
        refine callR hc2 rfl rfl (fun _ => by simp) ?_
        simp
        refine callR (h9.o (some Y0) (some Y0) hsm0) rfl rfl (fun _ => rfl) ?_
        simp
        refine callR hto0 rfl rfl (fun _ => by simp) ?_
        simp
        refine callR (h18.o F0 S0 F0 S0 hfa0 hfb0) rfl rfl (fun _ => rfl) ?_
        simp
        refine callM (ts' := [.agg [.mem .own (some 1) (rows (upT (1 : Int) F0)), .mem .own (some 1) (rows (upT (kAt (1 : Int) F0 F0.length) S0))], I (1 : Int)]) (r := I (kAt (kAt (1 : Int) F0 F0.length) S0 S0.length)) ?_ ?_ ?_ ?_
        · simp
        · simpa using h22 F0 S0 (1 : Int) hfa0 hfb0 (by omega) (by omega)
        · simp
        simp [hkN]
        refine callR (h9.o (some Y0) (some Y0) hsm0) rfl rfl (fun _ => rfl) ?_
        simp
        refine callM (ts' := [.mem .own (some 1) ((up (1 : Int) Y0.length).map I), I (1 : Int)]) (r := I ((1 : Int) + Y0.length)) ?_ ?_ ?_ ?_
        · simp
        · simpa using h12.at Y0 (1 : Int) hm0 (by omega) (by omega)
        · simp
        simp
        refine callR (h13.o (some (up (1 : Int) Y0.length)) (1 : Int) (by simpa using hm0) (by omega) (by omega)) rfl rfl (fun _ => rfl) ?_
        simp [held_up, hn0]
        refine callR hto0 rfl rfl (fun _ => by simp) ?_
        simp
        refine callR hc2 rfl rfl (fun _ => by simp) ?_
        simp
        refine callR (h9.o (some Y0) (some Y0) hsm0) rfl rfl (fun _ => rfl) ?_
        simp
        refine callR (h13.o (some (up (1 : Int) Y0.length)) (1 : Int) (by simpa using hm0) (by omega) (by omega)) rfl rfl (fun _ => rfl) ?_
        simp [held_up, hn0]
      | none =>
        simp only [ownI, lso_some, lso_none] at *
        subst heq0
        refine callR hto0 rfl rfl (fun _ => by simp) ?_
        simp
        refine callR hc1 rfl rfl (fun _ => by simp) ?_
        simp
        refine callR hto0 rfl rfl (fun _ => by simp) ?_
        simp
        refine callR hc2 rfl rfl (fun _ => by simp) ?_
        simp
        refine callR (h9.o none (some []) hsm0) rfl rfl (fun _ => rfl) ?_
        simp
        refine callR hto0 rfl rfl (fun _ => by simp) ?_
        simp
        refine callR (h18.o F0 S0 F0 S0 hfa0 hfb0) rfl rfl (fun _ => rfl) ?_
        simp
        refine callM (ts' := [.agg [.mem .own (some 1) (rows (upT (1 : Int) F0)), .mem .own (some 1) (rows (upT (kAt (1 : Int) F0 F0.length) S0))], I (1 : Int)]) (r := I (kAt (kAt (1 : Int) F0 F0.length) S0 S0.length)) ?_ ?_ ?_ ?_
        · simp
        · simpa using h22 F0 S0 (1 : Int) hfa0 hfb0 (by omega) (by omega)
        · simp
        simp [hkN]
        refine callR (h9.o none (some []) hsm0) rfl rfl (fun _ => rfl) ?_
        simp
        refine callM (ts' := [nil, I (1 : Int)]) (r := I (1 : Int)) ?_ ?_ ?_ ?_
        · simp
        · simpa using h12.at0 (1 : Int) (by omega) (by omega)
        · simp
        simp
        refine callR (h13.o none (1 : Int) hsm0 (by omega) (by omega)) rfl rfl (fun _ => rfl) ?_
        simp [held]
        refine callR hto0 rfl rfl (fun _ => by simp) ?_
        simp
        refine callR hc2 rfl rfl (fun _ => by simp) ?_
        simp
        refine callR (h9.o none (some []) hsm0) rfl rfl (fun _ => rfl) ?_
        simp
        refine callR (h13.o none (1 : Int) hsm0 (by omega) (by omega)) rfl rfl (fun _ => rfl) ?_
        simp [held]
    | none =>
      cases q0 with
      | some Y0 =>
        simp only [ownI, lso_some, lso_none] at *
        subst heq0
        refine callR hto0 rfl rfl (fun _ => by simp) ?_
        simp
        refine callR hc1 rfl rfl (fun _ => by simp) ?_
        simp
        refine callR hto0 rfl rfl (fun _ => by simp) ?_
        simp
        refine callR hc2 rfl rfl (fun _ => by simp) ?_
        simp
        refine callR (h9.o (some ([] : List Int)) none hsm0) rfl rfl (fun _ => rfl) ?_
        simp
        refine callR hto0 rfl rfl (fun _ => by simp) ?_
        simp
        refine callR (h18.o F0 S0 F0 S0 hfa0 hfb0) rfl rfl (fun _ => rfl) ?_
        simp
        refine callM (ts' := [.agg [.mem .own (some 1) (rows (upT (1 : Int) F0)), .mem .own (some 1) (rows (upT (kAt (1 : Int) F0 F0.length) S0))], I (1 : Int)]) (r := I (kAt (kAt (1 : Int) F0 F0.length) S0 S0.length)) ?_ ?_ ?_ ?_
        · simp
        · simpa using h22 F0 S0 (1 : Int) hfa0 hfb0 (by omega) (by omega)
        · simp
        simp [hkN]
        refine callR (h9.o (some ([] : List Int)) none hsm0) rfl rfl (fun _ => rfl) ?_
        simp
        refine callM (ts' := [.mem .own (some 1) [], I (1 : Int)]) (r := I (1 : Int)) ?_ ?_ ?_ ?_
        · simp
        · simpa [up] using h12.at ([] : List Int) (1 : Int) (by simp) (by omega) (by omega)
        · simp
        simp
        refine callR (h13.o (some []) (1 : Int) (by simp) (by omega) (by omega)) rfl rfl (fun _ => rfl) ?_
        simp [held]
        refine callR hto0 rfl rfl (fun _ => by simp) ?_
        simp
        refine callR hc2 rfl rfl (fun _ => by simp) ?_
        simp
        refine callR (h9.o (some ([] : List Int)) none hsm0) rfl rfl (fun _ => rfl) ?_
        simp
        refine callR (h13.o (some []) (1 : Int) (by simp) (by omega) (by omega)) rfl rfl (fun _ => rfl) ?_
        simp [held]
      | none =>
        simp only [ownI, lso_none] at *
        refine callR hto0 rfl rfl (fun _ => by simp) ?_
        simp
        refine callR hc1 rfl rfl (fun _ => by simp) ?_
        simp
        refine callR hto0 rfl rfl (fun _ => by simp) ?_
        simp
        refine callR hc2 rfl rfl (fun _ => by simp) ?_
        simp
        refine callR (h9.o none none hsm0) rfl rfl (fun _ => rfl) ?_
        simp
        refine callR hto0 rfl rfl (fun _ => by simp) ?_
        simp
        refine callR (h18.o F0 S0 F0 S0 hfa0 hfb0) rfl rfl (fun _ => rfl) ?_
        simp
        refine callM (ts' := [.agg [.mem .own (some 1) (rows (upT (1 : Int) F0)), .mem .own (some 1) (rows (upT (kAt (1 : Int) F0 F0.length) S0))], I (1 : Int)]) (r := I (kAt (kAt (1 : Int) F0 F0.length) S0 S0.length)) ?_ ?_ ?_ ?_
        · simp
        · simpa using h22 F0 S0 (1 : Int) hfa0 hfb0 (by omega) (by omega)
        · simp
        simp [hkN]
        refine callR (h9.o none none hsm0) rfl rfl (fun _ => rfl) ?_
        simp
        refine callM (ts' := [nil, I (1 : Int)]) (r := I (1 : Int)) ?_ ?_ ?_ ?_
        · simp
        · simpa using h12.at0 (1 : Int) (by omega) (by omega)
        · simp
        simp
        refine callR (h13.o none (1 : Int) hsm0 (by omega) (by omega)) rfl rfl (fun _ => rfl) ?_
        simp [held]
        refine callR hto0 rfl rfl (fun _ => by simp) ?_
        simp
        refine callR hc2 rfl rfl (fun _ => by simp) ?_
        simp
        refine callR (h9.o none none hsm0) rfl rfl (fun _ => rfl) ?_
        simp
        refine callR (h13.o none (1 : Int) hsm0 (by omega) (by omega)) rfl rfl (fun _ => rfl) ?_
        simp [held]
end Go.Mch
/- From a statement's arguments to trees, and from a call that the machine makes good to what a statement asks. -/
namespace Go.Mch

/-- What is let of the caller's memory: all of it is the caller's. -/
abbrev okCl : K → Nat → Prop := fun k _ => k = .old

theorem repL_of {fm : Nat → Nat} {ok : K → Nat → Prop} {w : World} {g : Nat → Value} : ∀ (ts : List T) (i : Nat), (∀ j (h : j < ts.length), rep fm ok w (g (i + j)) ts[j]) → repL fm ok w g i ts
  | [], _, _ => trivial
  | t :: ts, i, h => ⟨h 0 (by simp), repL_of ts (i + 1) fun j hj => by
      have := h (j + 1) (by simpa using hj)
      simpa [show i + 1 + j = i + (j + 1) from by omega] using this⟩

/-- A call with the caller's arguments. -/
theorem run_true {P : Program} {fm : Nat → Nat} {f : Nat} {args args' : List T} (h : Pact P fm f args args' (B true)) (hno : T.noOwnL args = true) {w : World} {vs : Array Value} (hs : vs.size = args.length)
    (hrep : ∀ s t, args[s]? = some t → rep fm okCl w (vs.getD s undef) t) :
    Calls P (fm f) vs w fun e w' => e = .returned (.bool true) ∧ Keeps (fun _ => False) w w' := by
  have hA : ∀ b, (fun _ => False : Nat → Prop) b → b < w.heap.size := fun _ h => h.elim
  have hc : ∀ s t, init args s = some (.val t) → ∀ b, cnt w (vs.getD s undef) b t = 0 := by
    intro s t ht b
    obtain ⟨u, h1, h2⟩ := init_some ht
    cases h2
    exact cnt_noOwn _ _ _ _ (noOwnL_get hno h1)
  have hR : R (cx0 fm w (fun _ => False) (fun _ => False) hA) (init args) (fun s => vs.getD s undef) w := by
    refine ⟨Keeps.refl _ _, ⟨fun _ => 0, fun s t ht b => ?_⟩, fun s x hx => ?_⟩
    · rw [hc s t ht b]; simp
    · obtain ⟨t, h1, rfl⟩ := init_some hx
      refine .inl ⟨t, rfl, rep_ok (fun k b _ _ hk => ?_) t _ (fun b hb _ _ => ?_) (hrep s t h1)⟩
      · cases hk
        refine ⟨id, by simp, by simp, fun _ => ⟨?_, id⟩⟩
        rintro ⟨s', t', h3, h4⟩
        rw [hc s' t' h3 b] at h4
        omega
      · have h5 := hc s t hx b
        omega
  refine (h.2 w vs _ _ hA hs (fun _ _ hm => hm) hR).mono fun e w' hb => ?_
  cases e with
  | returned v =>
    obtain ⟨q, e', vl', _, h2, _, h4, _⟩ := hb
    refine ⟨?_, h2.keeps⟩
    have h5 := h2.rep q (.val (B true)) (by simp [Env.add])
    rcases h5 with ⟨t, h6, h7⟩ | h7
    · cases h6
      simp only [rep] at h7
      rw [← h4, h7.1]
    · simp only [arep, rep] at h7
      rw [← h4, h7.2.1]
  | _ => exact hb.elim

theorem Keeps.but {w w' : World} (h : Keeps (fun _ => False) w w') (may : MemPlace → Prop) : w.keptBut w' may := by
  refine ⟨h.os, h.output, fun i hi => ?_⟩
  rw [h.block i hi id]
  exact (World.keptBut_refl w may).2.2 i hi

theorem Keeps.at {w w' : World} (h : Keeps (fun _ => False) w w') {p : MemPlace} (hp : p.block < w.heap.size) : w.sameAt w' p := by
  cases p with
  | cell b off => exact World.cell?_of_block (a := ⟨b, off, none⟩) (h.block b hp id)
  | map b => exact h.block b hp id

/-! ### What is read is a tree -/

section
variable {H : Type} {enc : TypeId × Value → H} {P : Program} {w : World} {base : Nat} {sp : Nat → Bool} {held : Bool} {fm : Nat → Nat}

theorem each {α : Type} {Q : Nat → α → Prop} : ∀ (n : Nat), (∀ i, i < n → ∃ z, Q i z) → ∃ zs : List α, zs.length = n ∧ ∀ i (h : i < zs.length), Q i zs[i]
  | 0, _ => ⟨[], rfl, fun i h => by simp at h⟩
  | n + 1, h => by
    obtain ⟨zs, h1, h2⟩ := each n fun i hi => h i (by omega)
    obtain ⟨z, hz⟩ := h n (by omega)
    refine ⟨zs ++ [z], by simp [h1], fun i hi => ?_⟩
    rcases Nat.lt_or_ge i zs.length with hl | hl
    · rw [List.getElem_append_left hl]; exact h2 i hl
    · have : i = n := by simp at hi; omega
      subst this
      rw [List.getElem_append_right hl]
      simp [h1, hz]

/-- A slice, as it is read. -/
theorem open_raw {t e : TypeId} {fuel : Nat} {cs : List Value} {x : DataW H × List MemPlace} (ht : P.underlying t = some (.slice e)) (hc : P.cellsOf e = 1)
    (h : DataW.trod enc P w base (fun _ => true) held fuel t cs = some x) :
    (cs = [.slice none 0 0] ∧ x.1 = .nil) ∨ (∃ a, cs = [.slice (some a) 0 0] ∧ x.1 = .slice [] []) ∨
    ∃ b off len cap ds rest n, cs = [.slice (some ⟨b, off, none⟩) len cap] ∧ len ≤ cap ∧ x.1 = .slice ds rest ∧ ds.length = len ∧
      ∀ i, i < len → ∃ c y, w.cell? ⟨b, off + i, none⟩ = some c ∧ DataW.trod enc P w base (fun _ => true) held n e [c] = some y ∧ ds[i]? = some y.1 := by
  rcases DataW.trod_slice ht h with ⟨h1, rfl⟩ | ⟨a, len, cap, elems, rest, n, _, rfl, rfl, hb, hl, _, hlen, hel, hsp, _⟩
  · exact .inl ⟨h1, rfl⟩
  right
  obtain ⟨hr1, hr2⟩ := hsp rfl
  have cell : ∀ a' y, (w.cells? base a' (P.cellsOf e)).bind (DataW.trod enc P w base (fun _ => true) held n e) = some y → ∃ c, w.cell? a' = some c ∧ DataW.trod enc P w base (fun _ => true) held n e [c] = some y := by
    intro a' y hy
    rw [hc, Option.bind_eq_some_iff] at hy
    obtain ⟨c1, h1, h2⟩ := hy
    have h3 := (World.cells?_some h1).2.1
    match c1, h3 with
    | [c], _ => exact ⟨c, Go.ChangeShapes.cell_of_cells?_one h1, h2⟩
  by_cases hz : cap = 0
  · subst hz
    have h0 : len = 0 := by omega
    subst h0
    have h1 : elems = [] := List.eq_nil_of_length_eq_zero hlen
    have h2 : rest = [] := List.eq_nil_of_length_eq_zero (by simpa using hr1)
    subst h1 h2
    exact .inl ⟨a, rfl, rfl⟩
  right
  have hspot : a.spot = none := by
    by_cases h0 : 0 < len
    · have h1 : 0 < elems.length := by omega
      have := hel 0 h0
      rw [List.getElem?_eq_getElem h1] at this
      obtain ⟨c, hc1, _⟩ := cell _ _ this
      simp only [Nat.zero_mul] at hc1
      have := World.cell?_spot hc1
      simpa [Addr.add] using this
    · have h1 : 0 < rest.length := by omega
      have := hr2 0 (by omega)
      rw [List.getElem?_eq_getElem h1] at this
      obtain ⟨c, hc1, _⟩ := cell _ _ this
      have h2 := World.cell?_spot hc1
      simpa [Addr.add, show len = 0 from by omega] using h2
  obtain ⟨b, off, spot⟩ := a
  simp only at hspot
  subst hspot
  refine ⟨b, off, len, cap, elems.map (·.1), rest.map (·.1), n, rfl, hl, rfl, by simpa using hlen, fun i hi => ?_⟩
  have h1 : i < elems.length := by omega
  have h2 := hel i hi
  rw [List.getElem?_eq_getElem h1] at h2
  obtain ⟨c, h3, h4⟩ := cell _ _ h2
  refine ⟨c, elems[i], ?_, h4, by simp [h1]⟩
  rw [hc, Nat.mul_one] at h3
  rw [← Go.WideShapes.add_plain]; exact h3

theorem rep_slice {b off len cap : Nat} {us : List T} (hlen : us.length = len) (hl : len ≤ cap) (hno : T.noOwnL us = true) (h : ∀ i (hi : i < us.length), ∃ c, w.cell? ⟨b, off + i, none⟩ = some c ∧ rep fm okCl w c us[i]) :
    rep fm okCl w (.slice (some ⟨b, off, none⟩) len cap) (.mem .old (some 1) us) := by
  rw [rep_mem]
  refine ⟨⟨⟨len, rfl, by simp [hlen], by simp, hl⟩, fun i hi => ?_⟩, fun _ => rfl, by simp, fun _ => hno, ?_⟩
  · obtain ⟨c, hc, _⟩ := h i hi
    simp only [blk, ofs]
    rw [hc]; rfl
  · refine repL_of us 0 fun j hj => ?_
    obtain ⟨c, hc, hr⟩ := h j hj
    simp only [kid, Nat.zero_add]
    rw [hc]
    exact hr

/-- How much a datum holds. -/
structure Bulk (m : DataW H → Nat) : Prop where
  slice : ∀ es rest, es.length ≤ m (.slice es rest)
  elem : ∀ es rest d, d ∈ es → m d ≤ m (.slice es rest)
  part : ∀ ps d, d ∈ ps → m d ≤ m (.agg ps)

theorem open_rawI {m : DataW H → Nat} (hm : Bulk m) {t e : TypeId} {fuel : Nat} {cs : List Value} {x : DataW H × List MemPlace} (ht : P.underlying t = some (.slice e)) (he : P.underlying e = some (.int .i64)) (hc : P.cellsOf e = 1)
    (h : DataW.trod enc P w base (fun _ => true) held fuel t cs = some x) : ∃ v o, cs = [v] ∧ rep fm okCl w v (rawI o) ∧ (lst o).length ≤ m x.1 ∧ ∀ n ∈ lst o, (Lit.int .i64 n).wf = true := by
  rcases open_raw ht hc h with ⟨rfl, hx⟩ | ⟨a, rfl, hx⟩ | ⟨b, off, len, cap, ds, rest, n, rfl, hl, hx, hlen, hel⟩
  · exact ⟨_, .no, rfl, ⟨rfl, rfl⟩, by simp, by simp⟩
  · exact ⟨_, .odd a, rfl, ⟨rfl, rfl⟩, by simp, by simp⟩
  · obtain ⟨zs, h1, h2⟩ := each (Q := fun i (z : Int) => w.cell? ⟨b, off + i, none⟩ = some (.int .i64 z) ∧ (Lit.int .i64 z).wf = true) len (fun i hi => by
      obtain ⟨c, y, h3, h4, _⟩ := hel i hi
      obtain ⟨z, h5, _, h6⟩ := DataW.trod_int he h4
      simp only [List.cons.injEq, and_true] at h5
      exact ⟨z, by rw [h3, h5], h6⟩)
    refine ⟨_, .of zs, rfl, rep_slice (by simp [h1]) hl (by simp) (fun i hi => ?_), ?_, fun n hn => ?_⟩
    · have hi' : i < zs.length := by simpa using hi
      exact ⟨_, (h2 i hi').1, by simp [rep, scal]⟩
    · rw [hx]
      exact Nat.le_trans (by simp [h1, hlen]) (hm.slice ds rest)
    · obtain ⟨i, hi, rfl⟩ := List.getElem_of_mem hn
      exact (h2 i hi).2

theorem open_rawT {m : DataW H → Nat} (hm : Bulk m) {t r e : TypeId} {fuel : Nat} {cs : List Value} {x : DataW H × List MemPlace} (ht : P.underlying t = some (.slice r)) (hr : P.underlying r = some (.slice e)) (he : P.underlying e = some (.int .i64)) (hcr : P.cellsOf r = 1) (hc : P.cellsOf e = 1)
    (h : DataW.trod enc P w base (fun _ => true) held fuel t cs = some x) : ∃ v o, cs = [v] ∧ rep fm okCl w v (rawT o) ∧ (lst o).length ≤ m x.1 ∧ ∀ q ∈ lst o, (lst q).length ≤ m x.1 ∧ ∀ n ∈ lst q, (Lit.int .i64 n).wf = true := by
  rcases open_raw ht hcr h with ⟨rfl, hx⟩ | ⟨a, rfl, hx⟩ | ⟨b, off, len, cap, ds, rest, n, rfl, hl, hx, hlen, hel⟩
  · exact ⟨_, .no, rfl, ⟨rfl, rfl⟩, by simp, by simp⟩
  · exact ⟨_, .odd a, rfl, ⟨rfl, rfl⟩, by simp, by simp⟩
  · obtain ⟨zs, h1, h2⟩ := each (Q := fun i (z : Rw Int) => ∃ c, w.cell? ⟨b, off + i, none⟩ = some c ∧ rep fm okCl w c (rawI z) ∧ (lst z).length ≤ m x.1 ∧ ∀ n ∈ lst z, (Lit.int .i64 n).wf = true) len (fun i hi => by
      obtain ⟨c, y, h3, h4, h5⟩ := hel i hi
      obtain ⟨v, o, h6, h7, h8, h9⟩ := open_rawI (fm := fm) hm hr he hc h4
      simp only [List.cons.injEq, and_true] at h6
      refine ⟨o, c, h3, h6 ▸ h7, Nat.le_trans h8 ?_, h9⟩
      rw [hx]
      exact hm.elem ds rest _ (List.mem_of_getElem? h5))
    refine ⟨_, .of zs, rfl, rep_slice (by simp [h1]) hl (by simp) (fun i hi => ?_), ?_, fun n hn => ?_⟩
    · have hi' : i < zs.length := by simpa using hi
      obtain ⟨c, h3, h4, _⟩ := h2 i hi'
      exact ⟨c, h3, by simpa using h4⟩
    · rw [hx]
      exact Nat.le_trans (by simp [h1, hlen]) (hm.slice ds rest)
    · obtain ⟨i, hi, rfl⟩ := List.getElem_of_mem hn
      obtain ⟨c, _, _, h3⟩ := h2 i hi
      exact h3

/-- An argument that is a number. -/
theorem open_argN {rc : Reach} {b0 : Nat} {t : TypeId} {v : Value} {d : DataW H} {ps : List MemPlace} (ht : P.underlying t = some (.int .i64)) (hval : Value.okWide P w rc b0 t v)
    (h : DataW.Trod enc P w base (fun _ => true) held t v d ps) : ∃ n, rep fm okCl w v (I n) ∧ (Lit.int .i64 n).wf = true := by
  obtain ⟨n, rfl, _, _, hw⟩ := Go.ChangeShapes.open_int ht hval h
  exact ⟨n, ⟨rfl, rfl⟩, hw⟩

/-- A structure of two tables. -/
theorem open_sol {m : DataW H → Nat} (hm : Bulk m) {rc : Reach} {b0 : Nat} {t r e : TypeId} {f0 f1 : Field} {v : Value} {d : DataW H} {ps : List MemPlace} (ht : P.underlying t = some (.struct #[f0, f1])) (h0 : P.underlying f0.type = some (.slice r)) (h1 : P.underlying f1.type = some (.slice r)) (hr : P.underlying r = some (.slice e)) (he : P.underlying e = some (.int .i64))
    (hn : P.cellsOf t = 2) (hn0 : P.cellsOf f0.type = 1) (hn1 : P.cellsOf f1.type = 1) (hcr : P.cellsOf r = 1) (hc : P.cellsOf e = 1) (hof : f0.offset = 0) (hof1 : f1.offset = 1)
    (hval : Value.okWide P w rc b0 t v) (h : DataW.Trod enc P w base (fun _ => true) held t v d ps) :
    ∃ a b, rep fm okCl w v (.agg [rawT a, rawT b]) ∧ ((lst a).length ≤ m d ∧ ∀ q ∈ lst a, (lst q).length ≤ m d ∧ ∀ n ∈ lst q, (Lit.int .i64 n).wf = true) ∧ ((lst b).length ≤ m d ∧ ∀ q ∈ lst b, (lst q).length ≤ m d ∧ ∀ n ∈ lst q, (Lit.int .i64 n).wf = true) := by
  obtain ⟨cs, rfl, hs⟩ := Go.WideShapes.okWide_struct ht hval
  obtain ⟨fuel, h⟩ := h
  obtain ⟨y0, y1, n, hx, hl, g0, g1⟩ := Go.ChangeShapes.trod_struct2 ht h
  simp only [Prod.mk.injEq] at hx
  obtain ⟨rfl, rfl⟩ := hx
  rw [hn] at hs
  obtain ⟨c0, c1, rfl⟩ : ∃ c0 c1, cs = #[c0, c1] := by
    match cs, hs with
    | ⟨[c0, c1]⟩, _ => exact ⟨c0, c1, rfl⟩
  simp only [Value.cells, hof, hn0, List.drop_zero, List.take_succ_cons, List.take_zero] at g0
  simp only [Value.cells, hof1, hn1, List.drop_succ_cons, List.drop_zero, List.take_succ_cons, List.take_zero] at g1
  obtain ⟨v0, a, e1, e2, e3, e4⟩ := open_rawT (fm := fm) hm h0 hr he hcr hc g0
  obtain ⟨v1, b, i1, i2, i3, i4⟩ := open_rawT (fm := fm) hm h1 hr he hcr hc g1
  simp only [List.cons.injEq, and_true] at e1 i1
  subst e1 i1
  have hp : m y0.1 ≤ m (.agg [y0.1, y1.1]) := hm.part _ _ (by simp)
  have hp1 : m y1.1 ≤ m (.agg [y0.1, y1.1]) := hm.part _ _ (by simp)
  exact ⟨a, b, ⟨⟨_, rfl, rfl⟩, by simpa [kid] using e2, by simpa [kid] using i2, trivial⟩, ⟨by omega, fun q hq => ⟨Nat.le_trans (e4 q hq).1 hp, (e4 q hq).2⟩⟩, ⟨by omega, fun q hq => ⟨Nat.le_trans (i4 q hq).1 hp1, (i4 q hq).2⟩⟩⟩

/-! ### What a statement asks -/

theorem all_stays {W W' : World} {sp' : Nat → Bool} (hl : laidOutB P = true) : ∀ {ts : List TypeId} {vs : List Value} {ds : List (DataW H)} {ps : List MemPlace}, (∀ t ∈ ts, P.readableRec t = true ∧ t < P.types.size) →
    DataW.TrodAll enc P W 0 (fun _ => true) true ts vs ds ps → (∀ p ∈ ps, W.sameAt W' p) → (∀ p ∈ ps, sp' p.block = true) → DataW.TrodAll enc P W' 0 sp' true ts vs ds ps
  | [], vs, ds, ps, _, h, _, _ => by
    obtain ⟨rfl, rfl, rfl⟩ := Go.ChangeShapes.trodAll_nil h
    rfl
  | t :: ts, vs, ds, ps, ht, h, h1, h2 => by
    obtain ⟨v, vs', d, ds', p, q, rfl, rfl, rfl, h3, h4⟩ := Go.ChangeShapes.trodAll_cons h
    exact ⟨p, q, Go.WideElems.Trod_stays hl (ht t (by simp)).1 (ht t (by simp)).2 h3 (fun x hx => h1 x (by simp [hx])) (fun x hx => h2 x (by simp [hx])),
      all_stays hl (fun t' h' => ht t' (by simp [h'])) h4 (fun x hx => h1 x (by simp [hx])) (fun x hx => h2 x (by simp [hx])), rfl⟩

/-- The call returned true, and what was there is as it was. -/
theorem post_true {f : Func} {s : ChangeSpec} {W W' : World} {args : Array Value} {ds gs : List (DataW H)} {before : List MemPlace} {rt : TypeId} (hW : DataW.Whole enc P f.params.toList s.vars false W args.toList ds gs before) (hK : Keeps (fun _ => False) W W')
    (hv : s.vars = []) (hres : f.resultTypes = #[rt]) (hrt : P.underlying rt = some .bool) (hl : laidOutB P = true) (hr : ∀ t ∈ f.params.toList, P.readableRec t = true ∧ t < P.types.size)
    (hfn : s.fn H ds = { results := [.lit (.bool true)], args := ds }) : s.post enc P f false true false false W args (.bool true) W' := by
  have hlt := hW.lt
  have hW' := hW
  obtain ⟨p, q, hA, hV, rfl, _, _⟩ := hW
  rw [hv] at hV
  have hg : gs = [] ∧ q = [] := by
    cases gs with
    | nil => exact ⟨rfl, by simpa [DataW.TrodVars] using hV⟩
    | cons d ds => simp [DataW.TrodVars] at hV
  obtain ⟨rfl, rfl⟩ := hg
  simp only [List.append_nil] at hlt
  refine ⟨ds, [], p ++ [], [], p, [], hW', ?_, ?_, ?_, hK.but _, by simp⟩
  · rw [List.append_nil, hfn, hres]
    refine ⟨[], [], ⟨1, ?_⟩, rfl, rfl⟩
    simp [DataW.trod, hrt, Value.cells]
  · rw [List.append_nil, hfn]
    exact all_stays hl hr hA (fun x hx => hK.at (hlt x hx)) (fun x hx => by simpa using hlt x hx)
  · rw [List.append_nil, hfn, hv]
    rfl
end
end Go.Mch
/- What maps reach; the numbers of orbits. In plain Lean. -/
namespace Go.Mch

def act (p : List Int) (x : Int) : Int := p.getD x.toNat 0
/-- Closed under the maps. -/
def Cl (ms : List (List Int)) (S : Int → Prop) : Prop := ∀ x, S x → ∀ p ∈ ms, S (act p x)
/-- What the maps reach from i. -/
def Rch (ms : List (List Int)) (i x : Int) : Prop := ∀ S : Int → Prop, S i → Cl ms S → S x
theorem rch_refl (ms : List (List Int)) (i : Int) : Rch ms i i := fun _ h _ => h
theorem rch_step {ms : List (List Int)} {i x : Int} (h : Rch ms i x) {p : List Int} (hp : p ∈ ms) : Rch ms i (act p x) := fun S h1 h2 => h2 x (h S h1 h2) p hp
theorem rch_list {ms : List (List Int)} {i : Int} {l : List Int} (hi : i ∈ l) (hr : ∀ x ∈ l, Rch ms i x) (hc : ∀ x ∈ l, ∀ p ∈ ms, act p x ∈ l) (x : Int) : x ∈ l ↔ Rch ms i x :=
  ⟨hr x, fun h => h (· ∈ l) hi hc⟩

/-- Permutations of n numbers. -/
def Prms (n : Nat) (ms : List (List Int)) : Prop := ∀ p ∈ ms, p.length = n ∧ isPermuted p
theorem act_rng {n : Nat} {ms : List (List Int)} (h : Prms n ms) {p : List Int} (hp : p ∈ ms) {x : Int} (hx : 0 ≤ x ∧ x < n) : 0 ≤ act p x ∧ act p x < n := by
  obtain ⟨h1, h2⟩ := h p hp
  have hl : x.toNat < p.length := by omega
  have := h2.1 _ (List.getElem_mem hl)
  simp only [act, List.getD_eq_getElem?_getD, List.getElem?_eq_getElem hl, Option.getD_some]
  omega
theorem act_inj {n : Nat} {ms : List (List Int)} (h : Prms n ms) {p : List Int} (hp : p ∈ ms) {x y : Int} (hx : 0 ≤ x ∧ x < n) (hy : 0 ≤ y ∧ y < n) (he : act p x = act p y) : x = y := by
  obtain ⟨h1, h2⟩ := h p hp
  have hl : x.toNat < p.length := by omega
  have hl2 : y.toNat < p.length := by omega
  simp only [act, List.getD_eq_getElem?_getD, List.getElem?_eq_getElem hl, List.getElem?_eq_getElem hl2, Option.getD_some] at he
  have := (List.getElem_inj h2.2).1 he
  omega
theorem rch_rng {n : Nat} {ms : List (List Int)} (h : Prms n ms) {i x : Int} (hi : 0 ≤ i ∧ i < n) (hx : Rch ms i x) : 0 ≤ x ∧ x < n :=
  hx (fun x => 0 ≤ x ∧ x < n) hi fun _ hy _ hp => act_rng h hp hy
theorem mem_nums {n : Nat} {x : Int} : x ∈ nums n ↔ 0 ≤ x ∧ x < n := by
  simp only [nums, List.mem_map, List.mem_range]
  constructor
  · rintro ⟨k, hk, rfl⟩
    simp only [Int.ofNat_eq_natCast]
    omega
  · rintro ⟨h1, h2⟩
    exact ⟨x.toNat, by omega, by simp only [Int.ofNat_eq_natCast]; omega⟩
/-- What is outside a closed set stays outside. -/
theorem compl_closed {n : Nat} {ms : List (List Int)} (h : Prms n ms) {S : Int → Prop} (hS : Cl ms S) {x : Int} (hx : 0 ≤ x ∧ x < n) (hn : ¬ S x) {p : List Int} (hp : p ∈ ms) : ¬ S (act p x) := by
  intro hy
  have hL : ∀ y, y ∈ (nums n).filter (fun y => dec (S y)) ↔ (0 ≤ y ∧ y < n) ∧ S y := fun y => by
    rw [List.mem_filter, mem_nums]
    refine ⟨fun hh => ⟨hh.1, ?_⟩, fun hh => ⟨hh.1, dec_true hh.2⟩⟩
    by_cases hs : S y
    · exact hs
    · have := hh.2; rw [dec_false hs] at this; cases this
  have hdL : ((nums n).filter (fun y => dec (S y))).Nodup := (nums_nodup n).sublist List.filter_sublist
  generalize (nums n).filter (fun y => dec (S y)) = L at hL hdL
  have hM : (L.map (act p)).Nodup := by
    rw [List.Nodup, List.pairwise_map]
    refine hdL.imp_of_mem ?_
    intro a b ha hb hab he
    exact hab (act_inj h hp ((hL a).1 ha).1 ((hL b).1 hb).1 he)
  have hyM : act p x ∉ L.map (act p) := by
    intro hm
    obtain ⟨z, hz, he⟩ := List.mem_map.1 hm
    have := act_inj h hp ((hL z).1 hz).1 hx he
    subst this
    exact hn ((hL z).1 hz).2
  have := len_le_of_sub (act p x :: L.map (act p)) L (List.nodup_cons.2 ⟨hyM, hM⟩) fun y hm => by
    rcases List.mem_cons.1 hm with rfl | hm
    · exact (hL _).2 ⟨act_rng h hp hx, hy⟩
    · obtain ⟨z, hz, rfl⟩ := List.mem_map.1 hm
      exact (hL _).2 ⟨act_rng h hp ((hL z).1 hz).1, hS z ((hL z).1 hz).2 p hp⟩
  simp at this
  omega
theorem nodup_rng_len {n : Nat} {l : List Int} (h : l.Nodup) (hr : ∀ x ∈ l, 0 ≤ x ∧ x < n) : l.length ≤ n := by
  have := len_le_of_sub l (nums n) h fun x hx => mem_nums.2 (hr x hx)
  simpa [nums] using this

/-! ### The numbers of the orbits -/

/-- Numbers, k given to what i reaches. -/
noncomputable def markO (ms : List (List Int)) (i : Int) (lab : List Int) (c : Int) : List Int := (List.range lab.length).map fun x : Nat => if dec (Rch ms i x) then c else lab.getD x 0
@[simp] theorem markO_length (ms : List (List Int)) (i : Int) (lab : List Int) (c : Int) : (markO ms i lab c).length = lab.length := by simp [markO]
theorem markO_get {ms : List (List Int)} {i : Int} {lab : List Int} {c : Int} {x : Nat} (hx : x < lab.length) : (markO ms i lab c).getD x 0 = if dec (Rch ms i x) then c else lab.getD x 0 := by
  simp [markO, hx]
/-- The numbers and how many orbits there are, when k elements are done. -/
noncomputable def orbS (ms : List (List Int)) (n : Nat) : Nat → List Int × Int
  | 0 => (List.replicate n (-1), 0)
  | k + 1 => if 0 ≤ (orbS ms n k).1.getD k 0 then orbS ms n k else (markO ms k (orbS ms n k).1 (orbS ms n k).2, (orbS ms n k).2 + 1)
noncomputable def orbL (ms : List (List Int)) (n : Nat) : List Int := (orbS ms n n).1
@[simp] theorem orbS_length (ms : List (List Int)) (n k : Nat) : (orbS ms n k).1.length = n := by
  induction k with
  | zero => simp [orbS]
  | succ k ih => unfold orbS; split <;> simp [ih]
@[simp] theorem orbL_length (ms : List (List Int)) (n : Nat) : (orbL ms n).length = n := by simp [orbL]

theorem orbS_cnt (ms : List (List Int)) (n k : Nat) : 0 ≤ (orbS ms n k).2 ∧ (orbS ms n k).2 ≤ k := by
  induction k with
  | zero => simp [orbS]
  | succ k ih => unfold orbS; split <;> simp <;> omega
theorem orbS_rng (ms : List (List Int)) (n k : Nat) : ∀ x, x < n → -1 ≤ (orbS ms n k).1.getD x 0 ∧ (orbS ms n k).1.getD x 0 < (orbS ms n k).2 := by
  induction k with
  | zero => intro x hx; simp [orbS, hx]
  | succ k ih =>
    intro x hx
    have h1 := ih x hx
    have h2 := orbS_cnt ms n k
    unfold orbS
    split
    · exact h1
    · rw [markO_get (by simpa using hx)]
      simp only
      split <;> omega
theorem orbS_done (ms : List (List Int)) (n k : Nat) (hk : k ≤ n) : ∀ x, x < k → 0 ≤ (orbS ms n k).1.getD x 0 := by
  induction k with
  | zero => intro x hx; omega
  | succ k ih =>
    intro x hx
    have ih := ih (by omega)
    have h2 := orbS_cnt ms n k
    unfold orbS
    split
    · rename_i h3
      rcases Nat.lt_or_ge x k with h | h
      · exact ih x h
      · have : x = k := by omega
        subst this; exact h3
    · rw [markO_get (by simp; omega)]
      split
      · exact h2.1
      · rename_i hr
        rcases Nat.lt_or_ge x k with h | h
        · exact ih x h
        · have : x = k := by omega
          subst this
          rw [dec_true (rch_refl ms _)] at hr
          simp at hr
/-- What has a number is closed. -/
theorem orbS_closed {ms : List (List Int)} {n : Nat} (h : Prms n ms) (k : Nat) (hk : k ≤ n) : Cl ms (fun x => (0 ≤ x ∧ x < n) ∧ 0 ≤ (orbS ms n k).1.getD x.toNat 0) := by
  induction k with
  | zero =>
    rintro x ⟨hx, h0⟩ p hp
    have : x.toNat < n := by omega
    simp [orbS, this] at h0
  | succ k ih =>
    have ih := ih (by omega)
    have h2 := orbS_cnt ms n k
    rintro x ⟨hx, h0⟩ p hp
    have hr := act_rng h hp hx
    refine ⟨hr, ?_⟩
    unfold orbS at h0 ⊢
    split at h0
    · rename_i h3
      rw [if_pos h3]
      exact (ih x ⟨hx, h0⟩ p hp).2
    · rename_i h3
      rw [if_neg h3]
      have e1 : ((x.toNat : Nat) : Int) = x := by omega
      have e2 : (((act p x).toNat : Nat) : Int) = act p x := by omega
      simp only at h0 ⊢
      rw [markO_get (by simp; omega), e1] at h0
      rw [markO_get (by simp; omega), e2]
      by_cases hR : Rch ms k x
      · rw [dec_true (rch_step hR hp)]
        simp only [if_true]; exact h2.1
      · rw [dec_false hR] at h0
        simp only [Bool.false_eq_true, if_false] at h0
        split
        · exact h2.1
        · exact (ih x ⟨hx, h0⟩ p hp).2
end Go.Mch
/- What a code leads to with something that is only known at its end, it leads to with that known before. -/
namespace Go.Mch

theorem bx {α β : Type} {o : Option α} {f : α → Prop} {g : β → α → Prop} (hf : ∀ a, f a → ∃ r, g r a) (h : bindP o f) : ∃ r, bindP o (g r) := by
  obtain ⟨a, h1, h2⟩ := h
  obtain ⟨r, h3⟩ := hf a h2
  exact ⟨r, a, h1, h3⟩
theorem ax {β : Type} {p : Prop} {K : β → Prop} (h : p ∧ ∃ r, K r) : ∃ r, p ∧ K r := by
  obtain ⟨h1, r, h2⟩ := h
  exact ⟨r, h1, h2⟩

theorem stepQ_ex {β : Type} {G : Rl} {m : K} {d : Option Nat} {q : Q} {k : β → Env → Prop} {e : Env} (h : stepQ G m d q (fun e => ∃ r, k r e) e) : ∃ r, stepQ G m d q (k r) e := by
  cases q <;> simp only [stepQ] at h ⊢
  case mv => exact bx (fun _ h => h) h
  case mvw => exact bx (fun _ h => ax h) h
  case stsw => exact bx (fun _ h => bx (fun _ h => bx (fun _ h => ax ⟨h.1, bx (fun _ h => h) h.2⟩) h) h) h
  case sts x y =>
    refine bx (fun a ha => bx (fun v hv => ?_) ha) h
    split at hv
    · split at hv
      · exact ax hv
      · exact hv.elim
    · exact hv.elim
  case asg x =>
    refine bx (fun v hv => ?_) h
    cases v
    case val t => exact hv
    all_goals exact bx (fun _ h => h) hv
  case pick => exact bx (fun _ h => bx (fun _ h => h) h) h
  case bin => exact bx (fun _ h => bx (fun _ h => bx (fun _ h => h) h) h) h
  case beq => exact bx (fun _ h => bx (fun _ h => h) h) h
  case isnil => exact bx (fun _ h => h) h
  case slen => exact bx (fun _ h => h) h
  case un => exact bx (fun _ h => bx (fun _ h => h) h) h
  case conv => exact bx (fun _ h => h) h
  case len => exact bx (fun _ h => h) h
  case idx => exact bx (fun _ h => bx (fun _ h => bx (fun _ h => h) h) h) h
  case fld => exact bx (fun _ h => bx (fun _ h => h) h) h
  case fldv => exact bx (fun _ h => bx (fun _ h => h) h) h
  case ld => exact bx (fun _ h => bx (fun _ h => h) h) h
  case st =>
    refine bx (fun a ha => bx (fun v hv => bx (fun y hy => ?_) hv) ha) h
    split at hy
    · split at hy
      · exact ax hy
      · exact hy.elim
    · exact hy.elim
  case nilck =>
    refine bx (fun a ha => ?_) h
    split at ha
    · exact ha
    · exact ha
    · exact ha.elim
  case alloc => exact h
  case box => exact bx (fun _ h => bx (fun _ h => ax h) h) h
  case build => exact bx (fun _ h => bx (fun _ h => h) h) h
  case mks => exact bx (fun _ h => ax h) h
  case bsl => exact bx (fun _ h => bx (fun _ h => ax h) h) h
  case app =>
    refine bx (fun a ha => bx (fun b hb => bx (fun z hz => bx (fun u hu => ?_) hz) hb) ha) h
    have h2 := hu.2
    split at h2
    · by_cases h0 : u.1 = []
      · obtain ⟨r, h3⟩ := h2.1 h0
        exact ⟨r, hu.1, fun _ => h3, fun h4 => (h4 h0).elim⟩
      · obtain ⟨r, h3⟩ := h2.2 h0
        exact ⟨r, hu.1, fun h4 => (h0 h4).elim, fun _ => h3⟩
    · obtain ⟨r, h3⟩ := h2
      exact ⟨r, hu.1, h3⟩
  case sl => exact bx (fun _ h => bx (fun _ h => bx (fun _ h => bx (fun _ h => h) h) h) h) h
  case ext => exact bx (fun _ h => bx (fun _ h => h) h) h
  case fnc => exact bx (fun _ h => h) h
  case call f args =>
    refine bx (fun fv hv => ?_) h
    split at hv
    · refine bx (fun ts ht => ?_) hv
      obtain ⟨ts', r, h1, h2, h3, h4⟩ := ht
      obtain ⟨y, h5⟩ := bx (fun _ h => h) h4
      exact ⟨y, ts', r, h1, h2, h3, h5⟩
    · exact hv.elim
  case freeze => exact bx (fun _ h => h) h
  case settle => exact bx (fun _ h => h) h
  case mm => exact bx (fun _ h => bx (fun _ h => bx (fun _ h => h) h) h) h
  case cap0 => exact bx (fun _ h => bx (fun _ h => h) h) h
  case bstr => exact bx (fun _ h => bx (fun _ h => h) h) h
  case bsls => exact bx (fun _ h => bx (fun _ h => ax h) h) h
  case bslv => exact bx (fun _ h => bx (fun _ h => h) h) h
  case bsl1 n =>
    refine bx (fun v hv => ?_) h
    split at hv
    · exact ax hv
    · exact hv.elim
  case apz =>
    refine bx (fun v hv => bx (fun _ hv => ?_) hv) h
    split at hv
    · exact ax hv
    · exact hv.elim
  case arr => exact bx (fun _ h => bx (fun _ h => bx (fun _ h => h) h) h) h
  case mkset => exact h
  case look => exact bx (fun _ h => bx (fun _ h => bx (fun _ h => h) h) h) h
  case upd => exact bx (fun _ h => bx (fun _ h => bx (fun _ h => h) h) h) h
  case boxk s =>
    refine bx (fun v hv => ?_) h
    split at hv
    · exact ax hv
    · exact hv.elim
  case callm f args ks =>
    refine bx (fun fv hv => ?_) h
    cases fv <;> try exact hv.elim
    rename_i t
    cases t <;> try exact hv.elim
    refine bx (fun vs hv => ax ⟨hv.1, bx (fun y hy => ?_) hv.2⟩) hv
    obtain ⟨h0, ts', r, h1, h2, h3⟩ := hy
    obtain ⟨z, h4⟩ := bx (fun _ h => bx (fun _ h => h) h) h3
    exact ⟨z, h0, ts', r, h1, h2, h4⟩
  refine bx (fun a ha => bx (fun n hn => ?_) ha) h
  split at hn
  · exact bx (fun _ h => h) hn
  · exact hn.elim

theorem stepO_ex {β : Type} {G : Rl} {m : K} {o : O} {k : β → Env → Prop} {e : Env} (h : stepO G m o (fun e => ∃ r, k r e) e) : ∃ r, stepO G m o (k r) e := by
  unfold stepO at *
  split
  · rename_i hg; simp only [hg] at h; exact stepQ_ex h
  · rename_i s b hg
    simp only [hg] at h
    split at h
    · split at h
      · rename_i h1; simp only [if_pos h1]; exact stepQ_ex h
      · rename_i h1; simp only [if_neg h1]; exact h
    · exact h
    · exact h.elim

theorem wpL_ex {β : Type} {G : Rl} {m : K} : ∀ (l : List O) {k : β → Env → Prop} {e : Env}, wpL G m l (fun e => ∃ r, k r e) e → ∃ r, wpL G m l (k r) e
  | [], _, _, h => h
  | _ :: l, k, _, h => stepO_ex (k := fun r => wpL G m l (k r)) (stepO_mono (fun _ _ _ _ h => h) (fun _ h => wpL_ex l h) h)

theorem after_ex {β : Type} {n : β → Env → Prop} {R : β → X → Env → Prop} : ∀ x e, X.after (fun e => ∃ r, n r e) (fun x e => ∃ r, R r x e) x e → ∃ r, X.after (n r) (R r) x e
  | .nrm, _, h => h
  | .ext _, _, h => h
  | .ret, _, h => h

theorem wp_ex {β : Type} {G : Rl} {m : K} (c : C) : ∀ {R : β → X → Env → Prop} {e : Env}, wp G m c (fun x e => ∃ r, R r x e) e → ∃ r, wp G m c (R r) e := by
  induction c with
  | skip => exact fun h => h
  | region dr ops ks => exact fun h => wpL_ex ops h
  | seq a b iha ihb =>
    intro R e h
    exact iha (wp_mono (fun _ _ _ _ h => h) a (fun x e hx => after_ex x e (after_mono (fun _ h => ihb h) (fun _ _ h => h) x e hx)) h)
  | cond c a b iha ihb =>
    intro R e h
    refine bx (fun t ht => ?_) h
    cases t
    · exact ihb ht
    · exact iha ht
  | block id b ih =>
    intro R e h
    refine ih (wp_mono (fun _ _ _ _ h => h) b (fun x e hx => ?_) h)
    cases x
    · exact hx
    · simp only [X.out] at hx ⊢
      split at hx
      · rename_i h1; simp only [if_pos h1]; exact hx
      · rename_i h1; simp only [if_neg h1]; exact hx
    · exact hx
  | loop b ih =>
    intro R e h
    refine h (fun e => ∃ r, wp G m (.loop b) (R r) e) fun e he => ?_
    obtain ⟨r, hr⟩ := ih (R := fun r => X.after (wp G m (.loop b) (R r)) (R r)) (wp_mono (fun _ _ _ _ h => h) b (fun x e hx => after_ex x e hx) he)
    exact ⟨r, wpLoop_round hr⟩
  | exit id => exact fun h => h
  | ret => exact fun h => h
  | stuck => exact fun h => h.elim

/-- A function that reads its arguments only, and whose result is found on the way. -/
theorem Call.find {α : Type} {pg : Pg} {f : Nat} {args : List T} {fn : F} {r : α → T} {Q : α → Prop} (hf : pg.fn f = some fn) (hn : fn.np = args.length) (hl : T.noOwnL args = true)
    (h : wp (Call pg) .fresh fn.body (fun x e => ∃ l, Q l ∧ post fn.rs args args (r l) x e) (init args)) : ∃ l, Q l ∧ Call pg f args args (r l) := by
  obtain ⟨⟨l, hq⟩, hl2⟩ := wp_ex (β := { l // Q l }) (R := fun l x e => post fn.rs args args (r l.1) x e) fn.body (wp_mono (fun _ _ _ _ h => h) _ (fun _ _ ⟨l, hq, hp⟩ => ⟨⟨l, hq⟩, hp⟩) h)
  exact ⟨l, hq, Call.intro hf hn hl hl2⟩
end Go.Mch
/- Numbering anew, elements that act alike, of the reference and of the program. -/
namespace Go.Mch

/-- The different numbers of a list, each at its first place. -/
def uniqs (xs : List Int) : List Int := xs.foldl (fun s x => if x ∈ s then s else s ++ [x]) []
theorem uniqs_succ {xs : List Int} {k : Nat} (hk : k < xs.length) : uniqs (xs.take (k + 1)) = if xs[k] ∈ uniqs (xs.take k) then uniqs (xs.take k) else uniqs (xs.take k) ++ [xs[k]] := by
  rw [List.take_succ_eq_append_getElem hk]
  simp only [uniqs, List.foldl_append, List.foldl_cons, List.foldl_nil]
  rfl
theorem eryI_snoc (s : List Int) (x : Int) : T.eryL .old (s.map I ++ [I x]) = (s ++ [x]).map I := by
  rw [show s.map I ++ [I x] = (s ++ [x]).map I from by simp, eryL_mapI]
theorem uniqs_len (xs : List Int) : (uniqs xs).length ≤ xs.length := by
  have : ∀ (l s : List Int), (l.foldl (fun s x => if x ∈ s then s else s ++ [x]) s).length ≤ s.length + l.length := by
    intro l
    induction l with
    | nil => intro s; simp
    | cons x l ih =>
      intro s
      simp only [List.foldl_cons, List.length_cons]
      refine Nat.le_trans (ih _) ?_
      split <;> simp <;> omega
  simpa [uniqs] using this xs []
theorem ixOf_new {s : List Int} {x : Int} (h : x ∉ s) : ixOf (s ++ [x]) x = s.length :=
  ixOf_at (by simp) (fun i hi he => h (by rw [← he, List.getElem_append_left hi]; exact List.getElem_mem hi)) (by simp)
def renum (xs : List Int) : List Int := (List.range xs.length).map fun k => ixOf (uniqs (xs.take (k + 1))) (xs.getD k 0)
@[simp] theorem renum_length (xs : List Int) : (renum xs).length = xs.length := by simp [renum]

def S_renum (pg : Pg) (n : Nat) : Prop := ∀ xs : List Int, xs.length ≤ 1048576 → Call pg n [ix xs] [ix xs] (.mem .own (some 1) ((renum xs).map I))
theorem t_renumber {pg : Pg} (hp : pg.fn 385 = some c_spec_l07Renumber) (h62 : S_has pg) (h69 : S_index pg) : S_renum pg 385 := by
  intro xs hl
  refine Call.intro hp rfl (by simp) ?_
  show wp _ _ c_spec_l07Renumber.body (post [.t 2] _ _ _) _
  simp [c_spec_l07Renumber]
  refine wpLoop_count (fun k e => e = fr [(0, some (.val (ix xs))), (3, some (.val (.mem .own (some 1) ((uniqs (xs.take k)).map I)))), (4, some (.val (.mem .own (some 1) (((List.range k).map fun k => ixOf (uniqs (xs.take (k + 1))) (xs.getD k 0)).map I)))), (5, some (.val (I k)))]) xs.length ?_ ?_ 0 _ (by omega) ?_
  · rintro k e hk rfl
    have hu := uniqs_len (xs.take k)
    have hu2 := uniqs_len (xs.take (k + 1))
    simp only [List.length_take] at hu hu2
    simp [hk]
    refine callR (h62 _ _ (by omega)) rfl rfl (fun _ => rfl) ?_
    have hs := uniqs_succ hk
    by_cases hm : xs[k] ∈ uniqs (xs.take k)
    · rw [if_pos hm] at hs
      simp [hm, hk]
      refine callR (h69 _ _ (by omega)) rfl rfl (fun _ => rfl) ?_
      simp [map_range_succ, hs, hk, roomy]
      omega
    · rw [if_neg hm] at hs
      simp [hm, hk, roomy]
      refine ⟨by omega, ?_⟩
      have := h69 (uniqs (xs.take k) ++ [xs[k]]) xs[k] (by rw [← hs]; omega)
      rw [eryI_snoc]
      refine callR this rfl rfl (fun _ => rfl) ?_
      simp [map_range_succ, hs, hk, roomy]
      omega
  · rintro e rfl
    simp [renum]
  · simp [uniqs]

def S_index0 (pg : Pg) : Prop := ∀ v : Int, Call pg 384 [nil, I v] [nil, I v] (I (-1))
theorem t_slicesIndex0 {pg : Pg} (hp : pg.fn 384 = some c_slices_Index___int64_int64_) : S_index0 pg := by
  intro v
  refine Call.intro hp rfl (by simp) ?_
  show wp _ _ c_slices_Index___int64_int64_.body (post [.t 4] _ _ _) _
  simp [c_slices_Index___int64_int64_]
  refine wpLoop_round ?_
  simp
set_option maxRecDepth 10000 in
theorem t_numbered {pg : Pg} (hp : pg.fn 386 = some c_impl_numbered) (h384 : S_indexIn pg 384) (h0 : S_index0 pg) : S_renum pg 386 := by
  intro xs hl
  refine Call.intro hp rfl (by simp) ?_
  show wp _ _ c_impl_numbered.body (post [.t 2] _ _ _) _
  simp [c_impl_numbered]
  refine ⟨by unfold roomy; omega, ?_⟩
  refine wpLoop_count (fun k e => e = fr [(3, some (.val (if k = 0 then nil else .mem .own (some 1) ((uniqs (xs.take k)).map I)))), (4, some (.val (.mem .own (some 1) (((List.range k).map fun k => ixOf (uniqs (xs.take (k + 1))) (xs.getD k 0)).map I ++ List.replicate (xs.length - k) (I 0))))), (11, some (.val (ix xs))), (12, some (.val (I xs.length))), (13, some (.val (I k)))]) xs.length ?_ ?_ 0 _ (by omega) ?_
  · rintro k e hk rfl
    have hu := uniqs_len (xs.take k)
    simp only [List.length_take] at hu
    have hlen : (((List.range k).map fun k => ixOf (uniqs (xs.take (k + 1))) (xs.getD k 0)).map I).length = k := by simp
    rw [fill_succ (I 0) hk]
    have hs := uniqs_succ hk
    by_cases hk0 : k = 0
    · subst hk0
      have hs : uniqs (xs.take 1) = [xs[0]] := by simpa [uniqs] using hs
      have hi : ixOf [xs[0]] xs[0] = 0 := by simp [ixOf]
      simp [hk]
      refine callR (h0 _) rfl rfl (fun _ => rfl) ?_
      simp [roomy, hs, hi]
    · simp [hk, hk0]
      refine callR (h384 _ _ (by omega)) rfl rfl (fun _ => rfl) ?_
      have hm := ixOf_mem (uniqs (xs.take k)) xs[k]
      by_cases hm2 : xs[k] ∈ uniqs (xs.take k)
      · rw [if_pos hm2] at hs
        have h1 : ¬ ixOf (uniqs (xs.take k)) xs[k] < 0 := by have := hm.2 hm2; omega
        simp [h1, hk, map_range_succ, hs]
        omega
      · rw [if_neg hm2] at hs
        have h1 : ixOf (uniqs (xs.take k)) xs[k] < 0 := by
          have := mt hm.1 hm2; omega
        have h2 := ixOf_new hm2
        simp [h1, hk, map_range_succ, hs, h2, roomy]
        omega
  · rintro e rfl
    simp [renum]
  · simp
end Go.Mch
/- The maps of a solution, one row behind the other, of the reference and of the program. -/
namespace Go.Mch

def S_both (pg : Pg) : Prop := ∀ f s : List (List Int), PM f s → Call pg 273 [sol f s] [sol f s] (.mem .own (some 1) (rows (f ++ turnL s)))
theorem PM.fitsF {f s : List (List Int)} (h : PM f s) : fits f := ⟨by have := h.small; omega, fun r hr => by have := (h.tf r hr).1; have := h.small; omega⟩
theorem t_l07Both {pg : Pg} (hp : pg.fn 273 = some c_spec_l07Both) (h280 : S_copyT pg 280) (h265 : S_turn pg 265) : S_both pg := by
  intro f s h
  have h12 := h.small
  have hls := h.len
  refine Call.intro hp rfl (by simp) ?_
  show wp _ _ c_spec_l07Both.body (post [.t 2] _ _ _) _
  simp [c_spec_l07Both]
  refine callR (h280 f h.fitsF) rfl rfl (fun _ => by simp) ?_
  simp
  refine callR (h265 s h.ts (by omega)) rfl rfl (fun _ => by simp) ?_
  have e1 : ∀ x ∈ rows (turnL s), x.isCell = true := fun x hx => by
    simp only [rows, List.mem_map] at hx
    obtain ⟨_, _, rfl⟩ := hx
    rfl
  simp [rows_append, roomy]
  exact ⟨by omega, e1⟩

theorem slV_nil0 : slV 1 (.val (.sc (.slice none 0 0))) none (some 0) = some (.val (.sc (.slice none 0 0))) := by simp [slV]
theorem tbL_cell (a : List (List Int)) : ∀ x ∈ tbL a, x.isCell = true := fun x hx => by
  simp only [tbL, List.mem_map] at hx
  obtain ⟨_, _, rfl⟩ := hx
  rfl
theorem tbL_append (a b : List (List Int)) : tbL (a ++ b) = tbL a ++ tbL b := by simp [tbL]

def S_grow (pg : Pg) : Prop := ∀ n : Nat, 0 < n → n ≤ 1048576 → Call pg 429 [nil, I n] [nil, I n] (.mem .own (some 1) [])
theorem t_grow {pg : Pg} (hp : pg.fn 429 = some c_slices_Grow_____int64___int64_) : S_grow pg := by
  intro n h0 hn
  refine Call.intro hp rfl (by simp) ?_
  show wp _ _ c_slices_Grow_____int64___int64_.body (post [.t 4] _ _ _) _
  have h1 : ¬ (n : Int) < 0 := by omega
  simp [c_slices_Grow_____int64___int64_, h1, slV_nil0, h0]
  exact ⟨by omega, by unfold roomy; omega, by simp [win]⟩

def S_concat (pg : Pg) : Prop := ∀ a b : List (List Int), 0 < a.length → a.length ≤ 100 → b.length ≤ 100 → Call pg 381 [.mem .old (some 1) [tb a, tb b]] [.mem .old (some 1) [tb a, tb b]] (.mem .own (some 1) (tbL (a ++ b)))
theorem t_concat {pg : Pg} (hp : pg.fn 381 = some c_slices_Concat_____int64___int64_) (h429 : S_grow pg) : S_concat pg := by
  intro a b h0 ha hb
  refine Call.intro hp rfl (by simp) ?_
  show wp _ _ c_slices_Concat_____int64___int64_.body (post [.t 2] _ _ _) _
  simp [c_slices_Concat_____int64___int64_]
  have h1 : ¬ ((a.length : Int) < 0) := by omega
  have h2 : ¬ ((a.length : Int) + b.length < 0) := by omega
  refine wpLoop_round ?_
  simp [h1]
  refine ⟨by omega, ?_⟩
  refine wpLoop_round ?_
  simp [h2]
  refine ⟨by omega, ?_⟩
  refine wpLoop_round ?_
  simp
  refine callR (by simpa using h429 (a.length + b.length) (by omega) (by omega)) rfl rfl (fun _ => by simp) ?_
  simp
  refine wpLoop_round ?_
  simp
  refine ⟨by omega, ⟨by unfold roomy; omega, tbL_cell a⟩, ?_⟩
  refine wpLoop_round ?_
  simp
  refine ⟨by omega, ⟨by unfold roomy; omega, tbL_cell b⟩, ?_⟩
  refine wpLoop_round ?_
  simp [tbL_append]

theorem frzL_rows (k : K) (t : List (List Int)) : T.frzL k (rows t) = t.map fun xs => .mem k (some 1) (xs.map I) := by
  have hI : ∀ xs : List Int, T.frzL k (xs.map I) = xs.map I := fun xs => by
    induction xs with
    | nil => rfl
    | cons x xs ih => simp [ih]
  induction t with
  | nil => rfl
  | cons r t ih =>
    show T.frz k _ :: T.frzL k (rows t) = _
    rw [ih]
    simp [hI]
theorem frz_rows_old (t : List (List Int)) : T.noOwnL (T.frzL .fresh (rows t)) = true ∧ T.eryL .old (T.frzL .fresh (rows t)) = tbL t := by
  rw [frzL_rows]
  induction t with
  | nil => exact ⟨rfl, rfl⟩
  | cons r t ih => exact ⟨by simp [ih.1], by simp [ih.2, tbL]⟩
def S_whole (pg : Pg) : Prop := ∀ f s : List (List Int), PM f s → Call pg 271 [sol f s] [sol f s] (.mem .own (some 1) (tbL (f ++ turnL s)))
theorem t_whole {pg : Pg} (hp : pg.fn 271 = some c_impl_wholeSystem) (h267 : S_turn pg 267) (h381 : S_concat pg) : S_whole pg := by
  intro f s h
  have h0 := h.pos
  have h12 := h.small
  have hls := h.len
  refine Call.intro hp rfl (by simp) ?_
  show wp _ _ c_impl_wholeSystem.body (post [.t 2] _ _ _) _
  simp [c_impl_wholeSystem]
  refine callR (h267 s h.ts (by omega)) rfl rfl (fun _ => by simp) ?_
  obtain ⟨e1, e2⟩ := frz_rows_old (turnL s)
  simp [e1, e2]
  refine callR (h381 f (turnL s) h0 (by omega) (by simp; omega)) rfl rfl (fun hh => by simp at hh) ?_
  simp

/-! ### What is reached from an element -/

def S_orbit (pg : Pg) : Prop := ∀ (ms : List (List Int)) (n i : Nat), Prms n ms → ms.length ≤ 1048576 → n ≤ 1048576 → i < n → ∃ l : List Int, ((∀ x, x ∈ l ↔ Rch ms i x) ∧ l.Nodup) ∧ Call pg 430 [tb ms, I i] [tb ms, I i] (.mem .own (some 1) (l.map I))
set_option maxRecDepth 10000 in
theorem t_l01Orbit {pg : Pg} (hp : pg.fn 430 = some c_spec_l01Orbit) (h62 : S_has pg) : S_orbit pg := by
  intro ms n i hm hml hn hi
  refine Call.find hp rfl (by simp) ?_
  show wp _ _ c_spec_l01Orbit.body (fun x e => ∃ l : List Int, _ ∧ post [.t 4] _ _ _ x e) _
  simp [c_spec_l01Orbit]
  refine wpLoop_lower (α := List Int × Nat) (fun y => n - y.2) (fun y e => (i : Int) ∈ y.1 ∧ y.1.Nodup ∧ (∀ x ∈ y.1, Rch ms i x) ∧ y.2 ≤ y.1.length ∧ (∀ a (ha : a < y.1.length), a < y.2 → ∀ p ∈ ms, act p y.1[a] ∈ y.1) ∧
    e = fr [(0, some (.val (tb ms))), (5, some (.val (.mem .own (some 1) (y.1.map I)))), (6, some (.val (I y.2)))]) ?_ ([(i : Int)], 0) _ ⟨by simp, by simp, by simp [rch_refl], by simp, by simp, by simp⟩
  rintro ⟨l, j⟩ e ⟨g1, g2, g3, g4, g5, rfl⟩
  simp only at g1 g2 g3 g4 g5
  have hrng : ∀ x ∈ l, 0 ≤ x ∧ x < n := fun x hx => rch_rng hm (by omega) (g3 x hx)
  have hlen := nodup_rng_len g2 hrng
  by_cases hj : j < l.length
  · simp [hj]
    refine wpLoop_count (fun q e => ∃ r : List Int, (l ++ r).Nodup ∧ (∀ x ∈ r, Rch ms i x) ∧ (∀ p ∈ ms.take q, act p l[j] ∈ l ++ r) ∧ e = fr [(0, some (.val (tb ms))), (5, some (.val (.mem .own (some 1) ((l ++ r).map I)))), (6, some (.val (I j))), (7, some (.val (I q)))]) ms.length ?_ ?_ 0 _ (by omega) ⟨[], by simpa using g2, by simp, by simp, by simp⟩
    · rintro q e hq ⟨r, k1, k2, k3, rfl⟩
      have hx := hrng _ (List.getElem_mem hj)
      have hpm : ms[q] ∈ ms := List.getElem_mem hq
      have hpl := (hm _ hpm).1
      have hxl : (l[j]).toNat < (ms[q]).length := by omega
      have hact : act ms[q] l[j] = (ms[q])[(l[j]).toNat] := by simp [act, hxl]
      have hlr := nodup_rng_len k1 (fun x hx => by
        rcases List.mem_append.1 hx with h | h
        · exact hrng x h
        · exact rch_rng hm (by omega) (k2 x h))
      have hgj : ∀ h : j < (l ++ r).length, (l ++ r)[j] = l[j] := fun h => List.getElem_append_left hj
      have hjl : j < (l ++ r).length := by simp; omega
      have hrr : Rch ms i (act ms[q] l[j]) := rch_step (g3 _ (List.getElem_mem hj)) hpm
      have hadd : act ms[q] l[j] ∉ l ++ r → (l ++ (r ++ [act ms[q] l[j]])).Nodup := fun hh => by
        rw [← List.append_assoc, List.nodup_append]
        exact ⟨k1, by simp, fun a ha b hb => by simp only [List.mem_singleton] at hb; subst hb; exact fun e => hh (e ▸ ha)⟩
      have hnext : ∀ r', (∀ x ∈ l ++ r, x ∈ l ++ r') → act ms[q] l[j] ∈ l ++ r' → ∀ p ∈ ms.take (q + 1), act p l[j] ∈ l ++ r' := fun r' h1 h2 p hp => by
        rw [List.take_succ_eq_append_getElem hq] at hp
        rcases List.mem_append.1 hp with h | h
        · exact h1 _ (k3 p h)
        · simp only [List.mem_singleton] at h; subst h; exact h2
      have hh := h62 (l ++ r) (act ms[q] l[j]) (by omega)
      have hinr : ∀ x, x ∈ r ++ [act ms[q] l[j]] → Rch ms i x := fun x hx => by
        rcases List.mem_append.1 hx with h | h
        · exact k2 x h
        · simp only [List.mem_singleton] at h; subst h; exact hrr
      have hx2 : l[j] < ((ms[q]).length : Int) := by omega
      by_cases hm2 : act ms[q] l[j] ∈ l ++ r
      · have hfin : ∃ r' : List Int, (l ++ r').Nodup ∧ (∀ x ∈ r', Rch ms i x) ∧ (∀ p ∈ ms.take (q + 1), act p l[j] ∈ l ++ r') ∧ l ++ r = l ++ r' := ⟨r, k1, k2, hnext r (fun _ h => h) hm2, rfl⟩
        clear hnext hadd hinr
        generalize l ++ r = L at *
        simp [hq, hjl, hgj, hx, hx2, hxl, ← hact]
        refine callR hh rfl rfl (fun _ => rfl) ?_
        simp [hm2]
        refine ⟨by omega, ?_⟩
        obtain ⟨r', f1, f2, f3, f4⟩ := hfin
        exact ⟨r', f1, f2, fun p hp => List.mem_append.1 (f3 p hp), by rw [f4]; simp⟩
      · have hfin : ∃ r' : List Int, (l ++ r').Nodup ∧ (∀ x ∈ r', Rch ms i x) ∧ (∀ p ∈ ms.take (q + 1), act p l[j] ∈ l ++ r') ∧ (l ++ r) ++ [act ms[q] l[j]] = l ++ r' :=
          ⟨r ++ [act ms[q] l[j]], hadd hm2, hinr, hnext _ (fun x hx => by rw [← List.append_assoc]; exact List.mem_append_left _ hx) (by rw [← List.append_assoc]; simp), by simp⟩
        clear hnext hadd hinr
        generalize l ++ r = L at *
        simp [hq, hjl, hgj, hx, hx2, hxl, ← hact]
        refine callR hh rfl rfl (fun _ => rfl) ?_
        simp [hm2, hq, hjl, hgj, hx, hx2, hxl, ← hact, roomy]
        refine ⟨by omega, by omega, ?_⟩
        obtain ⟨r', f1, f2, f3, f4⟩ := hfin
        exact ⟨r', f1, f2, fun p hp => List.mem_append.1 (f3 p hp), by rw [← List.map_append, ← f4]; simp⟩
    · rintro e ⟨r, k1, k2, k3, rfl⟩
      rw [List.take_length] at k3
      have g5' : ∀ (a : Nat) (ha : a < (l ++ r).length), a < j + 1 → ∀ p ∈ ms, act p (l ++ r)[a] ∈ l ++ r := fun a ha ha2 p hp => by
        have hal : a < l.length := by omega
        rw [List.getElem_append_left hal]
        by_cases haj : a = j
        · subst haj; exact k3 p hp
        · exact List.mem_append_left _ (g5 a hal (by omega) p hp)
      have g3' : ∀ x ∈ l ++ r, Rch ms i x := fun x hx => by
        rcases List.mem_append.1 hx with h | h
        · exact g3 x h
        · exact k2 x h
      have g1' : (i : Int) ∈ l ++ r := List.mem_append_left _ g1
      have hlr : j + 1 ≤ (l ++ r).length := by simp; omega
      generalize l ++ r = L at *
      simp
      exact ⟨by omega, L, j + 1, by omega, g1', k1, g3', hlr, g5', by simp⟩
  · simp [hj]
    exact ⟨l, ⟨rch_list g1 g3 fun x hx p hp => by
      obtain ⟨a, ha, rfl⟩ := List.getElem_of_mem hx
      exact g5 a ha (by omega) p hp, g2⟩, rfl⟩
end Go.Mch
/- Elements that act alike, twists, of the reference and of the program. -/
namespace Go.Mch

/-- One more than the greatest number, or 0. -/
def greatest (xs : List Int) : Int := xs.foldl (fun a x => if a ≤ x then x + 1 else a) 0
theorem greatest_succ {xs : List Int} {k : Nat} (hk : k < xs.length) : greatest (xs.take (k + 1)) = if greatest (xs.take k) ≤ xs[k] then xs[k] + 1 else greatest (xs.take k) := by
  rw [List.take_succ_eq_append_getElem hk]
  simp only [greatest, List.foldl_append, List.foldl_cons, List.foldl_nil]
  rfl
def S_greatest (pg : Pg) : Prop := ∀ xs : List Int, xs.length ≤ 1048576 → (∀ x ∈ xs, 0 ≤ x ∧ x ≤ 1048576) → Call pg 288 [ix xs] [ix xs] (I (greatest xs))
theorem t_greatest {pg : Pg} (hp : pg.fn 288 = some c_spec_l01Greatest) : S_greatest pg := by
  intro xs hl hx
  refine Call.intro hp rfl (by simp) ?_
  show wp _ _ c_spec_l01Greatest.body (post [.t 2] _ _ _) _
  simp [c_spec_l01Greatest]
  refine wpLoop_count (fun k e => e = fr [(0, some (.val (ix xs))), (3, some (.val (I (greatest (xs.take k))))), (4, some (.val (I k)))]) xs.length ?_ ?_ 0 _ (by omega) ?_
  · rintro k e hk rfl
    have h1 := hx _ (List.getElem_mem hk)
    have hs := greatest_succ hk
    by_cases hg : greatest (xs.take k) ≤ xs[k]
    · rw [if_pos hg] at hs
      simp [hk, hg, hs]
      omega
    · rw [if_neg hg] at hs
      simp [hk, hg, hs]
      omega
  · rintro e rfl
    simp
  · simp [greatest]
def maxL : List Int → Int
  | [] => 0
  | x :: xs => xs.foldl (mmI true) x
theorem maxL_succ {xs : List Int} {k : Nat} (hk : k < xs.length) (h0 : 0 < k) : maxL (xs.take (k + 1)) = mmI true (maxL (xs.take k)) xs[k] := by
  cases xs with
  | nil => simp at hk
  | cons x xs =>
    cases k with
    | zero => omega
    | succ k =>
      have := List.take_succ_eq_append_getElem (show k < xs.length by simpa using hk)
      simp only [List.take_succ_cons, maxL, this, List.foldl_append, List.foldl_cons, List.foldl_nil, List.getElem_cons_succ]
def S_maxL (pg : Pg) : Prop := ∀ xs : List Int, xs.length ≤ 1048576 → 0 < xs.length → Call pg 290 [ix xs] [ix xs] (I (maxL xs))
theorem t_max {pg : Pg} (hp : pg.fn 290 = some c_slices_Max___int64_int64_) : S_maxL pg := by
  intro xs hl h0
  refine Call.intro hp rfl (by simp) ?_
  show wp _ _ c_slices_Max___int64_int64_.body (post [.t 2] _ _ _) _
  have h1 : ¬ (xs.length : Int) < 1 := by omega
  have h0' : (0 : Int) < xs.length := by omega
  simp [c_slices_Max___int64_int64_, h1, h0]
  refine wpLoop_count (fun k e => 0 < k ∧ e = fr [(0, some (.val (ix xs))), (3, some (.val (I (maxL (xs.take k))))), (4, some (.val (I k)))]) xs.length ?_ ?_ 1 _ (by omega) ?_
  · rintro k e hk ⟨hk0, rfl⟩
    have hs := maxL_succ hk hk0
    simp [hk, hs]
    omega
  · rintro e ⟨hk0, rfl⟩
    simp
  · cases xs with
    | nil => simp at h0
    | cons x xs => simp [maxL]
theorem greatest_max : ∀ xs : List Int, 0 < xs.length → (∀ x ∈ xs, 0 ≤ x) → greatest xs = maxL xs + 1 := by
  intro xs h0 hx
  have key : ∀ k, 0 < k → k ≤ xs.length → greatest (xs.take k) = maxL (xs.take k) + 1 := by
    intro k
    induction k with
    | zero => intro h; omega
    | succ k ih =>
      intro _ hk
      rcases Nat.eq_zero_or_pos k with h | h
      · subst h
        cases xs with
        | nil => simp at h0
        | cons x xs =>
          have := hx x (by simp)
          simp [greatest, maxL, this]
      · rw [greatest_succ (by omega), maxL_succ (by omega) h, ih h (by omega)]
        unfold mmI
        simp only [if_true]
        split <;> split <;> omega
  have := key xs.length h0 (Nat.le_refl _)
  simpa using this

/-- Two elements have the same rows in both tables. -/
def eqv (a b : List (List Int)) (i j : Nat) : Prop := a.getD i [] = a.getD j [] ∧ b.getD i [] = b.getD j []
instance (a b : List (List Int)) (i j : Nat) : Decidable (eqv a b i j) := by unfold eqv; infer_instance
/-- The first element that is like element i. -/
def lab (a b : List (List Int)) (i : Nat) : Nat := ((List.range i).find? fun j => decide (eqv a b i j)).getD i
/-- The numbers of the classes of elements that act alike. -/
def classes (f s : List (List Int)) : List Int := renum ((List.range f.length).map fun i => (lab f (turnL s) i : Int))
@[simp] theorem classes_length (f s : List (List Int)) : (classes f s).length = f.length := by simp [classes]
def idL (n : Nat) : List Int := (List.range n).map fun i : Nat => (i : Int)
@[simp] theorem idL_length (n : Nat) : (idL n).length = n := by simp [idL]
theorem idL_succ (n : Nat) : idL (n + 1) = idL n ++ [(n : Int)] := by simp [idL, List.range_succ]
def S_identity (pg : Pg) : Prop := ∀ n : Nat, n ≤ 1048576 → Call pg 335 [I n] [I n] (.mem .own (some 1) ((idL n).map I))
theorem t_identity {pg : Pg} (hp : pg.fn 335 = some c_impl_identity) : S_identity pg := by
  intro n hn
  refine Call.intro hp rfl (by simp) ?_
  show wp _ _ c_impl_identity.body (post [.t 2] _ _ _) _
  simp [c_impl_identity]
  refine ⟨by unfold roomy; omega, ?_⟩
  refine wpLoop_count (fun k e => e = fr [(3, some (.val (.mem .own (some 1) ((idL k).map I ++ List.replicate (n - k) (I 0))))), (8, some (.val (I n))), (9, some (.val (I k)))]) n ?_ ?_ 0 _ (by omega) ?_
  · rintro k e hk rfl
    have hlen : ((idL k).map I).length = k := by simp
    rw [fill_succ (I 0) hk]
    simp [hk, set_mid hlen, idL_succ]
    omega
  · rintro e rfl
    simp
  · simp [idL]

/-- The first like ones of the first i elements, then the elements. -/
def midL (a b : List (List Int)) (n i : Nat) : List Int := (List.range n).map fun x : Nat => if x < i then (lab a b x : Int) else (x : Int)
@[simp] theorem midL_length (a b : List (List Int)) (n i : Nat) : (midL a b n i).length = n := by simp [midL]
/-! ### IsTwist -/

end Go.Mch
/- The numbers of the orbits, of the reference and of the program. -/
namespace Go.Mch

def S_orbits (pg : Pg) : Prop := ∀ (ms : List (List Int)) (n : Nat), Prms n ms → ms.length ≤ 1048576 → n ≤ 1048576 → Call pg 387 [I n, tb ms] [I n, tb ms] (.mem .own (some 1) ((orbL ms n).map I))
/-- Numbers, c given to the elements of a list. -/
def putL (lab : List Int) (l : List Int) (c : Int) : List Int := (List.range lab.length).map fun x : Nat => if (x : Int) ∈ l then c else lab.getD x 0
@[simp] theorem putL_length (lab l : List Int) (c : Int) : (putL lab l c).length = lab.length := by simp [putL]
theorem putL_nil (lab : List Int) (c : Int) : putL lab [] c = lab := by
  apply List.ext_getElem
  · simp
  · intro i h1 h2
    simp [putL, h2]
theorem putL_get {lab l : List Int} {c : Int} {x : Nat} (h : x < lab.length) : (putL lab l c).getD x 0 = if (x : Int) ∈ l then c else lab.getD x 0 := by
  simp [putL, h]
theorem putL_snoc (lab l : List Int) (c y : Int) (hy : 0 ≤ y) : (putL lab l c).set y.toNat c = putL lab (l ++ [y]) c := by
  apply List.ext_getElem
  · simp
  · intro i h1 h2
    simp only [List.getElem_set, putL, List.getElem_map, List.getElem_range, List.mem_append, List.mem_singleton]
    by_cases hi : y.toNat = i
    · have : (i : Int) = y := by omega
      simp [hi, this]
    · have : ¬ (i : Int) = y := by omega
      simp [hi, this]
theorem putL_mark {ms : List (List Int)} {i : Int} {l lab : List Int} {c : Int} (h : ∀ x, x ∈ l ↔ Rch ms i x) : putL lab l c = markO ms i lab c := by
  apply List.map_congr_left
  intro x _
  by_cases hx : (x : Int) ∈ l
  · simp [hx, dec_true ((h x).1 hx)]
  · simp [hx, dec_false (fun hh => hx ((h x).2 hh))]

set_option maxRecDepth 10000 in
theorem t_l01Orbits {pg : Pg} (hp : pg.fn 387 = some c_spec_l01Orbits) (h430 : S_orbit pg) : S_orbits pg := by
  intro ms n hm hml hn
  refine Call.intro hp rfl (by simp) ?_
  show wp _ _ c_spec_l01Orbits.body (post [.t 4] _ _ _) _
  simp [c_spec_l01Orbits]
  refine wpLoop_count (fun k e => e = fr [(0, some (.val (I n))), (1, some (.val (tb ms))), (5, some (.val (.mem .own (some 1) (List.replicate k (I (-1)))))), (6, some (.val (I k)))]) n ?_ ?_ 0 _ (by omega) ?_
  · rintro k e hk rfl
    simp [hk, roomy, List.replicate_succ']
    omega
  · rintro e rfl
    simp
    refine wpLoop_count (fun k e => e = fr [(0, some (.val (I n))), (1, some (.val (tb ms))), (5, some (.val (.mem .own (some 1) ((orbS ms n k).1.map I)))), (7, some (.val (I (orbS ms n k).2))), (8, some (.val (I k)))]) n ?_ ?_ 0 _ (by omega) ?_
    · rintro k e hk rfl
      have hl := orbS_length ms n k
      have hc := orbS_cnt ms n k
      have hkl : k < (orbS ms n k).1.length := by omega
      have hg : (orbS ms n k).1.getD k 0 = (orbS ms n k).1[k] := by rw [List.getD_eq_getElem?_getD, List.getElem?_eq_getElem hkl]; rfl
      by_cases h0 : 0 ≤ (orbS ms n k).1[k]
      · have hs : orbS ms n (k + 1) = orbS ms n k := by rw [orbS, hg, if_pos h0]
        simp [hk, h0, hs]
        omega
      · obtain ⟨l, ⟨q1, q2⟩, q3⟩ := h430 ms n k hm hml hn hk
        have hs : orbS ms n (k + 1) = (putL (orbS ms n k).1 l (orbS ms n k).2, (orbS ms n k).2 + 1) := by rw [orbS, hg, if_neg h0, putL_mark q1]
        have hrng : ∀ x ∈ l, 0 ≤ x ∧ x < n := fun x hx => rch_rng hm (by omega) ((q1 x).1 hx)
        have hll := nodup_rng_len q2 hrng
        rw [hs]
        generalize orbS ms n k = S at *
        simp [hk, hkl, h0]
        refine callR q3 rfl rfl (fun _ => by simp) ?_
        simp
        refine wpLoop_count (fun c e => e = fr [(0, some (.val (I n))), (1, some (.val (tb ms))), (5, some (.val (.mem .own (some 1) ((putL S.1 (l.take c) S.2).map I)))), (7, some (.val (I S.2))), (8, some (.val (I k))), (9, some (.val (.mem .own (some 1) (l.map I)))), (10, some (.val (I c)))]) l.length ?_ ?_ 0 _ (by omega) ?_
        · rintro c e hc2 rfl
          have hx := hrng _ (List.getElem_mem hc2)
          have hxn : (l[c]).toNat < n := by omega
          have hp := putL_snoc S.1 (l.take c) S.2 l[c] hx.1
          rw [← List.take_succ_eq_append_getElem hc2] at hp
          rw [← hp]
          simp [hc2, hx, hl, hxn]
          omega
        · rintro e rfl
          simp
          omega
        · simp [putL_nil]
    · rintro e rfl
      simp [orbL]
    · simp [orbS]
  · simp

/-- What is reached from an element without a number has none. -/
theorem orbS_open {ms : List (List Int)} {n : Nat} (h : Prms n ms) {k : Nat} (hk : k < n) (h0 : ¬ 0 ≤ (orbS ms n k).1.getD k 0) {x : Int} (hx : Rch ms k x) : ¬ 0 ≤ (orbS ms n k).1.getD x.toNat 0 := by
  have := hx (fun x => (0 ≤ x ∧ x < n) ∧ ¬ ((0 ≤ x ∧ x < n) ∧ 0 ≤ (orbS ms n k).1.getD x.toNat 0)) ⟨by omega, fun hh => h0 (by simpa using hh.2)⟩ fun y hy p hp =>
    ⟨act_rng h hp hy.1, compl_closed h (orbS_closed h k (by omega)) hy.1 hy.2 hp⟩
  exact fun hh => this.2 ⟨this.1, hh⟩
def S_labels (pg : Pg) : Prop := ∀ (ms : List (List Int)) (n : Nat), Prms n ms → ms.length ≤ 1048576 → n ≤ 1048576 → Call pg 388 [I n, tb ms] [I n, tb ms] (.mem .own (some 1) ((orbL ms n).map I))
set_option maxRecDepth 10000 in
theorem t_orbitLabels {pg : Pg} (hp : pg.fn 388 = some c_impl_orbitLabels) : S_labels pg := by
  intro ms n hm hml hn
  refine Call.intro hp rfl (by simp) ?_
  show wp _ _ c_impl_orbitLabels.body (post [.t 4] _ _ _) _
  simp [c_impl_orbitLabels]
  refine ⟨by unfold roomy; omega, ?_⟩
  refine wpLoop_count (fun k e => e = fr [(1, some (.val (tb ms))), (5, some (.val (.mem .own (some 1) (List.replicate k (I (-1)) ++ List.replicate (n - k) (I 0))))), (16, some (.val (I n))), (17, some (.val (I k)))]) n ?_ ?_ 0 _ (by omega) ?_
  · rintro k e hk rfl
    have hlen : (List.replicate k (I (-1))).length = k := by simp
    rw [fill_succ (I 0) hk]
    simp [hk, set_mid hlen, List.replicate_succ']
    omega
  · rintro e rfl
    simp
    refine wpLoop_count (fun k e => e = fr [(1, some (.val (tb ms))), (5, some (.val (.mem .own (some 1) ((orbS ms n k).1.map I)))), (7, some (.val (I (orbS ms n k).2))), (25, some (.val (I n))), (26, some (.val (I k)))]) n ?_ ?_ 0 _ (by omega) ?_
    · rintro k e hk rfl
      have hl := orbS_length ms n k
      have hc := orbS_cnt ms n k
      have hkl : k < (orbS ms n k).1.length := by omega
      have hg : (orbS ms n k).1.getD k 0 = (orbS ms n k).1[k] := by rw [List.getD_eq_getElem?_getD, List.getElem?_eq_getElem hkl]; rfl
      by_cases h0 : 0 ≤ (orbS ms n k).1[k]
      · have hs : orbS ms n (k + 1) = orbS ms n k := by rw [orbS, hg, if_pos h0]
        simp [hk, h0, hs]
        omega
      · have hopen := fun {x : Int} (hx : Rch ms k x) => orbS_open hm hk (by rw [hg]; exact h0) hx
        have hs : orbS ms n (k + 1) = (markO ms k (orbS ms n k).1 (orbS ms n k).2, (orbS ms n k).2 + 1) := by rw [orbS, hg, if_neg h0]
        rw [hs]
        generalize orbS ms n k = S at *
        have hput : S.1.set k S.2 = putL S.1 [(k : Int)] S.2 := by
          have := putL_snoc S.1 [] S.2 k (by omega)
          rw [putL_nil] at this
          exact this
        simp [hk, hkl, h0]
        refine ⟨by omega, ?_⟩
        refine wpLoop_lower (α := List Int × Nat) (fun y => n - y.2) (fun y e => (k : Int) ∈ y.1 ∧ y.1.Nodup ∧ (∀ x ∈ y.1, Rch ms k x) ∧ y.2 ≤ y.1.length ∧ (∀ a (ha : a < y.1.length), a < y.2 → ∀ p ∈ ms, act p y.1[a] ∈ y.1) ∧
          e = fr [(1, some (.val (tb ms))), (5, some (.val (.mem .own (some 1) ((putL S.1 y.1 S.2).map I)))), (7, some (.val (I S.2))), (9, some (.val (.mem .own (some 1) ((y.1.drop y.2).map I)))), (25, some (.val (I n))), (26, some (.val (I k)))]) ?_ ([(k : Int)], 0) _ ⟨by simp, by simp, by simp [rch_refl], by simp, by simp, ?_⟩
        case refine_2 => simp [← hput]
        rintro ⟨V, d⟩ e ⟨g1, g2, g3, g4, g5, rfl⟩
        simp only at g1 g2 g3 g4 g5
        have hrng : ∀ x ∈ V, 0 ≤ x ∧ x < n := fun x hx => rch_rng hm (by omega) (g3 x hx)
        have hlen := nodup_rng_len g2 hrng
        by_cases hd : d < V.length
        · have hx := hrng _ (List.getElem_mem hd)
          have hdn : ∀ r : List Int, (V ++ r).drop (d + 1) = V.drop (d + 1) ++ r := fun r => List.drop_append_of_le_length (by omega)
          rw [List.drop_eq_getElem_cons hd]
          generalize V.drop (d + 1) = Q at *
          simp
          refine wpLoop_count (fun q e => ∃ r : List Int, (V ++ r).Nodup ∧ (∀ x ∈ V ++ r, Rch ms k x) ∧ (∀ p ∈ ms.take q, act p V[d] ∈ V ++ r) ∧
            e = fr [(1, some (.val (tb ms))), (5, some (.val (.mem .own (some 1) ((putL S.1 (V ++ r) S.2).map I)))), (7, some (.val (I S.2))), (9, some (.val (.mem .own (some 1) (I V[d] :: (Q ++ r).map I)))), (25, some (.val (I n))), (26, some (.val (I k))), (45, some (.val (tb ms))), (46, some (.val (I ms.length))), (47, some (.val (I q)))]) ms.length ?_ ?_ 0 _ (by omega) ⟨[], by simpa using g2, by simpa using g3, by simp, by simp⟩
          · rintro q e hq ⟨r, k1, k2, k3, rfl⟩
            have hpm : ms[q] ∈ ms := List.getElem_mem hq
            have hpl := (hm _ hpm).1
            have hxl : (V[d]).toNat < (ms[q]).length := by omega
            have hact : act ms[q] V[d] = (ms[q])[(V[d]).toNat] := by simp [act, hxl]
            have hrr : Rch ms k (act ms[q] V[d]) := rch_step (g3 _ (List.getElem_mem hd)) hpm
            have hyr := act_rng hm hpm hx
            have hyo := hopen hrr
            have hx2 : V[d] < ((ms[q]).length : Int) := by omega
            have hnext : ∀ r', (∀ x ∈ V ++ r, x ∈ V ++ r') → act ms[q] V[d] ∈ V ++ r' → ∀ p ∈ ms.take (q + 1), act p V[d] ∈ V ++ r' := fun r' h1 h2 p hp => by
              rw [List.take_succ_eq_append_getElem hq] at hp
              rcases List.mem_append.1 hp with h | h
              · exact h1 _ (k3 p h)
              · simp only [List.mem_singleton] at h; subst h; exact h2
            have hpg := putL_get (lab := S.1) (l := V ++ r) (c := S.2) (x := (act ms[q] V[d]).toNat) (by omega)
            rw [show (((act ms[q] V[d]).toNat : Nat) : Int) = act ms[q] V[d] from by omega] at hpg
            have hyl : (act ms[q] V[d]).toNat < S.1.length := by omega
            have hyl2 : act ms[q] V[d] < S.1.length := by omega
            have hpe : ∀ h : (act ms[q] V[d]).toNat < (putL S.1 (V ++ r) S.2).length, (putL S.1 (V ++ r) S.2)[(act ms[q] V[d]).toNat] = (putL S.1 (V ++ r) S.2).getD (act ms[q] V[d]).toNat 0 := fun h => by
              rw [List.getD_eq_getElem?_getD, List.getElem?_eq_getElem h]; rfl
            rw [hpg] at hpe
            have hsnoc := putL_snoc S.1 (V ++ r) S.2 (act ms[q] V[d]) hyr.1
            by_cases hm2 : act ms[q] V[d] ∈ V ++ r
            · have hfin : ∃ r' : List Int, (V ++ r').Nodup ∧ (∀ x ∈ V ++ r', Rch ms k x) ∧ (∀ p ∈ ms.take (q + 1), act p V[d] ∈ V ++ r') ∧ V ++ r = V ++ r' ∧ Q ++ r = Q ++ r' := ⟨r, k1, k2, hnext r (fun _ h => h) hm2, rfl, rfl⟩
              rw [if_pos hm2] at hpe
              have hc0 : ¬ S.2 < 0 := by omega
              clear hnext hpg hsnoc
              generalize V ++ r = L at *
              generalize Q ++ r = Q' at *
              simp [hq, hx, hx2, hxl, ← hact, hyr, hyl, hyl2, hpe, hc0]
              refine ⟨by omega, ?_⟩
              obtain ⟨r', f1, f2, f3, f4, f5⟩ := hfin
              exact ⟨r', f1, fun x hx => f2 x (List.mem_append.2 hx), fun p hp => List.mem_append.1 (f3 p hp), by rw [f4, f5]; simp⟩
            · have hfin : ∃ r' : List Int, (V ++ r').Nodup ∧ (∀ x ∈ V ++ r', Rch ms k x) ∧ (∀ p ∈ ms.take (q + 1), act p V[d] ∈ V ++ r') ∧ (V ++ r) ++ [act ms[q] V[d]] = V ++ r' ∧ (Q ++ r) ++ [act ms[q] V[d]] = Q ++ r' := by
                refine ⟨r ++ [act ms[q] V[d]], ?_, ?_, hnext _ (fun x hx => by rw [← List.append_assoc]; exact List.mem_append_left _ hx) (by rw [← List.append_assoc]; simp), by simp, by simp⟩
                · rw [← List.append_assoc, List.nodup_append]
                  exact ⟨k1, by simp, fun a ha b hb => by simp only [List.mem_singleton] at hb; subst hb; exact fun e => hm2 (e ▸ ha)⟩
                · intro x hx
                  rw [← List.append_assoc] at hx
                  rcases List.mem_append.1 hx with h | h
                  · exact k2 x h
                  · simp only [List.mem_singleton] at h; subst h; exact hrr
              rw [if_neg hm2] at hpe
              have hc0 : S.1.getD (act ms[q] V[d]).toNat 0 < 0 := by omega
              have hlr := nodup_rng_len k1 fun x hx => rch_rng hm (by omega) (k2 x hx)
              have hQl : (Q ++ r).length ≤ (V ++ r).length := by
                have := congrArg List.length (hdn r)
                rw [List.length_drop] at this
                omega
              clear hnext hpg
              generalize V ++ r = L at *
              generalize Q ++ r = Q' at *
              generalize S.1.getD (act ms[q] V[d]).toNat 0 = z at *
              simp [hq, hx, hx2, hxl, ← hact, hyr, hyl, hyl2, hpe, hc0, roomy]
              refine ⟨by omega, by omega, by omega, ?_⟩
              obtain ⟨r', f1, f2, f3, f4, f5⟩ := hfin
              refine ⟨r', f1, fun x hx => f2 x (List.mem_append.2 hx), fun p hp => List.mem_append.1 (f3 p hp), ?_⟩
              rw [← f4, ← hsnoc, ← List.map_append, ← f5]
              simp
          · rintro e ⟨r, k1, k2, k3, rfl⟩
            rw [List.take_length] at k3
            have g5' : ∀ (a : Nat) (ha : a < (V ++ r).length), a < d + 1 → ∀ p ∈ ms, act p (V ++ r)[a] ∈ V ++ r := fun a ha ha2 p hp => by
              have hal : a < V.length := by omega
              rw [List.getElem_append_left hal]
              by_cases had : a = d
              · subst had; exact k3 p hp
              · exact List.mem_append_left _ (g5 a hal (by omega) p hp)
            have g1' : (k : Int) ∈ V ++ r := List.mem_append_left _ g1
            have hlr : d + 1 ≤ (V ++ r).length := by simp; omega
            have hdn' := hdn r
            clear hdn
            generalize V ++ r = L at *
            generalize Q ++ r = Q' at *
            simp
            refine ⟨by omega, by omega, L, d + 1, by omega, g1', k1, k2, hlr, g5', ?_⟩
            rw [← List.map_drop, hdn']
            simp [win]
        · have hcl := rch_list g1 g3 fun x hx p hp => by
            obtain ⟨a, ha, rfl⟩ := List.getElem_of_mem hx
            exact g5 a ha (by omega) p hp
          have hd2 : V.length - d = 0 := by omega
          have hpm := putL_mark (lab := S.1) (c := S.2) hcl
          simp [hd2, hpm]
          omega
    · rintro e rfl
      simp [orbL]
    · simp [orbS]
  · simp
end Go.Mch
/- OrbitsOfSolution, IsIndecomposable, of the reference and of the program. -/
namespace Go.Mch

/-- The numbers of the orbits of a solution. -/
noncomputable def solO (f s : List (List Int)) : List Int := orbL (f ++ turnL s) f.length
@[simp] theorem solO_length (f s : List (List Int)) : (solO f s).length = f.length := by simp [solO]
theorem prms_of {f s : List (List Int)} (h : PM f s) (hn : nonDeg f s) : Prms f.length (f ++ turnL s) := fun p hp => by
  rcases List.mem_append.1 hp with h1 | h1
  · exact ⟨by have := (h.tf p h1).1; omega, hn.1 p h1⟩
  · exact ⟨by rw [tabL_row h1, h.len], hn.2 p h1⟩
theorem orbL_rng {ms : List (List Int)} {n : Nat} {x : Int} (hx : x ∈ orbL ms n) : 0 ≤ x ∧ x < n := by
  obtain ⟨i, hi, rfl⟩ := List.getElem_of_mem hx
  simp only [orbL_length] at hi
  have h1 := orbS_done ms n n (Nat.le_refl _) i hi
  have h2 := orbS_rng ms n n i hi
  have h3 := orbS_cnt ms n n
  have : (orbS ms n n).1.getD i 0 = (orbL ms n)[i] := by
    rw [List.getD_eq_getElem?_getD, List.getElem?_eq_getElem (by simpa using hi)]; rfl
  omega
theorem solO_rng {f s : List (List Int)} {x : Int} (hx : x ∈ solO f s) : 0 ≤ x ∧ x < f.length := orbL_rng hx

def S_solO (pg : Pg) (n : Nat) : Prop := ∀ f s : List (List Int), PM f s → nonDeg f s → Call pg n [sol f s] [sol f s] (.mem .own (some 1) ((solO f s).map I))
theorem t_l07Orbits {pg : Pg} (hp : pg.fn 299 = some c_spec_l07Orbits) (h273 : S_both pg) (h387 : S_orbits pg) : S_solO pg 299 := by
  intro f s h hn
  have h12 := h.small
  have hl := h.len
  refine Call.intro hp rfl (by simp) ?_
  show wp _ _ c_spec_l07Orbits.body (post [.t 2] _ _ _) _
  simp [c_spec_l07Orbits]
  refine callR (h273 f s h) rfl rfl (fun _ => by simp) ?_
  simp
  refine callR (h387 (f ++ turnL s) f.length (prms_of h hn) (by simp; omega) (by omega)) rfl rfl (fun _ => by simp) ?_
  simp [solO]
theorem t_solutionOrbits {pg : Pg} (hp : pg.fn 301 = some c_impl_solutionOrbits) (h271 : S_whole pg) (h388 : S_labels pg) : S_solO pg 301 := by
  intro f s h hn
  have h12 := h.small
  have hl := h.len
  refine Call.intro hp rfl (by simp) ?_
  show wp _ _ c_impl_solutionOrbits.body (post [.t 2] _ _ _) _
  simp [c_impl_solutionOrbits]
  refine callR (h271 f s h) rfl rfl (fun hh => by simp at hh) ?_
  simp
  refine callR (h388 (f ++ turnL s) f.length (prms_of h hn) (by simp; omega) (by omega)) rfl rfl (fun _ => by simp) ?_
  simp [solO]

/-! ### IsIndecomposable -/

def S_isIndec (pg : Pg) : Prop := ∀ f s : List (List Int), PM f s → nonDeg f s → Call pg 300 [sol f s] [sol f s] (B (decide (maxL (solO f s) = 0)))
theorem t_isIndec {pg : Pg} (hp : pg.fn 300 = some c_impl_isIndecomposable) (h301 : S_solO pg 301) (h290 : S_maxL pg) : S_isIndec pg := by
  intro f s h hn
  have h0 := h.pos
  have h12 := h.small
  refine Call.intro hp rfl (by simp) ?_
  show wp _ _ c_impl_isIndecomposable.body (post [.t 2] _ _ _) _
  simp [c_impl_isIndecomposable]
  refine callR (h301 f s h hn) rfl rfl (fun _ => by simp) ?_
  simp
  refine callR (h290 (solO f s) (by simp; omega) (by simpa using h0)) rfl rfl (fun _ => rfl) ?_
  simp
end Go.Mch
/- Block systems, in plain Lean. -/
namespace Go.Mch

/-- A colouring that gives x and y one colour, and that the maps keep. -/
def Blk (ms : List (List Int)) (n : Nat) (x y : Int) (c : Int → Int) : Prop := c x = c y ∧ ∀ a b : Int, (0 ≤ a ∧ a < n) → (0 ≤ b ∧ b < n) → c a = c b → ∀ p ∈ ms, c (act p a) = c (act p b)
/-- One block. -/
def BE (ms : List (List Int)) (n : Nat) (x y a b : Int) : Prop := ∀ c, Blk ms n x y c → c a = c b
theorem BE.symm {ms : List (List Int)} {n : Nat} {x y a b : Int} (h : BE ms n x y a b) : BE ms n x y b a := fun c hc => (h c hc).symm
theorem BE.trans {ms : List (List Int)} {n : Nat} {x y a b d : Int} (h : BE ms n x y a b) (h2 : BE ms n x y b d) : BE ms n x y a d := fun c hc => (h c hc).trans (h2 c hc)
theorem BE.step {ms : List (List Int)} {n : Nat} {x y a b : Int} (h : BE ms n x y a b) (ha : 0 ≤ a ∧ a < n) (hb : 0 ≤ b ∧ b < n) {p : List Int} (hp : p ∈ ms) : BE ms n x y (act p a) (act p b) := fun c hc => hc.2 a b ha hb (h c hc) p hp

/-- Number u turned to v. -/
def mg (L : List Int) (u v : Int) : List Int := L.map fun l => if l = u then v else l
@[simp] theorem mg_length (L : List Int) (u v : Int) : (mg L u v).length = L.length := by simp [mg]
theorem mg_act {L : List Int} {u v a : Int} (h : a.toNat < L.length) : act (mg L u v) a = if act L a = u then v else act L a := by
  simp [act, mg, h]
theorem act_mem {L : List Int} {a : Int} (h : a.toNat < L.length) : act L a ∈ L := by
  simp [act, h]
def dis (n : Nat) (L : List Int) : List Int := (nums n).filter fun v => decide (v ∈ L)
theorem dis_lt {n : Nat} {L : List Int} {u v : Int} (hu : u ∈ L) (hv : v ∈ L) (hne : u ≠ v) (hr : 0 ≤ u ∧ u < n) : (dis n (mg L u v)).length < (dis n L).length := by
  have hnot : u ∉ dis n (mg L u v) := by
    intro hm
    have := (List.mem_filter.1 hm).2
    simp only [mg, List.mem_map, decide_eq_true_eq] at this
    obtain ⟨l, _, h2⟩ := this
    split at h2
    · exact hne h2.symm
    · rename_i h3; exact h3 h2
  have hnd : (dis n (mg L u v)).Nodup := (nums_nodup n).sublist List.filter_sublist
  have := len_le_of_sub (u :: dis n (mg L u v)) (dis n L) (List.nodup_cons.2 ⟨hnot, hnd⟩) fun w hw => by
    rcases List.mem_cons.1 hw with rfl | hw
    · exact List.mem_filter.2 ⟨mem_nums.2 hr, by simpa using hu⟩
    · obtain ⟨h1, h2⟩ := List.mem_filter.1 hw
      refine List.mem_filter.2 ⟨h1, ?_⟩
      simp only [mg, List.mem_map, decide_eq_true_eq] at h2 ⊢
      obtain ⟨l, h3, h4⟩ := h2
      split at h4
      · rw [← h4]; exact hv
      · rw [← h4]; exact h3
  simp only [List.length_cons] at this
  omega
theorem dis_le (n : Nat) (L : List Int) : (dis n L).length ≤ n := by
  refine Nat.le_trans (List.length_filter_le _ _) ?_
  simp [nums]
theorem mg_ker {L : List Int} {u v c d : Int} (hc : c.toNat < L.length) (hd : d.toNat < L.length) (h : act (mg L u v) c = act (mg L u v) d) :
    act L c = act L d ∨ (act L c = u ∧ act L d = v) ∨ (act L c = v ∧ act L d = u) := by
  rw [mg_act hc, mg_act hd] at h
  split at h <;> split at h
  · rename_i h1 h2; exact .inl (h1.trans h2.symm)
  · rename_i h1 h2; exact .inr (.inl ⟨h1, h.symm⟩)
  · rename_i h1 h2; exact .inr (.inr ⟨h, h2⟩)
  · exact .inl h
theorem mg_eq {L : List Int} {u v c d : Int} (hc : c.toNat < L.length) (hd : d.toNat < L.length) (h : act L c = act L d) : act (mg L u v) c = act (mg L u v) d := by
  rw [mg_act hc, mg_act hd, h]
theorem mg_both {L : List Int} {u v c d : Int} (hc : c.toNat < L.length) (hd : d.toNat < L.length) (h1 : act L c = u) (h2 : act L d = v) : act (mg L u v) c = act (mg L u v) d := by
  rw [mg_act hc, mg_act hd, if_pos h1]
  split
  · rfl
  · exact h2.symm

/-- Numbers whose blocks are no greater than need be. -/
structure Bk (ms : List (List Int)) (n : Nat) (x y : Int) (L : List Int) : Prop where
  len : L.length = n
  rng : ∀ v ∈ L, 0 ≤ v ∧ v < n
  snd : ∀ a b : Int, (0 ≤ a ∧ a < n) → (0 ≤ b ∧ b < n) → act L a = act L b → BE ms n x y a b
theorem Bk.merge {ms : List (List Int)} {n : Nat} {x y : Int} {L : List Int} (h : Bk ms n x y L) {a b : Int} (ha : 0 ≤ a ∧ a < n) (hb : 0 ≤ b ∧ b < n) (hbe : BE ms n x y a b) {u v : Int} (hu : act L a = u) (hv : act L b = v) : Bk ms n x y (mg L u v) := by
  have hl := h.len
  refine ⟨by simp [hl], fun w hw => ?_, fun c d hc hd he => ?_⟩
  · simp only [mg, List.mem_map] at hw
    obtain ⟨l, h1, h2⟩ := hw
    split at h2
    · rw [← h2, ← hv]; exact h.rng _ (act_mem (by omega))
    · rw [← h2]; exact h.rng _ h1
  · rcases mg_ker (by omega) (by omega) he with h1 | ⟨h1, h2⟩ | ⟨h1, h2⟩
    · exact h.snd c d hc hd h1
    · exact ((h.snd c a hc ha (h1.trans hu.symm)).trans hbe).trans (h.snd b d hb hd (hv.trans h2.symm))
    · exact ((h.snd c b hc hb (h1.trans hv.symm)).trans hbe.symm).trans (h.snd a d ha hd (hu.trans h2.symm))
theorem Bk.ker {ms : List (List Int)} {n : Nat} {x y : Int} {L : List Int} (h : Bk ms n x y L) (hb : Blk ms n x y (act L)) {a b : Int} (ha : 0 ≤ a ∧ a < n) (hb' : 0 ≤ b ∧ b < n) : act L a = act L b ↔ BE ms n x y a b :=
  ⟨h.snd a b ha hb', fun he => he _ hb⟩

theorem ixOf_map {φ : Int → Int} : ∀ (s : List Int) (v : Int), (∀ a ∈ s, φ a = φ v → a = v) → ixOf (s.map φ) (φ v) = ixOf s v
  | [], _, _ => rfl
  | x :: s, v, h => by
    have ih := ixOf_map s v fun a ha => h a (by simp [ha])
    simp only [List.map_cons, ixOf]
    by_cases hx : x = v
    · simp [hx]
    · have : φ x ≠ φ v := fun he => hx (h x (by simp) he)
      simp [hx, this, ih]
theorem uniqs_map {φ : Int → Int} (l : List Int) : ∀ s : List Int, (∀ a ∈ s ++ l, ∀ b ∈ s ++ l, φ a = φ b → a = b) →
    (l.map φ).foldl (fun s x => if x ∈ s then s else s ++ [x]) (s.map φ) = (l.foldl (fun s x => if x ∈ s then s else s ++ [x]) s).map φ := by
  induction l with
  | nil => intro s _; rfl
  | cons x l ih =>
    intro s h
    simp only [List.map_cons, List.foldl_cons]
    have hmem : φ x ∈ s.map φ ↔ x ∈ s := by
      constructor
      · intro hm
        obtain ⟨z, hz, he⟩ := List.mem_map.1 hm
        have := h z (by simp [hz]) x (by simp) he
        exact this ▸ hz
      · exact fun hm => List.mem_map.2 ⟨x, hm, rfl⟩
    by_cases hx : x ∈ s
    · rw [if_pos hx, if_pos (hmem.2 hx)]
      refine ih s fun a ha b hb => h a ?_ b ?_
      · simp at ha ⊢; rcases ha with h | h <;> simp [h]
      · simp at hb ⊢; rcases hb with h | h <;> simp [h]
    · rw [if_neg hx, if_neg fun hh => hx (hmem.1 hh)]
      have := ih (s ++ [x]) fun a ha b hb => h a (by simpa using ha) b (by simpa using hb)
      simpa using this
theorem renum_map {φ : Int → Int} {L : List Int} (h : ∀ a ∈ L, ∀ b ∈ L, φ a = φ b → a = b) : renum (L.map φ) = renum L := by
  unfold renum
  rw [List.length_map]
  refine List.map_congr_left fun k hk => ?_
  have hk := List.mem_range.1 hk
  have hu : uniqs ((L.map φ).take (k + 1)) = (uniqs (L.take (k + 1))).map φ := by
    rw [← List.map_take]
    exact uniqs_map (L.take (k + 1)) [] fun a ha b hb => h a (List.mem_of_mem_take (by simpa using ha)) b (List.mem_of_mem_take (by simpa using hb))
  have hsub : ∀ a ∈ uniqs (L.take (k + 1)), a ∈ L := by
    have key : ∀ (l s : List Int), ∀ a ∈ l.foldl (fun s x => if x ∈ s then s else s ++ [x]) s, a ∈ s ∨ a ∈ l := by
      intro l
      induction l with
      | nil => intro s a ha; exact .inl ha
      | cons x l ih =>
        intro s a ha
        simp only [List.foldl_cons] at ha
        rcases ih _ a ha with h1 | h1
        · split at h1
          · exact .inl h1
          · rcases List.mem_append.1 h1 with h2 | h2
            · exact .inl h2
            · exact .inr (by simp at h2; simp [h2])
        · exact .inr (by simp [h1])
    intro a ha
    rcases key _ _ a ha with h1 | h1
    · cases h1
    · exact List.mem_of_mem_take h1
  have hg : (L.map φ).getD k 0 = φ (L.getD k 0) := by simp [hk]
  have hm : L.getD k 0 ∈ L := by simp [hk]
  rw [hu, hg]
  exact ixOf_map _ _ fun a ha he => h a (hsub a ha) _ hm he
/-- Numbering anew sees only which numbers are equal. -/
theorem renum_ker {L L' : List Int} (hl : L'.length = L.length) (h : ∀ i j, i < L.length → j < L.length → (L.getD i 0 = L.getD j 0 ↔ L'.getD i 0 = L'.getD j 0)) : renum L' = renum L := by
  have hix : ∀ i, i < L.length → ∃ j, j < L.length ∧ (ixOf L (L.getD i 0)).toNat = j ∧ L.getD j 0 = L.getD i 0 := fun i hi => by
    have hm : L.getD i 0 ∈ L := by simp [hi]
    obtain ⟨j, hj, hje⟩ := List.getElem_of_mem hm
    have h1 := ixOf_le L (L.getD i 0)
    have h2 := (ixOf_mem L (L.getD i 0)).2 hm
    refine ⟨_, by omega, rfl, ?_⟩
    have key : ∀ (xs : List Int) (v : Int), 0 ≤ ixOf xs v → xs.getD (ixOf xs v).toNat 0 = v := by
      intro xs v
      induction xs with
      | nil => intro h; simp [ixOf] at h
      | cons z xs ih =>
        intro h
        unfold ixOf at h ⊢
        by_cases hz : z = v
        · simp [hz]
        · rw [if_neg hz] at h ⊢
          by_cases hn : ixOf xs v < 0
          · rw [if_pos hn] at h; omega
          · rw [if_neg hn]
            have := ih (by omega)
            rw [show (ixOf xs v + 1).toNat = (ixOf xs v).toNat + 1 by omega]
            simpa using this
    exact key L _ h2
  have hmap : L' = L.map fun v => L'.getD (ixOf L v).toNat 0 := by
    apply List.ext_getElem
    · simp [hl]
    · intro i h1 h2
      simp only [List.length_map] at h2
      obtain ⟨j, hj, hji, he⟩ := hix i h2
      have hgi : L.getD i 0 = L[i] := by simp [h2]
      rw [List.getElem_map, ← hgi, hji]
      have := (h j i hj h2).1 he
      rw [this]
      simp [h1]
  rw [hmap]
  refine renum_map fun a ha b hb he => ?_
  obtain ⟨i, hi, rfl⟩ := List.getElem_of_mem ha
  obtain ⟨j, hj, rfl⟩ := List.getElem_of_mem hb
  obtain ⟨i', hi', hie, hi2⟩ := hix i hi
  obtain ⟨j', hj', hje, hj2⟩ := hix j hj
  have hgi : L.getD i 0 = L[i] := by simp [hi]
  have hgj : L.getD j 0 = L[j] := by simp [hj]
  rw [hgi] at hie hi2
  rw [hgj] at hje hj2
  simp only [hie, hje] at he
  have := (h i' j' hi' hj').2 he
  rw [← hi2, ← hj2, this]
open Classical in
/-- The numbers of the blocks. -/
noncomputable def blL (ms : List (List Int)) (n : Nat) (x y : Int) : List Int := if h : ∃ L, Bk ms n x y L ∧ Blk ms n x y (act L) then renum h.choose else []
theorem blL_eq {ms : List (List Int)} {n : Nat} {x y : Int} {L : List Int} (h : Bk ms n x y L) (hb : Blk ms n x y (act L)) : renum L = blL ms n x y := by
  have hex : ∃ L, Bk ms n x y L ∧ Blk ms n x y (act L) := ⟨L, h, hb⟩
  rw [blL, dif_pos hex]
  obtain ⟨h2, hb2⟩ := hex.choose_spec
  refine renum_ker (by rw [h.len, h2.len]) fun i j hi hj => ?_
  have l2 := h2.len
  have k1 := h2.ker hb2 (a := i) (b := j) (by omega) (by omega)
  have k2 := h.ker hb (a := i) (b := j) (by omega) (by omega)
  simp only [act, Int.toNat_natCast] at k1 k2
  exact k1.trans k2.symm
/-- Every number is its own block. -/
theorem Bk.start (ms : List (List Int)) (n : Nat) (x y : Int) : Bk ms n x y (idL n) := by
  have ha : ∀ a : Int, (0 ≤ a ∧ a < n) → act (idL n) a = a := fun a h => by
    have : a.toNat < n := by omega
    simp [act, idL, this]
    omega
  refine ⟨by simp, fun v hv => ?_, fun a b h1 h2 he => ?_⟩
  · simp only [idL, List.mem_map, List.mem_range] at hv
    obtain ⟨i, hi, rfl⟩ := hv
    omega
  · rw [ha a h1, ha b h2] at he
    exact he ▸ fun _ _ => rfl
end Go.Mch
/- Elements that act alike are led to elements that act alike: in plain Lean. -/
namespace Go.Mch

/-- A nondegenerate solution, by its maps. -/
structure Nd (n : Nat) (σ τ : Nat → Nat → Nat) : Prop where
  rs : ∀ x y, x < n → y < n → σ x y < n
  rt : ∀ x y, x < n → y < n → τ x y < n
  is : ∀ x y y', x < n → y < n → y' < n → σ x y = σ x y' → y = y'
  it : ∀ x y y', x < n → y < n → y' < n → τ x y = τ x y' → y = y'
  ss : ∀ x w, x < n → w < n → ∃ y, y < n ∧ σ x y = w
  st : ∀ x w, x < n → w < n → ∃ y, y < n ∧ τ x y = w
  e1 : ∀ x y z, x < n → y < n → z < n → σ (σ x y) (σ (τ y x) z) = σ x (σ y z)
  e2 : ∀ x y z, x < n → y < n → z < n → τ (σ (τ y x) z) (σ x y) = σ (τ (σ y z) x) (τ z y)
  e3 : ∀ x y z, x < n → y < n → z < n → τ z (τ y x) = τ (τ z y) (τ (σ y z) x)

/-- Two elements act alike. -/
def Alk (n : Nat) (σ τ : Nat → Nat → Nat) (x x' : Nat) : Prop := ∀ y, y < n → σ x y = σ x' y ∧ τ x y = τ x' y
theorem Nd.c1 {n : Nat} {σ τ : Nat → Nat → Nat} (h : Nd n σ τ) {x y y' : Nat} (hx : x < n) (hy : y < n) (hy' : y' < n) (ha : Alk n σ τ y y') : Alk n σ τ (σ x y) (σ x y') := by
  intro w hw
  have ht := (ha x hx).2
  constructor
  · obtain ⟨z, hz, rfl⟩ := h.ss (τ y x) w (h.rt _ _ hy hx) hw
    have a1 := h.e1 x y z hx hy hz
    have a2 := h.e1 x y' z hx hy' hz
    rw [← ht] at a2
    rw [a1, a2, (ha z hz).1]
  · have a1 := h.e3 w x y hw hx hy
    have a2 := h.e3 w x y' hw hx hy'
    rw [← (ha _ (h.rt x w hx hw)).2, a1, ← ht] at a2
    exact h.it _ _ _ (h.rt _ _ hy hx) (h.rt _ _ (h.rs _ _ hx hy) hw) (h.rt _ _ (h.rs _ _ hx hy') hw) a2
theorem Nd.c2 {n : Nat} {σ τ : Nat → Nat → Nat} (h : Nd n σ τ) {x x' y : Nat} (hx : x < n) (hx' : x' < n) (hy : y < n) (ha : Alk n σ τ x x') : Alk n σ τ (τ y x) (τ y x') := by
  intro w hw
  have hs := (ha y hy).1
  constructor
  · have a1 := h.e1 x y w hx hy hw
    have a2 := h.e1 x' y w hx' hy hw
    rw [← (ha _ (h.rs y w hy hw)).1, ← a1, ← hs] at a2
    exact (h.is _ _ _ (h.rs _ _ hx hy) (h.rs _ _ (h.rt _ _ hy hx') hw) (h.rs _ _ (h.rt _ _ hy hx) hw) a2).symm
  · obtain ⟨u, hu, rfl⟩ := h.st (σ x y) w (h.rs _ _ hx hy) hw
    have a1 := h.e3 u x y hu hx hy
    have a2 := h.e3 u x' y hu hx' hy
    rw [← (ha u hu).2, a1, ← hs] at a2
    exact a2

/-- A quotient: c numbers the classes, d gives an element of each. -/
structure Quo (n m : Nat) (σ τ : Nat → Nat → Nat) (c d : Nat → Nat) : Prop where
  cm : ∀ x, x < n → c x < m
  dn : ∀ i, i < m → d i < n
  cd : ∀ i, i < m → c (d i) = i
  ca : ∀ x x', x < n → x' < n → (c x = c x' ↔ Alk n σ τ x x')
theorem Quo.al {n m : Nat} {σ τ : Nat → Nat → Nat} {c d : Nat → Nat} (q : Quo n m σ τ c d) {x : Nat} (hx : x < n) : Alk n σ τ (d (c x)) x :=
  (q.ca _ _ (q.dn _ (q.cm x hx)) hx).1 (q.cd _ (q.cm x hx))
/-- The maps of the quotient may be read off at any elements. -/
theorem Quo.fs {n m : Nat} {σ τ : Nat → Nat → Nat} {c d : Nat → Nat} (h : Nd n σ τ) (q : Quo n m σ τ c d) {x y : Nat} (hx : x < n) (hy : y < n) : c (σ (d (c x)) (d (c y))) = c (σ x y) := by
  have h1 := q.dn _ (q.cm x hx)
  have h2 := q.dn _ (q.cm y hy)
  rw [(q.al hx _ h2).1]
  exact (q.ca _ _ (h.rs _ _ hx h2) (h.rs _ _ hx hy)).2 (h.c1 hx h2 hy (q.al hy))
end Go.Mch
/- DecompositionOf, of the reference and of the program. -/
namespace Go.Mch

/-- The first k places at which a list has a number with a property. -/
def plK (xs : List Int) (P : Int → Bool) (k : Nat) : List Int := ((List.range k).filter fun i => P (xs.getD i 0)).map fun i : Nat => (i : Int)
def pl (xs : List Int) (P : Int → Bool) : List Int := plK xs P xs.length
end Go.Mch
/- The classes of elements that act alike make a quotient: in plain Lean. -/
namespace Go.Mch

def σN (f : List (List Int)) (x y : Nat) : Nat := (v2 f x y).toNat
def τN (s : List (List Int)) (y x : Nat) : Nat := (v2 s x y).toNat
/-! ### Numbering anew -/

/-! ### The classes -/

/-- The first like elements, of all. -/
def labL (f s : List (List Int)) : List Int := (List.range f.length).map fun i => (lab f (turnL s) i : Int)
@[simp] theorem labL_length (f s : List (List Int)) : (labL f s).length = f.length := by simp [labL]
/-- How many classes there are. -/
def clM (f s : List (List Int)) : Nat := (uniqs (labL f s)).length
def clC (f s : List (List Int)) (x : Nat) : Nat := ((classes f s).getD x 0).toNat
def clD (f s : List (List Int)) (i : Nat) : Nat := (ixOf (labL f s) ((uniqs (labL f s)).getD i 0)).toNat
end Go.Mch
/- The retract of a solution: in plain Lean. -/
namespace Go.Mch

def retF (f s : List (List Int)) : List (List Int) := tabL (clM f s) fun i j => (clC f s (σN f (clD f s i) (clD f s j)) : Int)
def retS (f s : List (List Int)) : List (List Int) := tabL (clM f s) fun i j => (clC f s (τN s (clD f s j) (clD f s i)) : Int)
@[simp] theorem retF_length (f s : List (List Int)) : (retF f s).length = clM f s := by simp [retF]
@[simp] theorem retS_length (f s : List (List Int)) : (retS f s).length = clM f s := by simp [retS]
/-! ### The functions -/

/-- The elements of the classes that have been met. -/
def fsts (f s : List (List Int)) (k : Nat) : List Int := (List.range (uniqs ((labL f s).take k)).length).map fun i => (clD f s i : Int)
@[simp] theorem fsts_length (f s : List (List Int)) (k : Nat) : (fsts f s k).length = (uniqs ((labL f s).take k)).length := by simp [fsts]
end Go.Mch
/- The retract, of the program. -/
namespace Go.Mch

/-! ### Solutions made by values -/

/-! ### The retract -/

def dL (f s : List (List Int)) : List Int := (List.range (clM f s)).map fun i => (clD f s i : Int)
@[simp] theorem dL_length (f s : List (List Int)) : (dL f s).length = clM f s := by simp [dL]
/-! ### RetractOf, of the program -/

end Go.Mch
/- The retract, of the reference. -/
namespace Go.Mch

/-- Pairs of classes that have been met. -/
def cov (f s : List (List Int)) (a b i j : Nat) : Prop := ∃ x y, x < f.length ∧ y < f.length ∧ (x < a ∨ (x = a ∧ y < b)) ∧ clC f s x = i ∧ clC f s y = j
noncomputable def pT (f s R : List (List Int)) (a b : Nat) : List (List Int) := tabL (clM f s) fun i j => if dec (cov f s a b i j) then v2 R i j else 0
@[simp] theorem pT_length (f s R : List (List Int)) (a b : Nat) : (pT f s R a b).length = clM f s := by simp [pT]
end Go.Mch
/- The series of retracts, of the reference and of the program. -/
namespace Go.Mch

/-- A table that is frozen. -/
def frT (X : List (List Int)) : T := .mem .fresh (some 1) (X.map fun xs => .mem .fresh (some 1) (xs.map I))
@[simp] theorem frT_noOwn (X : List (List Int)) : (frT X).noOwn = true := by
  have := (frz_rows_old X).1
  rw [frzL_rows] at this
  simp [frT, this]
@[simp] theorem frT_ery (X : List (List Int)) : (frT X).ery .old = tb X := by
  have := (frz_rows_old X).2
  rw [frzL_rows] at this
  simp [frT, this]
@[simp] theorem frT_peek (X : List (List Int)) (r : Nat) (p : List Nat) : (frT X).peek r p = .val (frT X) := rfl
@[simp] theorem frT_cell (X : List (List Int)) : (frT X).isCell = true := rfl
@[simp] theorem frT_cells (X : List (List Int)) : (frT X).cells = [frT X] := rfl
@[simp] theorem frT_len (X : List (List Int)) : lenV (.val (frT X)) = some X.length := by simp [frT]
/-- A solution and its retracts. -/
def serL : Nat → List (List Int) → List (List Int) → List (List (List Int) × List (List Int))
  | 0, _, _ => []
  | k + 1, f, s => (f, s) :: if clM f s = f.length then [] else serL k (retF f s) (retS f s)
/-- The cells of frozen solutions. -/
def frL (l : List (List (List Int) × List (List Int))) : List T := l.flatMap fun x => [frT x.1, frT x.2]
@[simp] theorem frL_nil : frL [] = [] := rfl
@[simp] theorem frL_cons (x : List (List Int) × List (List Int)) (l : List (List (List Int) × List (List Int))) : frL (x :: l) = frT x.1 :: frT x.2 :: frL l := rfl
end Go.Mch
/- SeriesLabels, of the reference and of the program. -/
namespace Go.Mch

def S_unit (pg : Pg) : Prop := ∀ n : Nat, n ≤ 1048576 → Call pg 334 [I n] [I n] (.mem .own (some 1) ((idL n).map I))
theorem t_unit {pg : Pg} (hp : pg.fn 334 = some c_spec_l01Unit) : S_unit pg := by
  intro n hn
  refine Call.intro hp rfl (by simp) ?_
  show wp _ _ c_spec_l01Unit.body (post [.t 2] _ _ _) _
  simp [c_spec_l01Unit]
  refine wpLoop_count (fun k e => e = fr [(0, some (.val (I n))), (3, some (.val (.mem .own (some 1) ((idL k).map I)))), (4, some (.val (I k)))]) n ?_ ?_ 0 _ (by omega) ?_
  · rintro k e hk rfl
    simp [hk, roomy, idL_succ]
    omega
  · rintro e rfl
    simp
  · simp [idL]

/-- The elements of the solution k of the series to which the elements belong. -/
def slL (f s : List (List Int)) : Nat → List Int
  | 0 => idL f.length
  | k + 1 => thenL (slL f s k) (classes ((serL f.length f s).getD k ([], [])).1 ((serL f.length f s).getD k ([], [])).2)
@[simp] theorem slL_length (f s : List (List Int)) (k : Nat) : (slL f s k).length = f.length := by
  induction k with
  | zero => simp [slL]
  | succ k ih => simp [slL, ih]
/-- The first k numbers of a list, then those of another. -/
def mixL (a b : List Int) (k : Nat) : List Int := a.take k ++ b.drop k
theorem mixL_length (a b : List Int) (k : Nat) (h : a.length = b.length) : (mixL a b k).length = b.length := by simp [mixL]; omega
theorem mixL_get (a b : List Int) {k : Nat} (hk : k < b.length) (h : a.length = b.length) : (mixL a b k)[k]? = some b[k] := by
  have hl : (a.take k).length = k := by simp; omega
  rw [mixL, List.getElem?_append_right (by omega), hl, Nat.sub_self]
  simp [hk]
theorem mixL_set (a b : List Int) {k : Nat} (hk : k < b.length) (h : a.length = b.length) : (mixL a b k).set k (a[k]'(by omega)) = mixL a b (k + 1) := by
  have hl : (a.take k).length = k := by simp; omega
  have ha : k < a.length := by omega
  rw [mixL, mixL, List.drop_eq_getElem_cons hk, List.set_append_right _ _ (by omega), hl, Nat.sub_self, List.set_cons_zero, List.take_succ_eq_append_getElem ha, List.append_assoc]
  rfl
theorem mixL_last (a b : List Int) (h : a.length = b.length) : mixL a b b.length = a := by simp [mixL, ← h]
end Go.Mch
/- Block systems, of the program and of the reference. -/
namespace Go.Mch

/-- The cells of pairs. -/
def prL (P : List (Int × Int)) : List T := P.flatMap fun q => [I q.1, I q.2]
theorem prL_length (P : List (Int × Int)) : (prL P).length = 2 * P.length := by
  induction P with
  | nil => rfl
  | cons q P ih => simp only [prL, List.flatMap_cons, List.length_append, List.length_cons, List.length_nil] at ih ⊢; omega
theorem prL_get (P : List (Int × Int)) {i : Nat} (h : i < P.length) : (prL P)[i * 2]? = some (I P[i].1) ∧ (prL P)[i * 2 + 1]? = some (I P[i].2) := by
  induction P generalizing i with
  | nil => simp at h
  | cons q P ih =>
    cases i with
    | zero => simp [prL]
    | succ i =>
      have := ih (i := i) (by simpa using h)
      rw [show (i + 1) * 2 = i * 2 + 2 from by omega]
      simpa [prL] using this
theorem prL_snoc (P : List (Int × Int)) (a b : Int) : prL (P ++ [(a, b)]) = prL P ++ [I a, I b] := by simp [prL]
/-- What holds when i pairs are done. -/
structure BInv (ms : List (List Int)) (n : Nat) (x y : Int) (L : List Int) (P : List (Int × Int)) (i : Nat) : Prop where
  bk : Bk ms n x y L
  pr : ∀ q ∈ P, (0 ≤ q.1 ∧ q.1 < n) ∧ (0 ≤ q.2 ∧ q.2 < n) ∧ BE ms n x y q.1 q.2
  xy : (x, y) ∈ P
  dn : ∀ j (hj : j < P.length), j < i → act L P[j].1 = act L P[j].2
  cl : ∀ a b : Int, (0 ≤ a ∧ a < n) → (0 ≤ b ∧ b < n) → act L a = act L b → ∀ p ∈ ms, ∀ c : Int → Int, (∀ q ∈ P, c q.1 = c q.2) → c (act p a) = c (act p b)
  le : i ≤ P.length
  sz : P.length + (dis n L).length * ms.length ≤ 1 + n * ms.length
theorem BInv.start (ms : List (List Int)) (n : Nat) {x y : Int} (hx : 0 ≤ x ∧ x < n) (hy : 0 ≤ y ∧ y < n) : BInv ms n x y (idL n) [(x, y)] 0 where
  bk := Bk.start ms n x y
  pr := by
    intro q hq
    simp at hq
    subst hq
    exact ⟨hx, hy, fun c hc => hc.1⟩
  xy := by simp
  dn := by intro j _ hj; omega
  cl := by
    intro a b ha hb he p _ c _
    have hid : ∀ a : Int, (0 ≤ a ∧ a < n) → act (idL n) a = a := fun a h => by
      have : a.toNat < n := by omega
      simp [act, idL, this]
      omega
    rw [hid a ha, hid b hb] at he
    rw [he]
  le := by simp
  sz := by
    have := Nat.mul_le_mul_right ms.length (dis_le n (idL n))
    simp
    omega
theorem BInv.skip {ms : List (List Int)} {n : Nat} {x y : Int} {L : List Int} {P : List (Int × Int)} {i : Nat} (h : BInv ms n x y L P i) (hi : i < P.length) (he : act L P[i].1 = act L P[i].2) : BInv ms n x y L P (i + 1) :=
  ⟨h.bk, h.pr, h.xy, fun j hj hl => by
    by_cases hji : j = i
    · subst hji; exact he
    · exact h.dn j hj (by omega), h.cl, hi, h.sz⟩
theorem BInv.fin {ms : List (List Int)} {n : Nat} {x y : Int} {L : List Int} {P : List (Int × Int)} {i : Nat} (h : BInv ms n x y L P i) (hi : ¬ i < P.length) : Blk ms n x y (act L) := by
  have hall : ∀ q ∈ P, act L q.1 = act L q.2 := fun q hq => by
    obtain ⟨j, hj, rfl⟩ := List.getElem_of_mem hq
    exact h.dn j hj (by omega)
  exact ⟨hall _ h.xy, fun a b ha hb he p hp => h.cl a b ha hb he p hp _ hall⟩
theorem BInv.merge {ms : List (List Int)} {n : Nat} {x y : Int} {L : List Int} {P : List (Int × Int)} {i : Nat} (hm : Prms n ms) (h : BInv ms n x y L P i) (hi : i < P.length) {u v : Int} (hne : u ≠ v)
    (huv : (act L P[i].1 = u ∧ act L P[i].2 = v) ∨ (act L P[i].2 = u ∧ act L P[i].1 = v)) :
    BInv ms n x y (mg L u v) (P ++ ms.map fun p => (act p P[i].1, act p P[i].2)) (i + 1) ∧ (dis n (mg L u v)).length * ms.length + ms.length ≤ (dis n L).length * ms.length := by
  obtain ⟨ra, rb, hbe⟩ := h.pr _ (List.getElem_mem hi)
  generalize hA : P[i].1 = a at *
  generalize hB : P[i].2 = b at *
  have hl := h.bk.len
  have hdis : (dis n (mg L u v)).length < (dis n L).length := by
    have m1 : act L a ∈ L := act_mem (by omega)
    have m2 : act L b ∈ L := act_mem (by omega)
    rcases huv with ⟨h1, h2⟩ | ⟨h1, h2⟩
    · rw [h1] at m1; rw [h2] at m2
      exact dis_lt m1 m2 hne (h.bk.rng _ m1)
    · rw [h1] at m2; rw [h2] at m1
      exact dis_lt m2 m1 hne (h.bk.rng _ m2)
  have hmul : (dis n (mg L u v)).length * ms.length + ms.length ≤ (dis n L).length * ms.length := by
    rw [← Nat.succ_mul]
    exact Nat.mul_le_mul_right _ hdis
  have hab : act (mg L u v) a = act (mg L u v) b := by
    rcases huv with ⟨h1, h2⟩ | ⟨h1, h2⟩
    · exact mg_both (by omega) (by omega) h1 h2
    · exact (mg_both (by omega) (by omega) h1 h2).symm
  refine ⟨⟨?_, ?_, ?_, ?_, ?_, ?_, ?_⟩, hmul⟩
  · rcases huv with ⟨h1, h2⟩ | ⟨h1, h2⟩
    · exact h.bk.merge ra rb hbe h1 h2
    · exact h.bk.merge rb ra hbe.symm h1 h2
  · intro q hq
    rcases List.mem_append.1 hq with hq | hq
    · exact h.pr q hq
    · obtain ⟨p, hp, rfl⟩ := List.mem_map.1 hq
      exact ⟨act_rng hm hp ra, act_rng hm hp rb, hbe.step ra rb hp⟩
  · exact List.mem_append.2 (.inl h.xy)
  · intro j hj hl2
    rw [List.getElem_append_left (by omega)]
    by_cases hji : j = i
    · subst hji; rw [hA, hB]; exact hab
    · obtain ⟨r1, r2, _⟩ := h.pr _ (List.getElem_mem (show j < P.length by omega))
      exact mg_eq (by omega) (by omega) (h.dn j (by omega) (by omega))
  · intro c d hc hd he p hp k hk
    have hkP : ∀ q ∈ P, k q.1 = k q.2 := fun q hq => hk q (List.mem_append.2 (.inl hq))
    have hkn : k (act p a) = k (act p b) := hk (act p a, act p b) (List.mem_append.2 (.inr (List.mem_map.2 ⟨p, hp, rfl⟩)))
    have main : ∀ c d : Int, (0 ≤ c ∧ c < n) → (0 ≤ d ∧ d < n) → act L c = act L a → act L d = act L b → k (act p c) = k (act p d) := fun c d hc hd h1 h2 =>
      ((h.cl c a hc ra h1 p hp k hkP).trans hkn).trans (h.cl b d rb hd h2.symm p hp k hkP)
    rcases mg_ker (by omega) (by omega) he with h1 | ⟨h1, h2⟩ | ⟨h1, h2⟩
    · exact h.cl c d hc hd h1 p hp k hkP
    · rcases huv with ⟨h3, h4⟩ | ⟨h3, h4⟩
      · exact main c d hc hd (h1.trans h3.symm) (h2.trans h4.symm)
      · exact (main d c hd hc (h2.trans h4.symm) (h1.trans h3.symm)).symm
    · rcases huv with ⟨h3, h4⟩ | ⟨h3, h4⟩
      · exact (main d c hd hc (h2.trans h3.symm) (h1.trans h4.symm)).symm
      · exact main c d hc hd (h1.trans h4.symm) (h2.trans h3.symm)
  · simp; omega
  · have := h.sz
    simp
    omega
def S_blocks (pg : Pg) (n : Nat) : Prop := ∀ (f s : List (List Int)) (x y : Int), PM f s → nonDeg f s → (0 ≤ x ∧ x < f.length) → (0 ≤ y ∧ y < f.length) → Call pg n [sol f s, I x, I y] [sol f s, I x, I y] (.mem .own (some 1) ((blL (f ++ turnL s) f.length x y).map I))
set_option maxRecDepth 10000 in
theorem t_blockSystem {pg : Pg} (hp : pg.fn 330 = some c_impl_blockSystem) (h335 : S_identity pg) (h271 : S_whole pg) (h386 : S_renum pg 386) : S_blocks pg 330 := by
  intro f s x y h hnd hx hy
  have h12 := h.small
  have h0 := h.pos
  have hpr := prms_of h hnd
  have hcall := h271 f s h
  have hml : (f ++ turnL s).length ≤ 24 := by
    have := h.len
    simp
    omega
  refine Call.intro hp rfl (by simp) ?_
  show wp _ _ c_impl_blockSystem.body (post [.t 6] _ _ _) _
  simp [c_impl_blockSystem]
  refine callR (h335 f.length (by omega)) rfl rfl (fun _ => by simp) ?_
  simp
  generalize f ++ turnL s = ms at *
  refine wpLoop_lower (α := List Int × List (Int × Int) × Nat) (fun z => (dis f.length z.1).length * ms.length + (z.2.1.length - z.2.2)) (fun z e => BInv ms f.length x y z.1 z.2.1 z.2.2 ∧
    e = fr [(3, some (.val (.mem .own none [tb f, tb s]))), (7, some (.val (.mem .own (some 1) (z.1.map I)))), (8, some (.val (.mem .own (some 2) (prL z.2.1)))), (9, some (.val (I z.2.2)))]) ?_ (idL f.length, [(x, y)], 0) _ ⟨BInv.start ms f.length hx hy, by simp [prL]⟩
  rintro ⟨L, P, i⟩ e ⟨g, rfl⟩
  simp only at g
  have hPl := prL_length P
  have hb : f.length * ms.length ≤ 12 * 24 := Nat.mul_le_mul h12 hml
  have hsz := g.sz
  have hle := g.le
  have hm2 : (prL P).length / 2 = P.length := by omega
  by_cases hi : i < P.length
  · obtain ⟨q1, q2⟩ := prL_get P hi
    obtain ⟨k1, k2, k3⟩ := g.pr _ (List.getElem_mem hi)
    have hskip := g.skip hi
    have hmerge := fun {u v : Int} hne huv => g.merge hpr hi (u := u) (v := v) hne huv
    generalize hqa : P[i].1 = a at *
    generalize hqb : P[i].2 = b at *
    have hLl := g.bk.len
    have hla : a.toNat < L.length := by omega
    have hlb : b.toNat < L.length := by omega
    have hla2 : a < L.length := by omega
    have hlb2 : b < L.length := by omega
    have hga : L[a.toNat] = act L a := by simp [act, hla]
    have hgb : L[b.toNat] = act L b := by simp [act, hlb]
    simp [hm2, hi, q1, q2, k1, k2, hla, hlb, hla2, hlb2, hga, hgb]
    refine ⟨by omega, by omega, ?_⟩
    by_cases he : act L a = act L b
    · have e1 : mmI true (act L a) (act L b) = mmI false (act L a) (act L b) := by simp [mmI, he]
      rw [if_pos e1]
      exact ⟨by omega, L, P, i + 1, by omega, hskip he, by simp⟩
    · have e1 : mmI true (act L a) (act L b) ≠ mmI false (act L a) (act L b) := by
        simp only [mmI]
        split <;> split <;> simp_all <;> omega
      rw [if_neg e1]
      have e2 : (act L a = mmI true (act L a) (act L b) ∧ act L b = mmI false (act L a) (act L b)) ∨ (act L b = mmI true (act L a) (act L b) ∧ act L a = mmI false (act L a) (act L b)) := by
        by_cases hlt : act L a < act L b
        · have : ¬ act L b < act L a := by omega
          right; simp [mmI, hlt, this]
        · have : act L b < act L a := by omega
          left; simp [mmI, hlt, this]
      generalize mmI true (act L a) (act L b) = u at *
      generalize mmI false (act L a) (act L b) = v at *
      obtain ⟨n1, n2⟩ := hmerge e1 e2
      refine wpLoop_count (fun c e => e = fr [(3, some (.val (.mem .own none [tb f, tb s]))), (7, some (.val (.mem .own (some 1) ((mixL (mg L u v) L c).map I)))), (8, some (.val (.mem .own (some 2) (prL P)))), (9, some (.val (I i))), (10, some (.val (I a))), (11, some (.val (I b))), (12, some (.val (I u))), (13, some (.val (I v))), (63, some (.sref 7 [] 1 0 L.length)), (64, some (.val (I L.length))), (65, some (.val (I c)))]) L.length ?_ ?_ 0 _ (by omega) ?_
      · rintro c e hc rfl
        have g1 := mixL_length (mg L u v) L c (by simp)
        have g2 := mixL_get (mg L u v) L hc (by simp)
        have g3 := mixL_set (mg L u v) L hc (by simp)
        have g4 : (mg L u v)[c]'(by simpa using hc) = if L[c] = u then v else L[c] := by simp [mg]
        by_cases hcu : L[c] = u
        · rw [if_pos hcu] at g4
          rw [← g3, g4]
          clear g3
          generalize mixL (mg L u v) L c = Y at *
          have hjY : c < Y.length := by omega
          have g5 : Y[c] = L[c] := by rw [List.getElem?_eq_getElem hjY] at g2; exact Option.some.inj g2
          simp [g1, hc, g5, hcu]
          omega
        · rw [if_neg hcu] at g4
          have g6 : mixL (mg L u v) L (c + 1) = mixL (mg L u v) L c := by
            rw [← g3, g4]
            have hjY : c < (mixL (mg L u v) L c).length := by omega
            have g5 : (mixL (mg L u v) L c)[c] = L[c] := by rw [List.getElem?_eq_getElem hjY] at g2; exact Option.some.inj g2
            rw [← g5]
            simp
          rw [g6]
          clear g3 g6
          generalize mixL (mg L u v) L c = Y at *
          have hjY : c < Y.length := by omega
          have g5 : Y[c] = L[c] := by rw [List.getElem?_eq_getElem hjY] at g2; exact Option.some.inj g2
          simp [g1, hc, g5, hcu]
          omega
      · rintro e rfl
        have g1 := mixL_last (mg L u v) L (by simp)
        simp [g1]
        refine callR hcall rfl rfl (fun hh => by simp at hh) ?_
        simp
        refine wpLoop_count (fun q e => e = fr [(3, some (.val (.mem .own none [tb f, tb s]))), (7, some (.val (.mem .own (some 1) ((mg L u v).map I)))), (8, some (.val (.mem .own (some 2) (prL (P ++ (ms.take q).map fun p => (act p a, act p b)))))), (9, some (.val (I i))), (10, some (.val (I a))), (11, some (.val (I b))), (79, some (.val (.mem .own (some 1) (tbL ms)))), (80, some (.val (I ms.length))), (81, some (.val (I q)))]) ms.length ?_ ?_ 0 _ (by omega) ?_
        · rintro q e hq rfl
          have hpm : ms[q] ∈ ms := List.getElem_mem hq
          have hpl := (hpr _ hpm).1
          have hPq := prL_length (P ++ (ms.take q).map fun p => (act p a, act p b))
          have hPl2 : (P ++ (ms.take q).map fun p => (act p a, act p b)).length = P.length + q := by simp; omega
          rw [List.take_succ_eq_append_getElem hq, List.map_append, ← List.append_assoc, List.map_singleton, prL_snoc]
          generalize prL (P ++ (ms.take q).map fun p => (act p a, act p b)) = M at *
          have ha1 : a.toNat < (ms[q]).length := by omega
          have hb1 : b.toNat < (ms[q]).length := by omega
          have ha2 : a < (ms[q]).length := by omega
          have hb2 : b < (ms[q]).length := by omega
          have hga2 : (ms[q])[a.toNat] = act ms[q] a := by simp [act, ha1]
          have hgb2 : (ms[q])[b.toNat] = act ms[q] b := by simp [act, hb1]
          have hM2 : M.length / 2 * 2 = M.length := by omega
          have hw : win M 0 M.length = M := by unfold win; simp
          have hw2 : win (M ++ [I (act ms[q] a), I (act ms[q] b)]) 0 (M.length + 2) = M ++ [I (act ms[q] a), I (act ms[q] b)] := by
            unfold win; exact List.take_of_length_le (by simp)
          have hM3 : (M.length / 2 + 1) * 2 = M.length + 2 := by omega
          simp [hq, k1, k2, ha1, hb1, ha2, hb2, hga2, hgb2, hM2, hw, hM3, hw2, roomy]
          omega
        · rintro e rfl
          simp
          exact ⟨by omega, mg L u v, P ++ ms.map (fun p => (act p a, act p b)), i + 1, by simp; omega, n1, by simp⟩
        · simp
      · simp [mixL]
  · have hfin := blL_eq g.bk (g.fin hi)
    have hLl := g.bk.len
    simp [hm2, hi]
    refine callR (h386 L (by omega)) rfl rfl (fun _ => by simp) ?_
    simp [hfin]
end Go.Mch
/- Block systems, of the reference. -/
namespace Go.Mch

/-- What holds within a round over all pairs: L0 is what the round began with, m tells whether something was changed, Q what is known if not. -/
structure PS (ms : List (List Int)) (n : Nat) (x y : Int) (L0 : List Int) (Q : Prop) (L : List Int) (m : Bool) : Prop where
  bk : Bk ms n x y L
  xy : act L x = act L y
  lt : m = true → (dis n L).length < (dis n L0).length
  eq : m = false → L = L0 ∧ Q
theorem PS.weak {ms : List (List Int)} {n : Nat} {x y : Int} {L0 : List Int} {Q Q' : Prop} {L : List Int} {m : Bool} (h : PS ms n x y L0 Q L m) (hq : L = L0 → Q → Q') : PS ms n x y L0 Q' L m :=
  ⟨h.bk, h.xy, h.lt, fun hm => ⟨(h.eq hm).1, hq (h.eq hm).1 (h.eq hm).2⟩⟩
theorem PS.merge {ms : List (List Int)} {n : Nat} {x y : Int} {L0 : List Int} {Q Q' : Prop} {L : List Int} {m : Bool} (hpr : Prms n ms) (hx : 0 ≤ x ∧ x < n) (hy : 0 ≤ y ∧ y < n) (h : PS ms n x y L0 Q L m) {a b : Int} (ha : 0 ≤ a ∧ a < n) (hb : 0 ≤ b ∧ b < n) (he : act L a = act L b) {p : List Int} (hp : p ∈ ms) {u v : Int} (hu : act L (act p a) = u) (hv : act L (act p b) = v) (hne : u ≠ v) :
    PS ms n x y L0 Q' (mg L u v) true ∧ act (mg L u v) a = act (mg L u v) b ∧ u ∈ L := by
  have hl := h.bk.len
  have ra := act_rng hpr hp ha
  have rb := act_rng hpr hp hb
  have m1 : u ∈ L := hu ▸ act_mem (by omega)
  have m2 : v ∈ L := hv ▸ act_mem (by omega)
  have hd := dis_lt m1 m2 hne (h.bk.rng _ m1)
  refine ⟨⟨h.bk.merge ra rb ((h.bk.snd a b ha hb he).step ha hb hp) hu hv, mg_eq (by omega) (by omega) h.xy, fun _ => ?_, fun hh => by cases hh⟩, mg_eq (by omega) (by omega) he, m1⟩
  cases m with
  | true => exact Nat.lt_trans hd (h.lt rfl)
  | false => rw [(h.eq rfl).1] at hd ⊢; exact hd
/-- The pairs below a are led to pairs of one number. -/
def QA (ms : List (List Int)) (L : List Int) (a : Nat) : Prop := ∀ a', a' < a → ∀ b', b' < a' → act L (a' : Nat) = act L (b' : Nat) → ∀ p ∈ ms, act L (act p (a' : Nat)) = act L (act p (b' : Nat))
def QB (ms : List (List Int)) (L : List Int) (a b : Nat) : Prop := QA ms L a ∧ ∀ b', b' < b → act L (a : Nat) = act L (b' : Nat) → ∀ p ∈ ms, act L (act p (a : Nat)) = act L (act p (b' : Nat))
def QK (ms : List (List Int)) (L : List Int) (a b k : Nat) : Prop := QB ms L a b ∧ ∀ p ∈ ms.take k, act L (act p (a : Nat)) = act L (act p (b : Nat))
theorem QA.zero (ms : List (List Int)) (L : List Int) : QA ms L 0 := fun _ h => by omega
theorem QA.b {ms : List (List Int)} {L : List Int} {a : Nat} (h : QA ms L a) : QB ms L a 0 := ⟨h, fun _ h => by omega⟩
theorem QB.k {ms : List (List Int)} {L : List Int} {a b : Nat} (h : QB ms L a b) : QK ms L a b 0 := ⟨h, fun p hp => by simp at hp⟩
theorem QB.a {ms : List (List Int)} {L : List Int} {a : Nat} (h : QB ms L a a) : QA ms L (a + 1) := fun a' ha b' hb he p hp => by
  by_cases hh : a' = a
  · subst hh; exact h.2 b' hb he p hp
  · exact h.1 a' (by omega) b' hb he p hp
theorem QB.skip {ms : List (List Int)} {L : List Int} {a b : Nat} (h : QB ms L a b) (hne : act L (a : Nat) ≠ act L (b : Nat)) : QB ms L a (b + 1) := ⟨h.1, fun b' hb he p hp => by
  by_cases hh : b' = b
  · subst hh; exact absurd he hne
  · exact h.2 b' (by omega) he p hp⟩
theorem QK.b {ms : List (List Int)} {L : List Int} {a b : Nat} (h : QK ms L a b ms.length) : QB ms L a (b + 1) := ⟨h.1.1, fun b' hb he p hp => by
  by_cases hh : b' = b
  · subst hh; exact h.2 p (by simpa using hp)
  · exact h.1.2 b' (by omega) he p hp⟩
theorem QK.next {ms : List (List Int)} {L : List Int} {a b k : Nat} (h : QK ms L a b k) (hk : k < ms.length) (he : act L (act ms[k] (a : Nat)) = act L (act ms[k] (b : Nat))) : QK ms L a b (k + 1) := ⟨h.1, fun p hp => by
  rw [List.take_succ_eq_append_getElem hk] at hp
  rcases List.mem_append.1 hp with h1 | h1
  · exact h.2 p h1
  · simp at h1; subst h1; exact he⟩
theorem QA.blk {ms : List (List Int)} {n : Nat} {L : List Int} {x y : Int} (h : QA ms L n) (hxy : act L x = act L y) : Blk ms n x y (act L) := by
  refine ⟨hxy, fun a b ha hb he p hp => ?_⟩
  have e1 : ((a.toNat : Nat) : Int) = a := by omega
  have e2 : ((b.toNat : Nat) : Int) = b := by omega
  rcases Nat.lt_trichotomy a.toNat b.toNat with hl | hl | hl
  · have := h b.toNat (by omega) a.toNat hl (by rw [e1, e2]; exact he.symm) p hp
    rw [e1, e2] at this
    exact this.symm
  · have : a = b := by omega
    rw [this]
  · have := h a.toNat (by omega) b.toNat hl (by rw [e1, e2]; exact he) p hp
    rw [e1, e2] at this
    exact this
theorem idL_act {n : Nat} {a : Int} (h : 0 ≤ a ∧ a < n) : act (idL n) a = a := by
  have : a.toNat < n := by omega
  simp [act, idL, this]
  omega
theorem idL_set {n : Nat} {x y : Int} (hy : 0 ≤ y ∧ y < n) : (idL n).set y.toNat x = mg (idL n) y x := by
  apply List.ext_getElem
  · simp
  · intro i h1 h2
    simp only [List.getElem_set, mg, List.getElem_map, idL, List.getElem_range]
    by_cases hi : y.toNat = i
    · have : (i : Int) = y := by omega
      rw [if_pos hi, if_pos this]
    · have : ¬ (i : Int) = y := by omega
      rw [if_neg hi, if_neg this]
theorem blocks_start (ms : List (List Int)) {n : Nat} {x y : Int} (hx : 0 ≤ x ∧ x < n) (hy : 0 ≤ y ∧ y < n) : Bk ms n x y (mg (idL n) y x) ∧ act (mg (idL n) y x) x = act (mg (idL n) y x) y := by
  refine ⟨(Bk.start ms n x y).merge hy hx (fun c hc => hc.1.symm) (idL_act hy) (idL_act hx), ?_⟩
  exact (mg_both (by simp; omega) (by simp; omega) (idL_act hy) (idL_act hx)).symm
def ExB (Q : Bool → Prop) : Prop := ∃ m, Q m
theorem ExB.mk {Q : Bool → Prop} (m : Bool) (h : Q m) : ExB Q := ⟨m, h⟩
/-- Some numbers and a mark: hidden from simp. -/
def ExN (Q : List Int → Bool → Prop) : Prop := ∃ L m, Q L m
theorem ExN.mk {Q : List Int → Bool → Prop} (L : List Int) (m : Bool) (h : Q L m) : ExN Q := ⟨L, m, h⟩
set_option maxRecDepth 10000 in
theorem t_l07Blocks {pg : Pg} (hp : pg.fn 329 = some c_spec_l07Blocks) (h334 : S_unit pg) (h273 : S_both pg) (h385 : S_renum pg 385) : S_blocks pg 329 := by
  intro f s x y h hnd hx hy
  have h12 := h.small
  have h0 := h.pos
  have hpr := prms_of h hnd
  have hcall := h273 f s h
  have hml : (f ++ turnL s).length ≤ 24 := by
    have := h.len
    simp
    omega
  refine Call.intro hp rfl (by simp) ?_
  show wp _ _ c_spec_l07Blocks.body (post [.t 6] _ _ _) _
  simp [c_spec_l07Blocks]
  refine callR hcall rfl rfl (fun _ => by simp) ?_
  simp
  refine callR (h334 f.length (by omega)) rfl rfl (fun _ => by simp) ?_
  simp [hy]
  have hset := idL_set (x := x) hy
  obtain ⟨b1, b2⟩ := blocks_start (f ++ turnL s) hx hy
  generalize f ++ turnL s = ms at *
  refine ⟨by omega, ?_⟩
  refine wpLoop_lower (α := List Int × Bool) (fun z => 2 * (dis f.length z.1).length + (if z.2 then 1 else 0)) (fun z e => (Bk ms f.length x y z.1 ∧ act z.1 x = act z.1 y ∧ (z.2 = false → Blk ms f.length x y (act z.1))) ∧
    (e = fr [(7, some (.val (.mem .own (some 1) (rows ms)))), (8, some (.val (.mem .own (some 1) (z.1.map I)))), (9, some (.val (B z.2)))] ∨
     e = fr [(7, some (.val (.mem .own (some 1) (rows ms)))), (8, some (.val (.mem .own (some 1) (z.1.map I)))), (9, some (.val (B z.2))), (10, some (.val (I f.length))), (30, some (.val (B false)))])) ?_ (mg (idL f.length) y x, true) _ ⟨⟨b1, b2, fun hh => by cases hh⟩, .inl (by rw [← hset]; simp)⟩
  rintro ⟨L0, m0⟩ e ⟨⟨c1, c2, c3⟩, he⟩
  simp only at c1 c2 c3 he
  have hL0 := c1.len
  cases m0 with
  | false =>
    have hfin := blL_eq c1 (c3 rfl)
    have hr := h385 L0 (by omega)
    rcases he with rfl | rfl
    · simp
      refine callR hr rfl rfl (fun _ => by simp) ?_
      simp [hfin]
    · simp
      refine callR hr rfl rfl (fun _ => by simp) ?_
      simp [hfin]
  | true =>
    clear c3
    rcases he with rfl | rfl
    all_goals
      simp
      refine wpLoop_count (fun a e => ExN fun L m => PS ms f.length x y L0 (QA ms L0 a) L m ∧ e = fr [(7, some (.val (.mem .own (some 1) (rows ms)))), (8, some (.val (.mem .own (some 1) (L.map I)))), (9, some (.val (B m))), (10, some (.val (I a)))]) f.length ?_ ?_ 0 _ (by omega) (ExN.mk L0 false ⟨⟨c1, c2, (fun hh => by cases hh), (fun _ => ⟨rfl, QA.zero _ _⟩)⟩, by simp⟩)
      · rintro a e ha ⟨L, m, g, rfl⟩
        have hL := g.bk.len
        simp [hL, ha]
        refine wpLoop_count (fun b e => ExN fun L m => PS ms f.length x y L0 (QB ms L0 a b) L m ∧ e = fr [(7, some (.val (.mem .own (some 1) (rows ms)))), (8, some (.val (.mem .own (some 1) (L.map I)))), (9, some (.val (B m))), (10, some (.val (I a))), (11, some (.val (I b)))]) a ?_ ?_ 0 _ (by omega) (ExN.mk L m ⟨g.weak fun _ => QA.b, by simp⟩)
        · rintro b e hb ⟨L, m, g, rfl⟩
          have hL := g.bk.len
          have hal : a < L.length := by omega
          have hbl : b < L.length := by omega
          have hga : L[a] = act L (a : Nat) := by simp [act, hal]
          have hgb : L[b] = act L (b : Nat) := by simp [act, hbl]
          have hbf : b < f.length := by omega
          simp [hL, ha, hb, hbf, hga, hgb]
          by_cases hab : act L (a : Nat) = act L (b : Nat)
          · rw [if_pos hab]
            refine wpLoop_count (fun k e => ExN fun L m => (PS ms f.length x y L0 (QK ms L0 a b k) L m ∧ act L (a : Nat) = act L (b : Nat)) ∧ e = fr [(7, some (.val (.mem .own (some 1) (rows ms)))), (8, some (.val (.mem .own (some 1) (L.map I)))), (9, some (.val (B m))), (10, some (.val (I a))), (11, some (.val (I b))), (12, some (.val (I k)))]) ms.length ?_ ?_ 0 _ (by omega) (ExN.mk L m ⟨⟨g.weak fun _ => QB.k, hab⟩, by simp⟩)
            · clear hga hgb hab hal hbl hL g
              rintro k e hk ⟨L, m, ⟨g, hab⟩, rfl⟩
              have hL := g.bk.len
              have hpm : ms[k] ∈ ms := List.getElem_mem hk
              have hpl := (hpr _ hpm).1
              have ra := act_rng hpr hpm (x := (a : Nat)) (by omega)
              have rb := act_rng hpr hpm (x := (b : Nat)) (by omega)
              have hga : (ms[k])[a]'(by omega) = act ms[k] (a : Nat) := by simp [act, hpl, ha]
              have hgb : (ms[k])[b]'(by omega) = act ms[k] (b : Nat) := by simp [act, hpl, hbf]
              have hnext := fun he => g.weak (Q' := QK ms L0 a b (k + 1)) fun hl q => q.next hk (by rw [← hl]; exact he)
              have hmerge := fun {u v : Int} hu hv hne => PS.merge (Q' := QK ms L0 a b (k + 1)) hpr hx hy g (a := (a : Nat)) (b := (b : Nat)) (by omega) (by omega) hab hpm (u := u) (v := v) hu hv hne
              generalize act ms[k] (a : Nat) = pa at *
              generalize act ms[k] (b : Nat) = pb at *
              have hla : pa.toNat < L.length := by omega
              have hlb : pb.toNat < L.length := by omega
              have hga2 : L[pa.toNat] = act L pa := by simp [act, hla]
              have hgb2 : L[pb.toNat] = act L pb := by simp [act, hlb]
              simp [hk, hpl, ha, hbf, hga, hgb, hga2, hgb2, ra, rb, hL]
              by_cases huv : act L pa = act L pb
              · have hq := hnext huv
                rw [huv]
                refine wpLoop_count (fun c e => e = fr [(7, some (.val (.mem .own (some 1) (rows ms)))), (8, some (.val (.mem .own (some 1) (L.map I)))), (9, some (.val (B m))), (10, some (.val (I a))), (11, some (.val (I b))), (12, some (.val (I k))), (13, some (.val (I (act L pb)))), (14, some (.val (I (act L pb)))), (15, some (.val (I 0)))]) 0 (fun k e hk => by omega) ?_ 0 _ (by omega) ?_
                · rintro e rfl
                  have hp0 : 0 < L.length := by omega
                  simp [hp0]
                  exact ⟨by omega, ExN.mk L m ⟨⟨hq, hab⟩, by simp⟩⟩
                · simp
              · obtain ⟨n1, n2, n3⟩ := hmerge rfl rfl huv
                clear hmerge hnext hga hgb hga2 hgb2
                generalize act L pa = u at *
                generalize act L pb = v at *
                refine wpLoop_count (fun c e => ExB fun m' => (m' = true ∨ (m' = m ∧ ∀ j (hj : j < L.length), j < c → L[j] ≠ u)) ∧ e = fr [(7, some (.val (.mem .own (some 1) (rows ms)))), (8, some (.val (.mem .own (some 1) ((mixL (mg L u v) L c).map I)))), (9, some (.val (B m'))), (10, some (.val (I a))), (11, some (.val (I b))), (12, some (.val (I k))), (13, some (.val (I u))), (14, some (.val (I v))), (15, some (.val (I c)))]) L.length ?_ ?_ 0 _ (by omega) (ExB.mk m ⟨.inr ⟨rfl, fun j _ hj => by omega⟩, by simp [mixL]⟩)
                · rintro c e hc ⟨m', hm', rfl⟩
                  have g1 := mixL_length (mg L u v) L c (by simp)
                  have g2 := mixL_get (mg L u v) L hc (by simp)
                  have g3 := mixL_set (mg L u v) L hc (by simp)
                  have g4 : (mg L u v)[c]'(by simpa using hc) = if L[c] = u then v else L[c] := by simp [mg]
                  by_cases hcu : L[c] = u
                  · rw [if_pos hcu] at g4
                    rw [g4] at g3
                    generalize mixL (mg L u v) L c = Y at *
                    have hjY : c < Y.length := by omega
                    have g5 : Y[c] = L[c] := by rw [List.getElem?_eq_getElem hjY] at g2; exact Option.some.inj g2
                    simp [g1, hc, g5, hcu, huv]
                    exact ⟨by omega, by omega, ExB.mk true ⟨.inl rfl, by rw [← g3]; simp⟩⟩
                  · rw [if_neg hcu] at g4
                    have g6 : mixL (mg L u v) L (c + 1) = mixL (mg L u v) L c := by
                      rw [← g3, g4]
                      have hjY : c < (mixL (mg L u v) L c).length := by omega
                      have g5 : (mixL (mg L u v) L c)[c] = L[c] := by rw [List.getElem?_eq_getElem hjY] at g2; exact Option.some.inj g2
                      rw [← g5]
                      simp
                    rw [g6]
                    clear g3 g6
                    generalize mixL (mg L u v) L c = Y at *
                    have hjY : c < Y.length := by omega
                    have g5 : Y[c] = L[c] := by rw [List.getElem?_eq_getElem hjY] at g2; exact Option.some.inj g2
                    simp [g1, hc, g5, hcu, huv]
                    refine ⟨by omega, ExB.mk m' ⟨?_, by simp⟩⟩
                    rcases hm' with h1 | ⟨h1, h2⟩
                    · exact .inl h1
                    · refine .inr ⟨h1, fun j hj hl => ?_⟩
                      by_cases hjc : j = c
                      · subst hjc; exact hcu
                      · exact h2 j hj (by omega)
                · rintro e ⟨m', hm', rfl⟩
                  have g1 := mixL_last (mg L u v) L (by simp)
                  have hmt : m' = true := by
                    rcases hm' with h1 | ⟨h1, h2⟩
                    · exact h1
                    · obtain ⟨j, hj, hju⟩ := List.getElem_of_mem n3
                      exact absurd hju (h2 j hj hj)
                  subst hmt
                  simp [g1, undefV]
                  exact ⟨by omega, ExN.mk (mg L u v) true ⟨⟨n1, n2⟩, by simp⟩⟩
            · rintro e ⟨L, m, ⟨g, hab⟩, rfl⟩
              simp
              refine ⟨by omega, ExN.mk L m ⟨g.weak fun _ => QK.b, by simp⟩⟩
          · rw [if_neg hab]
            refine ⟨by omega, ExN.mk L m ⟨g.weak fun hl q => q.skip (by rw [← hl]; exact hab), by simp⟩⟩
        · rintro e ⟨L, m, g, rfl⟩
          simp
          refine ⟨by omega, ExN.mk L m ⟨g.weak fun _ => QB.a, by simp⟩⟩
      · rintro e ⟨L, m, g, rfl⟩
        have hL := g.bk.len
        have hlt := g.lt
        have heq := g.eq
        have hxy := g.xy
        have hbk := g.bk
        clear g
        cases m with
        | false =>
          obtain ⟨rfl, q⟩ := heq rfl
          simp [hL]
          exact ⟨L, .inl ⟨by omega, ⟨hbk, hxy, q.blk hxy⟩, .inr (by simp)⟩⟩
        | true =>
          simp [hL]
          exact ⟨L, .inr ⟨hlt rfl, ⟨hbk, hxy⟩, .inr (by simp)⟩⟩
end Go.Mch
/- FixedElements, of the reference and of the program. -/
namespace Go.Mch

theorem le_greatest : ∀ (xs : List Int) {x : Int}, x ∈ xs → x + 1 ≤ greatest xs := by
  intro xs x hx
  have key : ∀ (l : List Int) (a : Int), a ≤ l.foldl (fun a x => if a ≤ x then x + 1 else a) a ∧ ∀ y ∈ l, y + 1 ≤ l.foldl (fun a x => if a ≤ x then x + 1 else a) a := by
    intro l
    induction l with
    | nil => intro a; simp
    | cons z l ih =>
      intro a
      simp only [List.foldl_cons]
      obtain ⟨i1, i2⟩ := ih (if a ≤ z then z + 1 else a)
      refine ⟨?_, ?_⟩
      · split at i1 <;> rename_i hh
        · rw [if_pos hh]; omega
        · rw [if_neg hh]; omega
      · intro y hy
        rcases List.mem_cons.1 hy with rfl | hy
        · split at i1 <;> rename_i hh
          · rw [if_pos hh]; omega
          · rw [if_neg hh]; omega
        · exact i2 y hy
  exact (key xs 0).2 x hx
theorem greatest_nn (xs : List Int) (_ : ∀ x ∈ xs, 0 ≤ x) : 0 ≤ greatest xs := by
  have key : ∀ (l : List Int) (a : Int), a ≤ l.foldl (fun a x => if a ≤ x then x + 1 else a) a := by
    intro l
    induction l with
    | nil => intro a; simp
    | cons z l ih =>
      intro a
      simp only [List.foldl_cons]
      refine Int.le_trans ?_ (ih _)
      split <;> omega
  exact key xs 0
end Go.Mch
/- BlockSystemOf, IsPrimitiveSolution, of the reference and of the program. -/
namespace Go.Mch

def bsOk (n : Nat) (x y : Int) : Prop := (0 ≤ x ∧ x ≤ (n : Int) - 1) ∧ (0 ≤ y ∧ y ≤ (n : Int) - 1) ∧ x ≠ y
open Classical in
noncomputable def bsR (f s : List (List Int)) (x y : Int) : List Int := onReg [] (fun f s => if bsOk f.length x y ∧ maxL (solO f s) = 0 then blL (f ++ turnL s) f.length x y else []) f s
open Classical in
noncomputable def bsC (f s : List (List Int)) (x y : Int) : Int := onReg 1 (fun f s => if bsOk f.length x y then (if maxL (solO f s) = 0 then 0 else 5) else 2) f s
def S_bs (pg : Pg) (n : Nat) : Prop := ∀ (f s : List (List Int)) (x y : Int), fits f → fits s → ∃ o, lso o = bsR f s x y ∧ Call pg n [sol f s, I x, I y] [sol f s, I x, I y] (.tup [ownI o, I (bsC f s x y)])
theorem t_bs_spec {pg : Pg} (hp : pg.fn 205 = some c_spec_BlockSystemOf) (h264 : S_reg pg 264) (h30 : S_in pg 30) (h299 : S_solO pg 299) (h288 : S_greatest pg) (h329 : S_blocks pg 329) : S_bs pg 205 := by
  intro f s x y hf hs
  by_cases h : isReg f s
  · have hpm := PM.of h.1.1
    have h12 := hpm.small
    have h0 := hpm.pos
    have hgr : ∀ x ∈ solO f s, 0 ≤ x ∧ x ≤ 1048576 := fun x hx => by have := solO_rng hx; omega
    have hcg := h288 (solO f s) (by simp; omega) hgr
    have hg := greatest_max (solO f s) (by simpa using h0) (fun x hx => (solO_rng hx).1)
    have hb1 := h30 x 0 ((f.length : Int) - 1)
    have hb2 := h30 y 0 ((f.length : Int) - 1)
    by_cases hok : bsOk f.length x y
    · obtain ⟨k1, k2, k3⟩ := id hok
      have hbl := h329 f s x y hpm h.2 (by omega) (by omega)
      refine ⟨if maxL (solO f s) = 0 then some (blL (f ++ turnL s) f.length x y) else none, by by_cases hm : maxL (solO f s) = 0 <;> simp [bsR, onReg_true h, hok, hm], Call.intro hp rfl (by simp) ?_⟩
      show wp _ _ c_spec_BlockSystemOf.body (post [.t 6, .t 7] _ _ _) _
      simp [c_spec_BlockSystemOf]
      refine callR (h264 f s hf hs) rfl rfl (fun _ => rfl) ?_
      simp [dec_true h, bsC, onReg_true h, hok]
      refine ⟨by omega, ?_⟩
      refine callR hb1 rfl rfl (fun _ => rfl) ?_
      simp [k1]
      refine ⟨by omega, ?_⟩
      refine callR hb2 rfl rfl (fun _ => rfl) ?_
      simp [k2, k3]
      refine callR (h299 f s hpm h.2) rfl rfl (fun _ => by simp) ?_
      simp
      refine callR hcg rfl rfl (fun _ => rfl) ?_
      by_cases hm : maxL (solO f s) = 0
      · simp [hg, hm]
        refine callR hbl rfl rfl (fun _ => by simp) ?_
        simp [ownI]
      · have hm2 : ¬ greatest (solO f s) ≤ 1 := by
          have := greatest_nn (solO f s) fun x hx => (hgr x hx).1
          have : 0 ≤ maxL (solO f s) := by
            have := le_greatest (solO f s) (x := (solO f s)[0]'(by simpa using h0)) (List.getElem_mem _)
            have := (hgr _ (List.getElem_mem (show 0 < (solO f s).length by simpa using h0))).1
            omega
          omega
        have hm3 : 1 < greatest (solO f s) := by omega
        simp [hm, hm3, ownI]
    · refine ⟨none, by simp [bsR, onReg_true h, hok], Call.intro hp rfl (by simp) ?_⟩
      show wp _ _ c_spec_BlockSystemOf.body (post [.t 6, .t 7] _ _ _) _
      simp [c_spec_BlockSystemOf]
      refine callR (h264 f s hf hs) rfl rfl (fun _ => rfl) ?_
      simp [dec_true h, bsC, onReg_true h, hok]
      refine ⟨by omega, ?_⟩
      refine callR hb1 rfl rfl (fun _ => rfl) ?_
      by_cases k1 : 0 ≤ x ∧ x ≤ (f.length : Int) - 1
      · simp [k1]
        refine ⟨by omega, ?_⟩
        refine callR hb2 rfl rfl (fun _ => rfl) ?_
        by_cases k2 : 0 ≤ y ∧ y ≤ (f.length : Int) - 1
        · have k3 : x = y := Classical.byContradiction fun hne => hok ⟨k1, k2, hne⟩
          subst k3
          simp [k2, ownI]
        · simp [k2, ownI, undefV]
      · simp [k1, ownI, undefV]
  · refine ⟨none, by simp [bsR, onReg_false h], Call.intro hp rfl (by simp) ?_⟩
    show wp _ _ c_spec_BlockSystemOf.body (post [.t 6, .t 7] _ _ _) _
    simp [c_spec_BlockSystemOf]
    refine callR (h264 f s hf hs) rfl rfl (fun _ => rfl) ?_
    simp [dec_false h, bsC, onReg_false h, ownI]
theorem t_bs_impl {pg : Pg} (hp : pg.fn 206 = some c_impl_BlockSystemOf) (h266 : S_reg pg 266) (h39 : S_areElements pg) (h300 : S_isIndec pg) (h330 : S_blocks pg 330) : S_bs pg 206 := by
  intro f s x y hf hs
  by_cases h : isReg f s
  · have hpm := PM.of h.1.1
    have h12 := hpm.small
    have h0 := hpm.pos
    have hel := h39 f.length [x, y] (by simp) (by omega) (by omega)
    have hin : inR 0 ((f.length : Int) - 1) [x, y] ↔ (0 ≤ x ∧ x ≤ (f.length : Int) - 1) ∧ (0 ≤ y ∧ y ≤ (f.length : Int) - 1) := by simp [inR]
    by_cases hok : bsOk f.length x y
    · obtain ⟨k1, k2, k3⟩ := id hok
      have hbl := h330 f s x y hpm h.2 (by omega) (by omega)
      refine ⟨if maxL (solO f s) = 0 then some (blL (f ++ turnL s) f.length x y) else none, by by_cases hm : maxL (solO f s) = 0 <;> simp [bsR, onReg_true h, hok, hm], Call.intro hp rfl (by simp) ?_⟩
      show wp _ _ c_impl_BlockSystemOf.body (post [.t 6, .t 7] _ _ _) _
      simp [c_impl_BlockSystemOf]
      refine callR (h266 f s hf hs) rfl rfl (fun _ => rfl) ?_
      simp [dec_true h, bsC, onReg_true h, hok]
      refine callR hel rfl rfl (fun _ => rfl) ?_
      simp [hin, k1, k2, k3]
      refine callR (h300 f s hpm h.2) rfl rfl (fun _ => rfl) ?_
      by_cases hm : maxL (solO f s) = 0
      · simp [hm]
        refine callR hbl rfl rfl (fun _ => by simp) ?_
        simp [ownI]
      · simp [hm, ownI]
    · refine ⟨none, by simp [bsR, onReg_true h, hok], Call.intro hp rfl (by simp) ?_⟩
      show wp _ _ c_impl_BlockSystemOf.body (post [.t 6, .t 7] _ _ _) _
      simp [c_impl_BlockSystemOf]
      refine callR (h266 f s hf hs) rfl rfl (fun _ => rfl) ?_
      simp [dec_true h, bsC, onReg_true h, hok]
      refine callR hel rfl rfl (fun _ => rfl) ?_
      by_cases k : (0 ≤ x ∧ x ≤ (f.length : Int) - 1) ∧ (0 ≤ y ∧ y ≤ (f.length : Int) - 1)
      · have k3 : x = y := Classical.byContradiction fun hne => hok ⟨k.1, k.2, hne⟩
        subst k3
        simp [hin, k.1, ownI]
      · simp [hin, k, ownI, undefV]
  · refine ⟨none, by simp [bsR, onReg_false h], Call.intro hp rfl (by simp) ?_⟩
    show wp _ _ c_impl_BlockSystemOf.body (post [.t 6, .t 7] _ _ _) _
    simp [c_impl_BlockSystemOf]
    refine callR (h266 f s hf hs) rfl rfl (fun _ => rfl) ?_
    simp [dec_false h, bsC, onReg_false h, ownI]
theorem blL_len (ms : List (List Int)) (n : Nat) (x y : Int) : (blL ms n x y).length ≤ n := by
  unfold blL
  split
  · rename_i h
    rw [renum_length, h.choose_spec.1.len]
    exact Nat.le_refl _
  · simp
theorem bs_small (f s : List (List Int)) (x y : Int) (hf : fits f) (_ : fits s) : (bsR f s x y).length ≤ 1048576 := by
  have h1 := hf.1
  by_cases h : isReg f s
  · rw [bsR, onReg_true h]
    split
    · exact Nat.le_trans (blL_len _ _ _ _) h1
    · simp
  · rw [bsR, onReg_false h]; simp

/-! ### IsPrimitiveSolution -/

/-- Is the solution primitive? -/
def prim (f s : List (List Int)) : Prop := maxL (solO f s) = 0 ∧ ∀ y : Nat, 1 ≤ y → y < f.length → maxL (blL (f ++ turnL s) f.length 0 y) = 0
end Go.Mch
/- The runs of the laws of IsPrimitiveSolution, BlockSystemOf. -/
namespace Go.Mch
def S_law100 (pg : Pg) : Prop := S_lw_ppI pg 100
theorem t_law100 {pg : Pg} (hp : pg.fn 100 = some (lw_ppI 205 206)) (h205 : S_bs pg 205) (h206 : S_bs pg 206) (h14 : S_szSol pg) (h16 : S_toSol pg) (h18 : S_eqSol pg) (h9 : S_eqI pg) (h22 : S_markSol pg) (h12 : S_markI pg) (h13 : S_heldI pg) : S_law100 pg := by
  exact t_lw_ppI (R0 := bsR) (R1 := bsC) hp h205 h206 bs_small h14 h16 h18 h9 h22 h12 h13
end Go.Mch
